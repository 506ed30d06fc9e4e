import PyProof.Rows.All
import Wide.All
import OpenK.AllK
import Wide.FinOn
import HandS.ForMost
import HandS.AnyAll
import HandS.GenOver
import HandS.Codes
import HandS.EndTab
import HandS.TupAny
import HandS.Zip
import HandS.DictComp
import HandS.Deep
import HandS.More
import HandS.Walk
import KE.KDictZip
import HandS.GenList
import PyProof.EnumMake
import PyProof.Draws
import PyProof.P3In
import HandS.IsInst
import HandS.FStr
import PyProof.ReprRoads
import HandS.Strs
import HandS.HeadHook3
import KE.KNestM
import HandS.EndOwn
import HandS.ReplaceLit
import HandS.ReplaceList
import HandS.Text
import PyProof.ListStr
import HandS.Dict
import HandS.Style
import HandS.WordsExc
import HandS.ExcOwn
import HandS.TryMany
import PyProof.Claim2
import HandS.StrMore
import HandS.DictTup
import KE.KDictPairs
import HandS.Steps
import HandS.Rev
import HandS.NoneIn
import HandS.Nested
import HandS.ExcInit
import HandS.ExcField
import KE.KSuper
import KE.KExcSuper
import HandS.ExcIs
import KE.KExcIs
import HandS.Lambda
import PySem.Challenge.RW_sequenthall_k15_terms_without_bound_name
set_option Elab.async false
set_option linter.all false
set_option maxRecDepth 100000
set_option maxHeartbeats 2000000
/-! Generator expressions with any element (calls, new objects), consumed by all, any, sum. -/
namespace Sq
open PySem PySem.Spec PyProof.Rows L2
open Sem (wp)

theorem ad_no {a b : Nat} (h : a < b) (e : a = b + 1) : False := by omega
theorem ad_lt {a b c d : Nat} (h1 : a < b) (h2 : c = b + 1) (h3 : d = c + 1) : a < d := by omega
theorem ad_ne {a b : Nat} (e : a = b + 1) : a ≠ b := by omega
theorem ad_le {b c d : Nat} (h2 : c = b + 1) (h3 : d = c + 1) : b ≤ d := by omega
theorem ad_lt' {b c d : Nat} (h2 : c = b + 1) (h3 : d = c + 1) : b < d := by omega
theorem ad_ge {a b : Nat} (e : a = b + 1) : b ≤ a := by omega
/-- the frame of a generator expression -/
abbrev gEnv (X : Cx) (scope : Scope) (C : Addr) (code : Value) : Env := genEnv scope (cloFrom X.env.cells scope.names []) C code builtinsNs X.env
/-- the context of a generator expression's turns, made at s -/
abbrev gCx (X : Cx) (s : Shared) (H : Hp) (cenv : Env) (fp : List Addr) : Cx :=
  { X with A := X.A.in1.in1.deeper cenv, s_0 := s, H_0 := H, env := cenv, outer := X.stack, stack := cenv :: X.stack, ex := fp, fn := fun _ => false, pn := [], xe := fun _ _ => False }

section
variable {X : Cx} {pins : List (Addr × Obj)} {σ : L2.St} {H : Hp} {s : Shared}
theorem gen_start {scope : Scope} {own : List (Str × Nat)} {fp : List Addr} {h' : Heap} {g' : Array GenState} {tk : Nat} {code : Value} {m : Str → Option Value} (I : Inv X pins σ H s) (ok : BlkOk X.N X.env.scope scope own) (hcell : ∀ y ∈ scope.names, y.2 ≠ .cell) (hN : X.N.Nodup)
    (hc : X.calm = true) (hfp : ∀ b ∈ fp, FpOk X pins H b ∧ b < s.heap.objs.size) (hns : h'.Ns s.heap.objs.size m) (kp : ∀ b o, s.heap.get? b = some o → h'.get? b = some o) (hg : AllBare g') :
    Inv (gCx X s H (gEnv X scope s.heap.objs.size code) fp) [] (wipe σ (own.map (·.2))) H { s with heap := h', gens := g', toks := tk } := by
  have hfree : ∀ y ∈ scope.names, y.2 = .free → ∃ c, X.env.cells.lookup y.1 = some c := fun y hy e => by
    rcases ok.free y hy e with k | k
    · exact I.ok.has _ (.inl k)
    · exact I.ok.has _ (.inr k)
  have cm : ∀ {y c}, (cloFrom X.env.cells scope.names []).lookup y = some c → X.env.cells.lookup y = some c ∧ c < s.heap.objs.size := fun {y c} e => by
    rcases cloFrom_mem (PySem.mem_of_lookup e) with hm | ⟨h1, h2⟩
    · cases hm
    · obtain ⟨c1, hc⟩ := hfree _ h1 rfl
      have hc : X.env.cells.lookup y = some c1 := hc
      have e2 : c = c1 := by
        rw [h2, hc] <;> rfl
      rw [e2]
      obtain ⟨w, z⟩ := I.cell _ _ hc
      exact ⟨hc, z.lt⟩
  have look : ∀ {y}, scope.names.lookup y = some .free → ∃ c, (cloFrom X.env.cells scope.names []).lookup y = some c := fun {y} hl => by
    have hy : (y, NameKind.free) ∈ scope.names := PySem.mem_of_lookup hl
    exact mem_lookup (cloFrom_has (cells := X.env.cells) (acc := []) hy)
  refine ⟨⟨I.ok.mod, ok.kind, I.ok.glob, rfl, Nat.le_refl _, fun y z c e1 e2 => I.ok.inj y z c (cm e1).1 (cm e2).1, fun y hy => ?_, fun y c z _ => ?_, fun _ => I.ok.hd hc, ?_, .inr ⟨rfl, rfl⟩, fun b hb => ⟨Nat.ne_of_lt (hfp b hb).2, fun y c e => (hfp b hb).1.2.2.2.2.1 y c (cm e).1⟩, I.bs, Nat.le_trans I.ok.bsz I.sz,
      fun b o e hb => ?_, fun b hb z => ?_, I.stack, I.stkFree⟩,
    rfl, hg, Un.kept kp, ⟨_, hns, fun i y v e1 e2 e3 => ?_⟩, fun y c e => ?_, I.hok.fresh (Nat.le_refl _), fun y c e => I.freeC y c (cm e).1, fun q hq => absurd (show q ∈ ([] : List (Addr × Obj)) ++ [] from hq) (by simp), I.hok.kept kp, by rw [wipe_length]; exact I.len⟩
  · have hy : scope.names.lookup y = some .cell ∨ scope.names.lookup y = some .free := hy
    rcases hy with hy | hy
    · exact absurd rfl (hcell _ (PySem.mem_of_lookup hy))
    · exact look hy
  · have z : false = true := z
    cases z
  · exact Around.frames_deeper (A := X.A.in1.in1) I.ok.frames
  · rcases (hfp b hb).1.2.2.2.1 with z | z
    · exact I.ok.noex b o e z
    · exact absurd (Nat.lt_of_lt_of_le (Heap.lt_size e) (Nat.le_trans I.ok.bsz z)) (Nat.lt_irrefl _)
  · rcases List.mem_cons.mp (I.stkSub b z) with z | z
    · exact (hfp b hb).1.2.1 z
    · exact (hfp b hb).1.2.2.1 z
  · obtain ⟨e2, hne⟩ := wipe_some e2
    have e3 : Vis scope y := e3
    have hfr : scope.names.lookup y = some .free := by
      rcases e3 with k | k | k
      · rcases ok.own _ (PySem.mem_of_lookup k) (.inl rfl) with e' | e'
        · obtain ⟨p, hp, hpy⟩ := List.mem_map.mp e'
          have e3 := ok.ix p hp
          have : p.1 = y := hpy
          rw [this] at e3
          exact absurd (List.mem_map.mpr ⟨p, hp, nodup_ix hN e3 e1⟩) hne
        · exact absurd (List.mem_of_getElem? e1) e'
      · exact absurd rfl (hcell _ (PySem.mem_of_lookup k))
      · exact k
    obtain ⟨m, hn, hl⟩ := I.loc
    have hvis : Vis X.env.scope y := (ok.free _ (PySem.mem_of_lookup hfr) rfl).elim (fun k => .inr (.inl k)) (fun k => .inr (.inr k))
    obtain ⟨w, r, q⟩ := hl i y v e1 e2 hvis
    obtain ⟨c, h1⟩ := look hfr
    refine ⟨w, r, .inr ⟨.inr hfr, c, h1, ?_⟩⟩
    have h2 := (cm h1).1
    rcases q with ⟨k, _⟩ | ⟨_, c', e', z⟩
    · have k : X.env.scope.names.lookup y = some .local := k
      rcases ok.free _ (PySem.mem_of_lookup hfr) rfl with k' | k' <;> rw [show X.env.scope.names.lookup y = _ from k'] at k <;> cases k
    · rw [h2] at e'; cases e'
      exact z.keeps kp
  · obtain ⟨w, z⟩ := I.cell y c (cm e).1
    exact ⟨w, z.keeps kp⟩
end

/-! ### a generator's turns -/
section
variable {τ : Type}
/-- what the turns are told: W by the turn, a measure, the consumer's word; N what a turn is to reach; Cons: what the consumer makes of a value; Fin: behind the last -/
def GW (J : It) (g : TG) (tt : TT) (te : TE) (vs : List Nat) (σ : L2.St) (W : Nat → Nat → τ → Hp → Prop) (Cons : τ → V → Hp → (τ → Hp → Prop) → Prop) (Fin : τ → Hp → Prop) : Prop :=
  ∀ i m t H, W i m t H → (J.stop i H ∧ Fin t H) ∨ (J.go i H ∧ ∃ N : τ → Hp → Prop, (∀ t' H', N t' H' → ∃ m', m' < m ∧ W (i + 1) m' t' H') ∧ ∀ x H', J.yld i H x H' → g x (wipe σ vs) H' fun σ2 H2 =>
    wipe σ2 vs = wipe σ vs ∧ tt σ2 H2 fun b H3 => if b = true then te σ2 H3 fun y H4 => Cons t y H4 N else N t H3)
/-- the objects at S stand, pinned -/
def PinS (S : List Addr) (h : Heap) (pl : List (Addr × Obj)) : Prop := ∀ b ∈ S, ∃ o, h.get? b = some o ∧ (b, o) ∈ pl
/-- woken again: what the generator leans on stands -/
def Wake (X : Cx) (S fp : List Addr) (σw : L2.St) (H : Hp) (s s' : Shared) : Prop := (∃ pl, Inv X pl σw H s' ∧ PinS S s'.heap pl) ∧ ∀ b ∈ fp, ∀ o, s.heap.get? b = some o → s'.heap.get? b = some o
def gY (X : Cx) (S fp : List Addr) (TQ : τ → Shared → Prop) (σw : L2.St) (Cons : τ → V → Hp → (τ → Hp → Prop) → Prop) : Protocol := fun n s₀ v s kap =>
  ∃ (t : τ) (N : τ → Hp → Prop) (x : V) (H : Hp), RelV x v ∧ TQ t s₀ ∧ Cons t x H N ∧ (∃ pl, Inv X pl σw H s ∧ PinS S s₀.heap pl) ∧ ∀ t' s'', Wake X S fp σw H s s'' → TQ t' s'' → N t' H → kap (.send .none) s''
def gR (X : Cx) (S : List Addr) (TQ : τ → Shared → Prop) (σw : L2.St) (Fin : τ → Hp → Prop) : GenEnd := fun n s₀ r s => r = .ok .next ∧ ∃ (t : τ) (H : Hp), TQ t s₀ ∧ Fin t H ∧ ∃ pl, Inv X pl σw H s ∧ PinS S s₀.heap pl

theorem over_gen {A : Around} {elt tg iter : Expr} {ifs : List Expr} {scope : Scope} {pos : Pos} {it acc : Value} {env : Env} : A.over (.compLoop (.GeneratorExp elt [⟨tg, iter, ifs, 0⟩] scope pos) 0 it acc env) [] = A.deeper env := by
  first
    | rfl
    | (obtain ⟨hd, d, fr, gs, u⟩ := A; simp [Around.over, Around.deeper, marksOver, frameCount, unitsOf, envsOf, guardsOf, pushEnvs, pushGuards, Code.envs, Code.env?, Code.isFrame, Code.guards, Code.isGuard, Code.weight, Code.frames, Code.isCreation, Code.isCaller, Code.cUnits])
theorem over_genS {A : Around} {elt tg iter : Expr} {ifs : List Expr} {scope : Scope} {pos : Pos} {it acc : Value} {env : Env} : A.over (.compStart (.GeneratorExp elt [⟨tg, iter, ifs, 0⟩] scope pos) 0 it acc env) [] = A.deeper env := by
  first
    | rfl
    | (obtain ⟨hd, d, fr, gs, u⟩ := A; simp [Around.over, Around.deeper, marksOver, frameCount, unitsOf, envsOf, guardsOf, pushEnvs, pushGuards, Code.envs, Code.env?, Code.isFrame, Code.guards, Code.isGuard, Code.weight, Code.frames, Code.isCreation, Code.isCaller, Code.cUnits])

theorem seg_gloop {X : Cx} {A : Around} {elt tg iter : Expr} {ifs : List Expr} {scope : Scope} {pos : Pos} {g : TG} {tt : TT} {te : TE} {vs : List Nat} {σ : L2.St} {J : It} {fp S : List Addr} {it : Addr} {tn : Nat → Heap → Prop} {TQ : τ → Shared → Prop}
    {W : Nat → Nat → τ → Hp → Prop} {Cons : τ → V → Hp → (τ → Hp → Prop) → Prop} {Fin : τ → Hp → Prop}
    (hA : A.deeper X.env = X.A) (hc : X.calm = true) (hco : X.env.scope.isCoroutine = false) (hpn : X.pn = []) (hxe : X.xe = fun _ _ => False) (hex : X.ex = fp) (T : Turn X.prog X.w X.K tg J fp it tn) (pg : PG X tg g) (pt : PTs X ifs tt) (pe : PE X elt te)
    (turn : GW J g tt te vs σ W Cons Fin) (hSf : ∀ b ∈ S, b ∉ fp) :
    ∀ (m n i : Nat) (t : τ) (pl : List (Addr × Obj)) (H : Hp) (s₀ s : Shared), m < n → W i m t H → Inv X pl (wipe σ vs) H s → tn i s.heap → (∀ b ∈ fp, H b = none) → PinS S s₀.heap pl → (∀ p ∈ pl, p.1 ∉ fp) → TQ t s₀ →
      Seg (model X.prog X.w) A (gR X S TQ (wipe σ vs) Fin) (gY X S fp TQ (wipe σ vs) Cons) n s₀
        (.compLoop (.GeneratorExp elt [⟨tg, iter, ifs, 0⟩] scope pos) 0 (.ref it) .none X.env)
        ((model X.prog X.w).den (.compLoop (.GeneratorExp elt [⟨tg, iter, ifs, 0⟩] scope pos) 0 (.ref it) .none X.env)) [] s := by
  intro m
  induction m using Nat.strongRecOn with
  | ind m ih =>
    intro n i t pl H s₀ s hmn w I st nfp hS hpl tq
    have stat : ∀ {σ' : L2.St} {H' : Hp} {s' : Shared}, Inv X pl σ' H' s' → (∀ b ∈ fp, H' b = none) → ∀ b ∈ fp, FpOk X pl H' b := fun {σ' H' s'} I' hn b hb =>
      ⟨hn b hb, (I'.ok.exf b (by rw [hex]; exact hb)).1, I'.ok.exfs b (by rw [hex]; exact hb), .inl (by rw [hex]; exact hb), fun x c e => (I'.ok.exf b (by rw [hex]; exact hb)).2 x c e, fun p hp => fun e => hpl p (by rw [hpn] at hp; simpa using hp) (by rw [e]; exact hb)⟩
    show Seg _ A _ _ _ s₀ _ ((compTurn (.GeneratorExp elt [⟨tg, iter, ifs, 0⟩] scope pos) 0 (.ref it) .none X.env).onRaise (leaving X.env)) [] s
    rw [compTurn_gen, Sem.onRaise_eq_wrap]
    refine seg_bind_wrap (wpAny_standAt ?_)
    rcases turn i m t H w with ⟨stop, fin⟩ | ⟨go, N, hN, step⟩
    · refine seg_bind_wrap ?_
      rw [over_gen, hA]
      refine thnF (T.done X rfl rfl rfl hc i pl s _ H (fun _ _ => False) I (stat I nfp) st stop) fun r s1 ⟨hr, I1⟩ => ?_
      subst hr
      exact seg_end (.ok .next) ⟨rfl, t, H, tq, fin, pl, I1, hS⟩
    · refine seg_bind_wrap ?_
      rw [over_gen, hA]
      refine thnF (T.item X rfl rfl rfl hc i pl s _ H (fun _ _ => False) I (stat I nfp) st go) fun r s6 ⟨u, hr, h6⟩ => ?_
      subst hr
      refine seg_bind_wrap ?_
      rw [over_gen, hA]
      refine thnF h6 fun _ s7 ⟨x, H7, I7, r7, y7, st7, n7⟩ => ?_
      have I7' := I7.pinned (stat I7 n7) (T.obj _ _ st7)
      have E0 : ∀ {α : Type} {t : Sem α} {Q Q' : α → Shared → Prop} {E : Value → Shared → Prop} {s : Shared}, wpAny (model X.prog X.w) X.A t Q X.xe s → (∀ a s, Q a s → Q' a s) → wpAny (model X.prog X.w) X.A t Q' E s := fun {α t Q Q' E s} h hQ => by
        rw [hxe] at h
        exact thnF h hQ
      refine seg_bind_wrap ?_
      rw [over_gen, hA]
      refine E0 (pg.run _ s7 _ H7 x u _ I7' r7 (step x H7 y7)) fun _ s8 ⟨σ8, H8, I8, hw8, q8⟩ => ?_
      refine seg_bind_wrap ?_
      rw [over_gen, hA]
      refine E0 (pt.run _ s8 σ8 H8 _ I8 q8) fun b s9 ⟨H9, I9, q9⟩ => ?_
      -- the turn's end
      have fin : ∀ {s' : Shared} {H' : Hp}, Inv X (pl ++ pinsAt fp s7.heap) σ8 H' s' → Inv X pl (wipe σ vs) H' s' ∧ tn (i + 1) s'.heap ∧ (∀ b ∈ fp, H' b = none) := fun {s' H'} I' => by
        have pin' : ∀ b ∈ fp, ∀ o, s7.heap.get? b = some o → s'.heap.get? b = some o ∧ H' b = none := fun b hb o e =>
          let z := I'.pin (b, o) (List.mem_append_right _ (List.mem_append_right _ (mem_pinsAt hb e)))
          ⟨z.1, z.2.1⟩
        have hl : (wipe σ vs).length = σ8.length := by rw [← hw8, wipe_length]
        refine ⟨I'.unpinned.weak hl (fun j v e => ?_), T.keep _ _ _ st7 fun b hb o e => (pin' b hb o e).1, fun b hb => ?_⟩
        · rw [← hw8] at e
          exact (wipe_some e).1
        · obtain ⟨o, e, _⟩ := T.obj _ _ st7 b hb
          exact (pin' b hb o e).2
      cases b with
      | false =>
        simp only [Bool.false_eq_true, if_false] at q9 ⊢
        obtain ⟨m', hm', w'⟩ := hN _ _ q9
        obtain ⟨J1, J2, J3⟩ := fin I9
        exact seg_again rfl (ih m' hm' n (i + 1) t pl H9 s₀ s9 (Nat.lt_trans hm' hmn) w' J1 J2 J3 hS hpl tq)
      | true =>
        simp only [if_true] at q9 ⊢
        have hy : ∀ v, yieldOut X.env v = yieldValue v := fun v => by simp only [yieldOut, hco, Bool.false_eq_true, if_false]
        simp only [hy]
        rw [Sem.bind_eq_wrap', Sem.bind_eq_wrap', Sem.wrap_wrap, Sem.wrap_wrap]
        refine seg_wrap ?_
        rw [over_gen, hA]
        refine E0 (pe.run _ s9 σ8 H9 _ I9 q9) fun z s10 ⟨yv, H10, I10, r10, cs⟩ => ?_
        obtain ⟨J1, J2, J3⟩ := fin I10
        cases n with
        | zero => exact absurd hmn (Nat.not_lt_zero _)
        | succ k =>
          refine seg_at (seg_yield rfl rfl rfl ⟨t, N, yv, H10, r10, tq, cs, ⟨pl, J1, hS⟩, fun t' s'' wk tq' nx => ?_⟩)
          obtain ⟨⟨pl', I'', hS'⟩, hk⟩ := wk
          obtain ⟨m', hm', w'⟩ := hN _ _ nx
          have hpl' : PinS S s''.heap (S.filterMap fun b => (s''.heap.get? b).map fun o => (b, o)) := fun b hb => by
            obtain ⟨o, e, _⟩ := hS' b hb
            exact ⟨o, e, List.mem_filterMap.mpr ⟨b, hb, by rw [e]; rfl⟩⟩
          have I3 : Inv X (S.filterMap fun b => (s''.heap.get? b).map fun o => (b, o)) (wipe σ vs) H10 s'' := I''.pins_of fun p hp => by
            obtain ⟨b, hb, e⟩ := List.mem_filterMap.mp hp
            obtain ⟨o, e1, hm⟩ := hS' b hb
            rw [e1] at e
            have e' : (b, o) = p := Option.some.inj e
            rw [← e']
            exact I''.pin _ (List.mem_append_right _ hm)
          refine seg_again rfl (ih m' hm' k (i + 1) t' _ H10 s'' s'' (by omega) w' I3 (T.keep _ _ _ J2 fun b hb o e => hk b hb o e) J3 hpl' (fun p hp => ?_) tq')
          obtain ⟨b, hb, e⟩ := List.mem_filterMap.mp hp
          cases e1 : s''.heap.get? b with
          | none => rw [e1] at e; cases e
          | some o =>
            rw [e1] at e
            have e' : (b, o) = p := Option.some.inj e
            rw [← e']
            exact hSf b hb

theorem seg_gstart {X : Cx} {A : Around} {elt tg iter : Expr} {ifs : List Expr} {scope : Scope} {pos : Pos} {J : It} {fp : List Addr} {it : Addr} {tn : Nat → Heap → Prop} {R : GenEnd} {Y : Protocol} {n : Nat} {s₀ s : Shared}
    (T : Turn X.prog X.w X.K tg J fp it tn) (st : tn 0 s.heap)
    (loop : Seg (model X.prog X.w) A R Y n s₀ (.compLoop (.GeneratorExp elt [⟨tg, iter, ifs, 0⟩] scope pos) 0 (.ref it) .none X.env)
        ((model X.prog X.w).den (.compLoop (.GeneratorExp elt [⟨tg, iter, ifs, 0⟩] scope pos) 0 (.ref it) .none X.env)) [] s) :
    Seg (model X.prog X.w) A R Y n s₀ (.compStart (.GeneratorExp elt [⟨tg, iter, ifs, 0⟩] scope pos) 0 (.ref it) .none X.env)
      ((model X.prog X.w).den (.compStart (.GeneratorExp elt [⟨tg, iter, ifs, 0⟩] scope pos) 0 (.ref it) .none X.env)) [] s := by
  show Seg _ A _ _ _ s₀ _ ((compStart (.GeneratorExp elt [⟨tg, iter, ifs, 0⟩] scope pos) 0 (.ref it) .none X.env).onRaise (leaving X.env)) [] s
  unfold compStart
  rw [Sem.onRaise_eq_wrap]
  show Seg _ A _ _ _ s₀ _ ((ask >>= _).wrap _ _ _ _) [] s
  refine seg_bind_wrap (wpAny_askSetting ?_)
  split
  · exact seg_again rfl loop
  · first
      | exact seg_bind_wrap (wpAny_rule (seg_bind_wrap (wpAny_standAt (seg_bind_wrap (T.self _ 0 s _ _ st (seg_again rfl loop))))))
      | (refine seg_bind_wrap (wpAny_rule ?_); show Seg _ A _ _ _ s₀ _ ((standAt iter.pos >>= _).wrap _ _ _ _) [] s; exact seg_bind_wrap (wpAny_standAt (seg_bind_wrap (T.self _ 0 s _ _ st (seg_again rfl loop)))))
end

theorem inv_gens {X : Cx} {pl : List (Addr × Obj)} {σ : L2.St} {H : Hp} {s : Shared} {g' : Array GenState} (I : Inv X pl σ H s) (hg : AllBare g') : Inv X pl σ H { s with gens := g' } :=
  ⟨I.ok, I.os, hg, I.base, I.loc, I.cell, I.free, I.freeC, I.pin, I.hok, I.len⟩
theorem inv_setGen {X : Cx} {pl : List (Addr × Obj)} {σ : L2.St} {H : Hp} {s : Shared} {g : Nat} {x : GenState} (I : Inv X pl σ H s) (hx : x.bare = true) : Inv X pl σ H (s.setGen g x) := by
  refine inv_gens I fun y hy => ?_
  rcases Array.mem_or_eq_of_mem_setIfInBounds hy with h | h
  · exact I.bare y h
  · rw [h]; exact hx

section
variable {τ : Type}
/-- the generator number gn at a, made in X, walks in X' -/
structure GenOn (X X' : Cx) (pins : List (Addr × Obj)) (σ σw : L2.St) (fp : List Addr) (a : Addr) (gn n : Nat) (t0 : τ) (Cons : τ → V → Hp → (τ → Hp → Prop) → Prop) (Fin : τ → Hp → Prop) (H2 : Hp) (s5 : Shared) : Prop where
  gen : s5.heap.IsGen a gn
  inv : ∃ o, s5.heap.get? a = some o ∧ Inv X' [(a, o)] σw H2 s5
  back : ∀ (pl : List (Addr × Obj)) (σ' : L2.St) (H' : Hp) (s' : Shared), Inv X' pl σ' H' s' → Inv X pins σ H' s'
  afp : a ∉ fp
  fpl : ∀ b ∈ fp, b < s5.heap.objs.size
  ex : X'.ex = fp
  pn : X'.pn = []
  sz : X'.s_0.heap.objs.size ≤ s5.heap.objs.size
  cells : ∀ x c, X'.env.cells.lookup x = some c → c < s5.heap.objs.size
  loc : X'.env.locals < s5.heap.objs.size
  fs : ∀ b ∈ X'.fs, b < s5.heap.objs.size
  gens : gn < s5.gens.size
  goes : ∃ gs, s5.gens[gn]? = some gs ∧ ∀ (S : List Addr) (TQ : τ → Shared → Prop), (∀ b ∈ S, b ∉ fp) → ∀ s'' : Shared, Wake X' S fp σw H2 s5 s'' → TQ t0 s'' →
    gs.Goes (model X.prog X.w) X.A.in1.in1 (gR X' S TQ σw Fin) (gY X' S fp TQ σw Cons) n (.send .none) s''

theorem gen_make {X : Cx} {pins : List (Addr × Obj)} {σ : L2.St} {H : Hp} {s : Shared} {c P : Addr} {elt tg iter : Expr} {ifs : List Expr} {gpos : Pos} {scope : Scope} {own : List (Str × Nat)} {wi : TI} {g : TG} {tt : TT} {te : TE} {k : Nat} {Q' : Value → Shared → Prop} {R : Hp → Prop}
    {t0 : τ} {Cons : τ → V → Hp → (τ → Hp → Prop) → Prop} {Fin : τ → Hp → Prop}
    (hr : Room k X.A) (hc : X.calm = true) (hN : X.N.Nodup) (TB : GxR.TabB X.base X.mg c P) (hcode : X.env.code = .ref c) (hi : PI X tg iter wi) (ok : BlkOk X.N X.env.scope scope own) (hcell : ∀ y ∈ scope.names, y.2 ≠ .cell) (hco : scope.isCoroutine = false) (hdot : scope.names.lookup (".0" : Str) = some NameKind.local)
    (hg : ∀ (s : Shared) (H : Hp) (C : Addr) (code : Value) (fp : List Addr), PG (gCx X s H (gEnv X scope C code) fp) tg g) (ht : ∀ (s : Shared) (H : Hp) (C : Addr) (code : Value) (fp : List Addr), PTs (gCx X s H (gEnv X scope C code) fp) ifs tt)
    (he : ∀ (s : Shared) (H : Hp) (C : Addr) (code : Value) (fp : List Addr), PE (gCx X s H (gEnv X scope C code) fp) elt te)
    (hs : ∀ v, genFold iter X.env v = pure v) (I : Inv X pins σ H s)
    (h : wi σ H fun J H1 => GxR.TabG H1 P ∧ ∀ H2, GxR.Tabbed P H1 H2 → ∃ W : Nat → Nat → τ → Hp → Prop, (∃ m, W 0 m t0 H2) ∧ GW J g tt te (own.map (·.2)) σ W Cons Fin)
    (hQ : ∀ (X' : Cx) (fp : List Addr) (a : Addr) (gn n : Nat) (H2 : Hp) (s5 : Shared), GenOn X X' pins σ (wipe σ (own.map (·.2))) fp a gn n t0 Cons Fin H2 s5 → X'.prog = X.prog → X'.w = X.w → Q' (.ref a) s5) :
    wpAny (model X.prog X.w) X.A (eval (.GeneratorExp elt [⟨tg, iter, ifs, 0⟩] scope gpos) X.env) Q' X.xe s := by
  have hfree : ∀ y ∈ scope.names, y.2 = .free → ∃ c, X.env.cells.lookup y.1 = some c := fun y hy e => by
    rcases ok.free y hy e with k | k
    · exact I.ok.has _ (.inl k)
    · exact I.ok.has _ (.inr k)
  refine wpAny_GeneratorExp_make hco (closure_ok hfree) hcell hdot ok.kind (by have := hr.dp; omega) ?_ hs
  refine thn (hi.run pins s σ H _ I h) fun xv s1 hx => thn hx fun itv s2 h2 => ?_
  obtain ⟨it, fp, tn, J, H1, e, I2, T, st2, f2, ⟨ps, hP, ht3⟩, q⟩ := h2
  subst e
  refine ⟨I2.nolimit, ?_⟩
  have hPs : s2.heap.get? P = some { cls := .none, data := .fields ps } := I2.hok P _ hP
  have cd : PySem.W.CodeHd s2.heap c P := TB.code.keeps fun b u e => I2.bk b u e
  have cont : ∀ (code : Value) (h3 : Heap) (tk : Nat) (more : Array Value), Heap.ExtBut P s2.heap h3 → s2.heap.objs.size ≤ h3.objs.size → h3.get? P = some { cls := .none, data := .fields (ps ++ more) } → TriplesOk (ps ++ more).toList →
      wpAny (model X.prog X.w) X.A (builtinsFor X.env.globals X.env.builtins) (fun bi s₄ =>
        ∀ h', h'.Ns s₄.heap.objs.size (fun y => if y = ".0" then some (.ref it) else none) → Heap.SameBut s₄.heap.objs.size (s₄.heap.push { cls := .type "frame", data := .dict #[] }) h' →
          Q' (.ref h'.objs.size) { s₄ with
            gens := s₄.gens.push (.fresh (.compStart (.GeneratorExp elt [⟨tg, iter, ifs, 0⟩] scope gpos) 0 (.ref it) .none (genEnv scope (cloFrom X.env.cells scope.names []) s₄.heap.objs.size code bi X.env))),
            toks := s₄.toks + 1 + 1 + 1,
            heap := h'.push { cls := .type "generator", data := .fields #[.int s₄.gens.size 0, .str "<genexpr>" (s₄.toks + 1), .str (X.env.qual ++ "<genexpr>") (s₄.toks + 1 + 1)] } }) X.xe { s2 with heap := h3, toks := tk } := by
    intro code h3 tk more hx hsz hP3 ht4
    obtain ⟨bm, ob, e1, e2, e3, e4, e5, e6, e7, e8⟩ := TB.bm
    have keep3 : ∀ b u, b ≠ P → s2.heap.get? b = some u → h3.get? b = some u := fun b u hb e => hx b u hb e
    refine wpAny_builtinsFor (m := X.mg) (by rw [I2.ok.glob]; exact (I2.mod.glob.keeps I2.bk).extBut hx TB.gP) e1 e2 (keep3 _ _ e4 (I2.bk _ _ e5)) e6 e7 e8 ?_
    intro h' hn' hs'
    have I4 : Inv X pins σ (upd H1 P (.tbl (ps ++ more))) { s2 with heap := h3, toks := tk } := GxR.inv_tab (more := more) (h' := h3) (g' := s2.gens) (d' := s2.drawn) (t' := tk) I2 hP keep3 hP3 I2.bare
    have hTb : GxR.Tabbed P H1 (upd H1 P (.tbl (ps ++ more))) := ⟨⟨ps ++ more, upd_same, ht4⟩, fun b hb => upd_ne hb⟩
    obtain ⟨W, ⟨m0, w0⟩, gw⟩ := q _ hTb
    generalize hH2 : upd H1 P (.tbl (ps ++ more)) = H2 at I4 w0
    generalize hs4 : ({ s2 with heap := h3, toks := tk } : Shared) = s4 at I4 hn' hs' ⊢
    have hh4 : s4.heap = h3 := by rw [← hs4]
    have hsz' : h'.objs.size = s4.heap.objs.size + 1 := by rw [hs'.1, Heap.size_push]
    have keep' : ∀ b o, s4.heap.get? b = some o → h'.get? b = some o := fun b o e => hs'.extBut b o (Nat.ne_of_lt (Heap.lt_size e)) (Heap.get?_push_of_some _ e)
    have fpP : ∀ b ∈ fp, b ≠ P := fun b hb z => by
      have := (f2 b hb).1
      rw [z, hP] at this
      cases this
    have f4 : ∀ b ∈ fp, FpOk X pins H2 b ∧ b < s4.heap.objs.size := fun b hb => by
      obtain ⟨o, e, _⟩ := T.obj _ _ st2 b hb
      refine ⟨⟨?_, (f2 b hb).2⟩, ?_⟩
      · rw [← hH2, upd_ne (fpP b hb)]
        exact (f2 b hb).1
      · rw [hh4]
        exact Heap.lt_size (keep3 b o (fpP b hb) e)
    have st4 : tn 0 s4.heap := T.keep _ _ _ st2 fun b hb o e => by rw [hh4]; exact keep3 b o (fpP b hb) e
    generalize hh5 : h'.push { cls := .type "generator", data := .fields #[.int s4.gens.size 0, .str "<genexpr>" (s4.toks + 1), .str (X.env.qual ++ "<genexpr>") (s4.toks + 1 + 1)] } = h5
    have hget : h5.get? h'.objs.size = some { cls := .type "generator", data := .fields #[.int s4.gens.size 0, .str "<genexpr>" (s4.toks + 1), .str (X.env.qual ++ "<genexpr>") (s4.toks + 1 + 1)] } := by
      rw [← hh5]; exact Heap.get?_push_size _ rfl
    have h5sz : h5.objs.size = h'.objs.size + 1 := by rw [← hh5, Heap.size_push]
    have keep5 : ∀ b o, h'.get? b = some o → h5.get? b = some o := fun b o e => by rw [← hh5]; exact Heap.get?_push_of_some _ e
    have hns5 : h5.Ns s4.heap.objs.size (fun y => if y = ".0" then some (.ref it) else none) := by rw [← hh5]; exact hn'.push _
    have bare5 : AllBare (s4.gens.push (.fresh (.compStart (.GeneratorExp elt [⟨tg, iter, ifs, 0⟩] scope gpos) 0 (.ref it) .none (genEnv scope (cloFrom X.env.cells scope.names []) s4.heap.objs.size code builtinsNs X.env)))) := I4.bare.push rfl
    have I5 := gen_start (h' := h5) (g' := s4.gens.push (.fresh (.compStart (.GeneratorExp elt [⟨tg, iter, ifs, 0⟩] scope gpos) 0 (.ref it) .none (genEnv scope (cloFrom X.env.cells scope.names []) s4.heap.objs.size code builtinsNs X.env)))) (tk := s4.toks + 1 + 1 + 1) (code := code) I4 ok hcell hN hc f4 hns5 (fun b o e => keep5 b o (keep' b o e)) bare5
    refine hQ (gCx X s4 H2 (gEnv X scope s4.heap.objs.size code) fp) fp h'.objs.size s4.gens.size (m0 + 1) H2 _ ?_ rfl rfl
    have afp : h'.objs.size ∉ fp := fun hm => by
      exact ad_no (f4 _ hm).2 hsz'
    have cm : ∀ {y c}, (cloFrom X.env.cells scope.names []).lookup y = some c → c < s4.heap.objs.size := fun {y c} e => by
      rcases cloFrom_mem (PySem.mem_of_lookup e) with hm | ⟨h1, h2⟩
      · cases hm
      · obtain ⟨c1, hc1⟩ := hfree _ h1 rfl
        have hc1 : X.env.cells.lookup y = some c1 := hc1
        have e2 : c = c1 := by
          rw [h2, hc1] <;> rfl
        rw [e2]
        obtain ⟨w, z⟩ := I4.cell _ _ hc1
        exact z.lt
    have fsl : ∀ b ∈ frs X.stack, b < s4.heap.objs.size := fun b hb => by
      rcases List.mem_cons.mp (I4.stkSub b hb) with z | z
      · rw [z]; exact I4.lt
      · rcases Nat.lt_or_ge b s4.heap.objs.size with y | y
        · exact y
        · exact absurd z (I4.nofs y)
    refine ⟨⟨_, _, _, hget, rfl, rfl, rfl⟩, ⟨_, hget, I5.pins_of fun p hp => ?_⟩, fun pl σ' H' s' I' => ?_, afp, fun b hb => ?_, rfl, rfl, ?_, fun x c e => ?_, ?_, fun b hb => ?_, ?_, ⟨_, Array.getElem?_push_size .., fun S TQ hSf s'' wk tq => ⟨rfl, ?_⟩⟩⟩
    · have hp' : p = (h'.objs.size, ({ cls := .type "generator", data := .fields #[.int s4.gens.size 0, .str "<genexpr>" (s4.toks + 1), .str (X.env.qual ++ "<genexpr>") (s4.toks + 1 + 1)] } : Obj)) := List.mem_singleton.mp hp
      subst hp'
      refine ⟨hget, I4.hok.fresh (ad_ge hsz'), ?_, fun z => ?_, fun v q => by cases q⟩
      · show h'.objs.size ≠ s4.heap.objs.size
        exact ad_ne hsz'
      · exact ad_no (fsl _ z) hsz'
    · refine I4.call' (ch := fp) I'.os I'.base I'.hok I'.bare fun b hb => ⟨(f4 b hb).1.2.2.2.1, (f4 b hb).1.2.1, (f4 b hb).1.2.2.2.2.1, (f4 b hb).1.2.2.2.2.2⟩
    · exact ad_lt (f4 b hb).2 hsz' h5sz
    · exact ad_le hsz' h5sz
    · exact ad_lt (cm e) hsz' h5sz
    · exact ad_lt' hsz' h5sz
    · exact ad_lt (fsl b hb) hsz' h5sz
    · show s4.gens.size < (s4.gens.push _).size
      rw [Array.size_push]; omega
    · obtain ⟨⟨pl, I6, hS⟩, hk⟩ := wk
      have hpl' : PinS S s''.heap (S.filterMap fun b => (s''.heap.get? b).map fun o => (b, o)) := fun b hb => by
        obtain ⟨o, e, _⟩ := hS b hb
        exact ⟨o, e, List.mem_filterMap.mpr ⟨b, hb, by rw [e]; rfl⟩⟩
      have I7 : Inv (gCx X s4 H2 (gEnv X scope s4.heap.objs.size code) fp) (S.filterMap fun b => (s''.heap.get? b).map fun o => (b, o)) (wipe σ (own.map (·.2))) H2 s'' := I6.pins_of fun p hp => by
        obtain ⟨b, hb, e⟩ := List.mem_filterMap.mp hp
        obtain ⟨o, e1, hm⟩ := hS b hb
        rw [e1] at e
        have e' : (b, o) = p := Option.some.inj e
        rw [← e']
        exact I6.pin _ (List.mem_append_right _ hm)
      have st7 : tn 0 s''.heap := T.keep _ _ _ st4 fun b hb o e => hk b hb o (keep5 b o (keep' b o e))
      refine seg_gstart (X := gCx X s4 H2 (gEnv X scope s4.heap.objs.size code) fp) T st7 (seg_gloop (X := gCx X s4 H2 (gEnv X scope s4.heap.objs.size code) fp) rfl hc hco rfl rfl rfl T (hg _ _ _ _ _) (ht _ _ _ _ _) (he _ _ _ _ _) gw hSf m0 (m0 + 1) 0 t0 _ H2 s'' s'' (Nat.lt_succ_self _) w0 I7 st7 (fun b hb => (f4 b hb).1.1) hpl' (fun p hp => ?_) tq)
      obtain ⟨b, hb, e⟩ := List.mem_filterMap.mp hp
      cases e1 : s''.heap.get? b with
      | none => rw [e1] at e; cases e
      | some o =>
        rw [e1] at e
        have e' : (b, o) = p := Option.some.inj e
        rw [← e']
        exact hSf b hb
  cases hf : codeAmong gpos ps.toList with
  | none =>
    refine wpAny_genexprCodeX hcode (cd.code hPs ht3) (cd.tab hPs) hf fun c' h' tk hx hge hlt hco' _ htab' _ => ?_
    obtain ⟨o1, vs, f1, tf, fl, tg', inF, tx, tt', op, _, _, _, _, _, _, _, _, _, htr, _⟩ := hco'
    exact cont _ h' tk _ hx (Nat.le_trans hge (Nat.le_of_lt hlt)) htab'.2 htr
  | some cv =>
    refine wpAny_genexprCode_hit hcode (cd.code hPs ht3) hf ?_
    have e0 : ps ++ #[] = ps := by simp
    exact cont cv s2.heap s2.toks #[] (Heap.ExtBut.refl _ _) (Nat.le_refl _) (by rw [e0]; exact hPs) (by rw [e0]; exact ht3)
end

/-! ### the consumers -/
section
variable {X X' : Cx} {pins : List (Addr × Obj)} {σ σw : L2.St} {fp : List Addr} {a : Addr} {gn : Nat}
/-- all, any: between two turns -/
def TruSt (X X' : Cx) (σw : L2.St) (fp : List Addr) (a : Addr) (gn n : Nat) (Cons : Unit → V → Hp → (Unit → Hp → Prop) → Prop) (Fin : Unit → Hp → Prop) (s : Shared) : Prop :=
  s.heap.IsGen a gn ∧ s.heap.NoLimit ∧ gn < s.gens.size ∧ ∃ gs, s.gens[gn]? = some gs ∧ gs.Goes (model X.prog X.w) X.A.in1.in1 (gR X' [a] (fun _ _ => True) σw Fin) (gY X' [a] fp (fun _ _ => True) σw Cons) n (.send .none) (s.setGen gn .running)
theorem gen_pin {s : Shared} {h : Heap} {pl : List (Addr × Obj)} {S : List Addr} {σ' : L2.St} {H : Hp} {s0 : Shared} (hb : a ∈ S) (hg : h.IsGen a gn) (hS : PinS S h pl) (I : Inv X' pl σ' H s0) : s0.heap.IsGen a gn := by
  obtain ⟨o, e, hm⟩ := hS a hb
  obtain ⟨o', nm, qn, e', r⟩ := hg
  rw [e] at e'
  cases e'
  exact ⟨o, nm, qn, (I.pin _ (List.mem_append_right _ hm)).1, r⟩
theorem setGen_at {s : Shared} {g : Nat} {x : GenState} (h : g < s.gens.size) : (s.setGen g x).gens[g]? = some x := by
  simp [Shared.setGen, h]
theorem setGen_sz {s : Shared} {g : Nat} {x : GenState} : (s.setGen g x).gens.size = s.gens.size := GenW.setGen_size s g x

/-- one turn of a consumer's loop: the generator hands out a value, or is through -/
theorem next_gen {τ : Type} {Cons : τ → V → Hp → (τ → Hp → Prop) → Prop} {Fin : τ → Hp → Prop} {S : List Addr} {TQ : τ → Shared → Prop} {n : Nat} {s : Shared} {Q : Option Value → Shared → Prop} {E : Value → Shared → Prop} {k : Nat}
    (hr : Room k X.A) (hS : a ∈ S) (hg : s.heap.IsGen a gn) (hl : s.heap.NoLimit) (hgn : gn < s.gens.size) (hgo : ∃ gs, s.gens[gn]? = some gs ∧ gs.Goes (model X.prog X.w) X.A.in1.in1 (gR X' S TQ σw Fin) (gY X' S fp TQ σw Cons) n (.send .none) (s.setGen gn .running))
    (hY : ∀ (v : Value) (x : V) (t : τ) (N : τ → Hp → Prop) (H : Hp) (s1 : Shared) (gs' : GenState) (pl : List (Addr × Obj)), RelV x v → TQ t (s.setGen gn .running) → Cons t x H N → gs'.bare = true → Inv X' pl σw H s1 → PinS S s.heap pl → gn < s1.gens.size → s1.heap.IsGen a gn →
      (∀ t' s'', Wake X' S fp σw H s1 s'' → TQ t' s'' → N t' H → ∃ m, m + 1 = n ∧ gs'.Goes (model X.prog X.w) X.A.in1.in1 (gR X' S TQ σw Fin) (gY X' S fp TQ σw Cons) m (.send .none) s'') → Q (some v) (s1.setGen gn gs'))
    (hF : ∀ (t : τ) (H : Hp) (s1 : Shared) (pl : List (Addr × Obj)) (h' : Heap), TQ t (s.setGen gn .running) → Fin t H → Inv X' pl σw H { s1.setGen gn .finished with heap := h' } → PinS S s.heap pl → Q none { s1.setGen gn .finished with heap := h' }) :
    wpAny (model X.prog X.w) X.A.in1 (pyNext (.ref a)) Q E s := by
  obtain ⟨gs, hgs, hgo⟩ := hgo
  refine GenW.wpAny_gsz (n := gn + 1) hgn ?_
  refine wpAny_pyNext_genexpQ (A := X.A.in1) (P := fun n s₀ s1 => ∃ (t : τ) (H : Hp), TQ t s₀ ∧ Fin t H ∧ ∃ pl, Inv X' pl σw H s1 ∧ PinS S s₀.heap pl) hr.hd hl (by have := hr.dp; show X.A.depth < _; omega) hg hgs hgo (fun v s1 gs' hb hv hsz => ?_) (fun s1 hp h' hk _ => ?_)
  · obtain ⟨t, N, x, H, rv, tq, cs, ⟨pl, I1, hpl⟩, kap⟩ := hv
    rw [setGen_sz] at hsz
    refine hY v x t N H s1 gs' pl rv tq cs hb I1 hpl hsz (gen_pin (s := s1) hS hg hpl I1) fun t' s'' wk tq' nx => ?_
    have z := kap t' s'' wk tq' nx
    cases n with
    | zero => exact z.elim
    | succ m => exact ⟨m, rfl, z⟩
  · obtain ⟨t, H, tq, fin, pl, I1, hpl⟩ := hp
    exact hF t H s1 pl h' tq fin ((inv_setGen I1 rfl).kept (t' := s1.toks) hk) hpl

theorem all_loop {k : Nat} {Qf : Hp → Prop} {Fin : Unit → Hp → Prop} {R : Result → Shared → Prop} (hr : Room k X.A)
    (back : ∀ (pl : List (Addr × Obj)) (σ' : L2.St) (H' : Hp) (s' : Shared), Inv X' pl σ' H' s' → Inv X pins σ H' s')
    (hT : ∀ H s', Inv X pins σ H s' → Fin () H → R (.ok (.ret (.bool true))) s') (hF : ∀ H s', Inv X pins σ H s' → Qf H → R (.ok (.ret (.bool false))) s') :
    ∀ (n : Nat) (s : Shared), TruSt X X' σw fp a gn n (fun _ y H N => ∃ b, y = .bl b ∧ if b = true then N () H else Qf H) Fin s → codeAny (model X.prog X.w) X.A (.builtin "all.loop" ⟨[.ref a], []⟩) R s := by
  intro n
  induction n using Nat.strongRecOn with
  | ind n ih =>
    intro s ⟨hg, hl, hgn, hgo⟩
    refine codeAny_builtin F.entry_all_loop ?_
    rw [Around.under_plainId F.plain_all_loop _]
    show wpAny _ X.A.in1 (pyNext (.ref a) >>= _) _ _ s
    refine wpAny_bind (next_gen (S := [a]) (TQ := fun _ _ => True) hr List.mem_cons_self hg hl hgn hgo (fun v x t N H s1 gs' pl rv _ cs hb I1 hpl hgn1 hg1 kap => ?_) (fun t H s1 pl h' _ fin I1 hpl => ?_))
    · obtain ⟨b, rfl, q⟩ := cs
      obtain rfl : v = Value.bool b := rv
      refine wpAny_bind (wpAny_holding (wpAny_truthy_bool ?_))
      refine wpAny_bind (wpAny_letGo ?_)
      have J1 : Inv X' pl σw H (s1.setGen gn gs') := inv_setGen I1 hb
      cases b with
      | true =>
        simp only [if_true] at q ⊢
        have J2 : Inv X' pl σw H ((s1.setGen gn gs').setGen gn .running) := inv_setGen J1 rfl
        obtain ⟨m, hm, z⟩ := kap () _ ⟨⟨pl, J2, fun b hb => (by
          obtain ⟨o, _, hm⟩ := hpl b hb
          exact ⟨o, (I1.pin _ (List.mem_append_right _ hm)).1, hm⟩)⟩, fun b _ o e => e⟩ trivial q
        refine wpAny_pure ⟨plainId_quiet F.plain_all_loop _, ih m (by omega) _ ⟨hg1, J1.nolimit, by rw [setGen_sz]; exact hgn1, gs', setGen_at hgn1, z⟩⟩
      | false =>
        simp only [Bool.false_eq_true, if_false] at q ⊢
        exact wpAny_bind (wpAny_rule (wpAny_pure (hF H _ (back _ _ _ _ J1) q)))
    · exact wpAny_bind (wpAny_rule (wpAny_pure (hT H _ (back _ _ _ _ I1) fin)))

theorem any_loop {k : Nat} {Qt : Hp → Prop} {Fin : Unit → Hp → Prop} {R : Result → Shared → Prop} (hr : Room k X.A)
    (back : ∀ (pl : List (Addr × Obj)) (σ' : L2.St) (H' : Hp) (s' : Shared), Inv X' pl σ' H' s' → Inv X pins σ H' s')
    (hF : ∀ H s', Inv X pins σ H s' → Fin () H → R (.ok (.ret (.bool false))) s') (hT : ∀ H s', Inv X pins σ H s' → Qt H → R (.ok (.ret (.bool true))) s') :
    ∀ (n : Nat) (s : Shared), TruSt X X' σw fp a gn n (fun _ y H N => ∃ b, y = .bl b ∧ if b = true then Qt H else N () H) Fin s → codeAny (model X.prog X.w) X.A (.builtin "any.loop" ⟨[.ref a], []⟩) R s := by
  intro n
  induction n using Nat.strongRecOn with
  | ind n ih =>
    intro s ⟨hg, hl, hgn, hgo⟩
    refine codeAny_builtin F.entry_any_loop ?_
    rw [Around.under_plainId F.plain_any_loop _]
    show wpAny _ X.A.in1 (pyNext (.ref a) >>= _) _ _ s
    refine wpAny_bind (next_gen (S := [a]) (TQ := fun _ _ => True) hr List.mem_cons_self hg hl hgn hgo (fun v x t N H s1 gs' pl rv _ cs hb I1 hpl hgn1 hg1 kap => ?_) (fun t H s1 pl h' _ fin I1 hpl => ?_))
    · obtain ⟨b, rfl, q⟩ := cs
      obtain rfl : v = Value.bool b := rv
      refine wpAny_bind (wpAny_holding (wpAny_truthy_bool ?_))
      refine wpAny_bind (wpAny_letGo ?_)
      have J1 : Inv X' pl σw H (s1.setGen gn gs') := inv_setGen I1 hb
      cases b with
      | false =>
        simp only [Bool.false_eq_true, if_false] at q ⊢
        have J2 : Inv X' pl σw H ((s1.setGen gn gs').setGen gn .running) := inv_setGen J1 rfl
        obtain ⟨m, hm, z⟩ := kap () _ ⟨⟨pl, J2, fun b hb => (by
          obtain ⟨o, _, hm⟩ := hpl b hb
          exact ⟨o, (I1.pin _ (List.mem_append_right _ hm)).1, hm⟩)⟩, fun b _ o e => e⟩ trivial q
        refine wpAny_pure ⟨plainId_quiet F.plain_any_loop _, ih m (by omega) _ ⟨hg1, J1.nolimit, by rw [setGen_sz]; exact hgn1, gs', setGen_at hgn1, z⟩⟩
      | true =>
        simp only [if_true] at q ⊢
        exact wpAny_bind (wpAny_rule (wpAny_pure (hT H _ (back _ _ _ _ J1) q)))
    · exact wpAny_bind (wpAny_rule (wpAny_pure (hF H _ (back _ _ _ _ I1) fin)))

/-! sum: the total stands in a list of the consumer's own, at Z -/
def TotAt (Z : Addr) (t : Int) (s : Shared) : Prop := ∃ (tk : Tok) (c : Nat), s.heap.get? Z = some { cls := .type "list", dict := none, data := .seq #[.int t tk] c, slots := #[] }
theorem TotAt.inj {Z : Addr} {t u : Int} {s : Shared} (h : TotAt Z t s) (h' : TotAt Z u s) : t = u := by
  obtain ⟨tk, c, e⟩ := h
  obtain ⟨tk', c', e'⟩ := h'
  rw [e] at e'
  have z := Option.some.inj e'
  injection z with z1 z2 z3 z4
  injection z3 with z5 z6
  have z7 : ([.int t tk] : List Value) = [.int u tk'] := congrArg Array.toList z5
  injection z7 with z8 _
  injection z8
/-- the list at Z is out of the generator's reach -/
structure ZOk (X' : Cx) (fp : List Addr) (a Z : Addr) : Prop where
  sz : X'.s_0.heap.objs.size ≤ Z
  loc : Z ≠ X'.env.locals
  fs : Z ∉ X'.fs
  cells : ∀ x c, X'.env.cells.lookup x = some c → c ≠ Z
  za : Z ≠ a
  zfp : Z ∉ fp
  afp : a ∉ fp
  pn : X'.pn = []
def SumSt (X X' : Cx) (σw : L2.St) (fp : List Addr) (a Z : Addr) (gn n : Nat) (t : Int) (Cons : Int → V → Hp → (Int → Hp → Prop) → Prop) (Fin : Int → Hp → Prop) (s : Shared) : Prop :=
  s.heap.IsGen a gn ∧ s.heap.NoLimit ∧ gn < s.gens.size ∧ TotAt Z t s ∧ ∃ gs, s.gens[gn]? = some gs ∧ gs.Goes (model X.prog X.w) X.A.in1.in1 (gR X' [a, Z] (TotAt Z) σw Fin) (gY X' [a, Z] fp (TotAt Z) σw Cons) n (.send .none) (s.setGen gn .running)
theorem sum_loop {Z : Addr} {k : Nat} {Fin : Int → Hp → Prop} {R : Result → Shared → Prop} (hr : Room k X.A) (z : ZOk X' fp a Z)
    (back : ∀ (pl : List (Addr × Obj)) (σ' : L2.St) (H' : Hp) (s' : Shared), Inv X' pl σ' H' s' → Inv X pins σ H' s')
    (hF : ∀ t H s' tk, Inv X pins σ H s' → Fin t H → R (.ok (.ret (.int t tk))) s') :
    ∀ (n : Nat) (t : Int) (s : Shared), SumSt X X' σw fp a Z gn n t (fun t y H N => ∃ j, y = .int j ∧ (InLong j ∧ InLong (t + j)) ∧ N (t + j) H) Fin s →
      codeAny (model X.prog X.w) X.A (.builtin "sum.loop" ⟨[.ref a, .ref Z, rawInt 0, rawInt 0], []⟩) R s := by
  intro n
  induction n using Nat.strongRecOn with
  | ind n ih =>
    intro t s ⟨hg, hl, hgn, hZ, hgo⟩
    obtain ⟨tA, c, hS⟩ := id hZ
    refine codeAny_builtin F.entry_sum_loop ?_
    rw [Around.under_plainId F.plain_sum_loop _]
    show wpAny _ X.A.in1 (seqItems? (.ref Z) >>= _) _ _ s
    refine wpAny_bind (wpAny_seqItems hS rfl ?_)
    show wpAny _ X.A.in1 (tryCatch (pyNext (.ref a)) _ >>= _) _ _ s
    refine wpAny_bind (wpAny_tryCatch (next_gen (S := [a, Z]) (TQ := TotAt Z) hr List.mem_cons_self hg hl hgn hgo (fun v x t' N H s1 gs' pl rv tq cs hb I1 hpl hgn1 hg1 kap => ?_) (fun t' H s1 pl h' tq fin I1 hpl => ?_)))
    · have et : t' = t := TotAt.inj tq hZ
      subst et
      obtain ⟨j, rfl, ⟨⟨f1, f2⟩, f3, f4⟩, nx⟩ := cs
      obtain ⟨tv, rfl⟩ : ∃ tv, v = Value.int j tv := rv
      have hc : ((decide (-(2 ^ 63) ≤ j) && decide (j < 2 ^ 63)) && (decide (-(2 ^ 63) ≤ t' + j) && decide (t' + j < 2 ^ 63))) = true := by
        simp only [Bool.and_eq_true, decide_eq_true_eq]
        exact ⟨⟨f1, f2⟩, f3, f4⟩
      obtain ⟨oz, ez, hmz⟩ := hpl Z (List.mem_cons_of_mem _ List.mem_cons_self)
      obtain ⟨oa, ea, hma⟩ := hpl a List.mem_cons_self
      rw [hS] at ez
      cases ez
      obtain ⟨pz1, pz2, pz3, pz4, _⟩ := I1.pin _ (List.mem_append_right _ hmz)
      obtain ⟨pa1, pa2, pa3, pa4, pa5⟩ := I1.pin _ (List.mem_append_right _ hma)
      have J1 : Inv X' [(a, oa)] σw H (s1.setGen gn gs') := (inv_setGen I1 hb).pins_of fun p hp => by
        rw [List.mem_singleton.mp hp]
        exact ⟨pa1, pa2, pa3, pa4, pa5⟩
      show wpAny _ X.A.in1 (if (_ : Bool) = true then (mkInt (t' + j) >>= _) else _) _ _ _
      split
      · refine wpAny_bind (wpAny_mkInt ?_)
        show wpAny _ X.A.in1 (updateSeq Z (fun _ => #[.int (t' + j) s1.toks]) >>= _) _ _ _
        refine wpAny_bind ?_
        refine wpAny_updateSeq pz1 rfl (wpAny_pure ⟨plainId_quiet F.plain_sum_loop _, ?_⟩)
        have kh : ∀ b o, b ≠ Z → s1.heap.get? b = some o → (s1.heap.update Z (Obj.mapSeq fun _ => #[.int (t' + j) s1.toks])).get? b = some o := fun b o hb e => (Heap.get?_update_other _ _ (fun h : Z = b => hb h.symm)).trans e
        have J2 : Inv X' [(a, oa)] σw H { s1.setGen gn gs' with heap := s1.heap.update Z (Obj.mapSeq fun _ => #[.int (t' + j) s1.toks]), toks := s1.toks + 1 } :=
          J1.turned (t' := s1.toks + 1) kh pz2 z.loc (.inr z.sz) z.cells fun p hp => by
            rw [z.pn] at hp
            have hp2 : p = (a, oa) := by simpa using hp
            rw [hp2]
            exact fun e => z.za e.symm
        have eZ := Heap.get?_update_self (h := s1.heap) (Obj.mapSeq fun _ => #[.int (t' + j) s1.toks]) pz1 rfl
        have J3 : Inv X' [(a, oa), (Z, (Obj.mapSeq (fun _ => #[.int (t' + j) s1.toks])) { cls := .type "list", dict := none, data := .seq #[.int t' tA] c, slots := #[] })] σw H { s1.setGen gn gs' with heap := s1.heap.update Z (Obj.mapSeq fun _ => #[.int (t' + j) s1.toks]), toks := s1.toks + 1 } := J2.pins_of fun p hp => by
          rcases List.mem_cons.mp hp with hp | hp
          · exact J2.pin p (List.mem_append_right _ (by rw [hp]; exact List.mem_cons_self))
          · rw [List.mem_singleton.mp hp]
            exact ⟨eZ, pz2, pz3, pz4, fun v q => by cases q⟩
        obtain ⟨m, hm, zz⟩ := kap (t' + j) (({ s1.setGen gn gs' with heap := s1.heap.update Z (Obj.mapSeq fun _ => #[.int (t' + j) s1.toks]), toks := s1.toks + 1 } : Shared).setGen gn .running) ⟨⟨_, inv_setGen J3 rfl, fun b hb => (by
          rcases List.mem_cons.mp hb with hb | hb
          · rw [hb]
            exact ⟨oa, (J3.pin _ (List.mem_append_right _ List.mem_cons_self)).1, List.mem_cons_self⟩
          · rw [List.mem_singleton.mp hb]
            exact ⟨_, eZ, List.mem_cons_of_mem _ List.mem_cons_self⟩)⟩, fun b hb o e => kh b o (fun q => z.zfp (by rw [← q]; exact hb)) e⟩ ⟨s1.toks, _, eZ⟩ nx
        refine ih m (by omega) (t' + j) _ ⟨?_, J3.nolimit, by show gn < (s1.setGen gn gs').gens.size; rw [setGen_sz]; exact hgn1, ⟨s1.toks, _, eZ⟩, gs', setGen_at hgn1, zz⟩
        obtain ⟨o, nm, qn, e, r⟩ := hg1
        exact ⟨o, nm, qn, kh a o (fun q => z.za q.symm) e, r⟩
      · rename_i hneg
        exact absurd hc hneg
    · have et : t' = t := TotAt.inj tq hZ
      subst et
      exact wpAny_pure (hF t' H _ tA (back _ _ _ _ I1) fin)
end

/-! ### the rules -/
/-- all(elt for target in iter if ..) -/
def tAllG (P : Addr) (wi : TI) (g : TG) (tt : TT) (te : TE) (vs : List Nat) : TE := fun σ H Q => wi σ H fun J H1 => GxR.TabG H1 P ∧ ∀ H2, GxR.Tabbed P H1 H2 → ∃ W : Nat → Nat → Unit → Hp → Prop, (∃ m, W 0 m () H2) ∧
  GW J g tt te vs σ W (fun _ y H N => ∃ b, y = .bl b ∧ if b = true then N () H else Q (.bl false) H) (fun _ H => Q (.bl true) H)
def tAnyG (P : Addr) (wi : TI) (g : TG) (tt : TT) (te : TE) (vs : List Nat) : TE := fun σ H Q => wi σ H fun J H1 => GxR.TabG H1 P ∧ ∀ H2, GxR.Tabbed P H1 H2 → ∃ W : Nat → Nat → Unit → Hp → Prop, (∃ m, W 0 m () H2) ∧
  GW J g tt te vs σ W (fun _ y H N => ∃ b, y = .bl b ∧ if b = true then Q (.bl true) H else N () H) (fun _ H => Q (.bl false) H)
def tSumG (P : Addr) (wi : TI) (g : TG) (tt : TT) (te : TE) (vs : List Nat) : TE := fun σ H Q => wi σ H fun J H1 => GxR.TabG H1 P ∧ ∀ H2, GxR.Tabbed P H1 H2 → ∃ W : Nat → Nat → Int → Hp → Prop, (∃ m, W 0 m 0 H2) ∧
  GW J g tt te vs σ W (fun t y H N => ∃ j, y = .int j ∧ (InLong j ∧ InLong (t + j)) ∧ N (t + j) H) (fun t H => Q (.int t) H)
section
variable {X : Cx}
theorem pe_allG {c P : Addr} {elt tg iter : Expr} {ifs : List Expr} {gpos p pos : Pos} {scope : Scope} {own : List (Str × Nat)} {wi : TI} {g : TG} {tt : TT} {te : TE} {k : Nat}
    (hr : Room k X.A) (hc : X.calm = true) (hN : X.N.Nodup) (hgl : Gl X "all") (hm : X.mg "all" = none) (TB : GxR.TabB X.base X.mg c P) (hcode : X.env.code = .ref c) (hi : PI X tg iter wi) (ok : BlkOk X.N X.env.scope scope own) (hcell : ∀ y ∈ scope.names, y.2 ≠ .cell) (hco : scope.isCoroutine = false) (hdot : scope.names.lookup (".0" : Str) = some NameKind.local)
    (hg : ∀ (s : Shared) (H : Hp) (C : Addr) (code : Value) (fp : List Addr), PG (gCx X s H (gEnv X scope C code) fp) tg g) (ht : ∀ (s : Shared) (H : Hp) (C : Addr) (code : Value) (fp : List Addr), PTs (gCx X s H (gEnv X scope C code) fp) ifs tt)
    (he : ∀ (s : Shared) (H : Hp) (C : Addr) (code : Value) (fp : List Addr), PE (gCx X s H (gEnv X scope C code) fp) elt te)
    (hs : ∀ v, genFold iter X.env v = pure v := by intro _; rfl)
    (hb : bootBuiltins "all" = some (.builtin "all") := by decide +kernel)
    (hse : starEach [.GeneratorExp elt [⟨tg, iter, ifs, 0⟩] scope gpos] X.env = (false, eval (.GeneratorExp elt [⟨tg, iter, ifs, 0⟩] scope gpos) X.env) :: starEach [] X.env := by rfl) :
    PE X (.Call (.Name "all" p) [.GeneratorExp elt [⟨tg, iter, ifs, 0⟩] scope gpos] [] pos) (tAllG P wi g tt te (own.map (·.2))) := by
  refine ⟨fun pins s σ H Q I h => ?_⟩
  refine wpAny_Call_Name_kw (ld_blt I hgl hm hb ?_)
  refine PyProof.Rows.callWith_builtin1 ?_ hse (by rfl)
  rw [hse]
  show wpAny _ _ (spliced ((false, eval (.GeneratorExp elt [⟨tg, iter, ifs, 0⟩] scope gpos) X.env) :: backTo pos (starEach [] X.env))) _ _ s
  refine Calls.spliced_cons (gen_make (R := fun _ => True) hr hc hN TB hcode hi ok hcell hco hdot hg ht he hs I h fun X' fp a gn n H2 s5 G e1 e2 => ?_)
  refine Calls.spliced_nil ?_
  refine call_function_tree F.kind_all F.plain_all F.entry_all (F.args_all1 _) ?_
  unfold Builtin.«all»
  refine wpAny_bind (m := oneArg "all" _) (wpAny_pure ?_)
  refine wpAny_bind (wpAny_pyIter_gen G.gen ?_)
  obtain ⟨o, ho, I5⟩ := G.inv
  obtain ⟨gs, hgs, hgoes⟩ := G.goes
  refine wpAny_pure ⟨plainId_quiet F.plain_all_loop _, all_loop (Qf := fun H => Q (.bl false) H) (Fin := fun _ H => Q (.bl true) H) hr G.back (fun H' s' J q => ⟨.bl true, H', J, rfl, q⟩) (fun H' s' J q => ⟨.bl false, H', J, rfl, q⟩) n s5
    ⟨G.gen, I5.nolimit, G.gens, gs, hgs, hgoes [a] (fun _ _ => True) (fun b hb => by rw [List.mem_singleton.mp hb]; exact G.afp) _ ⟨⟨_, inv_setGen I5 rfl, fun b hb => ⟨o, by rw [List.mem_singleton.mp hb]; exact ho, by rw [List.mem_singleton.mp hb]; exact List.mem_cons_self⟩⟩, fun b _ o e => e⟩ trivial⟩⟩

theorem pe_anyG {c P : Addr} {elt tg iter : Expr} {ifs : List Expr} {gpos p pos : Pos} {scope : Scope} {own : List (Str × Nat)} {wi : TI} {g : TG} {tt : TT} {te : TE} {k : Nat}
    (hr : Room k X.A) (hc : X.calm = true) (hN : X.N.Nodup) (hgl : Gl X "any") (hm : X.mg "any" = none) (TB : GxR.TabB X.base X.mg c P) (hcode : X.env.code = .ref c) (hi : PI X tg iter wi) (ok : BlkOk X.N X.env.scope scope own) (hcell : ∀ y ∈ scope.names, y.2 ≠ .cell) (hco : scope.isCoroutine = false) (hdot : scope.names.lookup (".0" : Str) = some NameKind.local)
    (hg : ∀ (s : Shared) (H : Hp) (C : Addr) (code : Value) (fp : List Addr), PG (gCx X s H (gEnv X scope C code) fp) tg g) (ht : ∀ (s : Shared) (H : Hp) (C : Addr) (code : Value) (fp : List Addr), PTs (gCx X s H (gEnv X scope C code) fp) ifs tt)
    (he : ∀ (s : Shared) (H : Hp) (C : Addr) (code : Value) (fp : List Addr), PE (gCx X s H (gEnv X scope C code) fp) elt te)
    (hs : ∀ v, genFold iter X.env v = pure v := by intro _; rfl)
    (hb : bootBuiltins "any" = some (.builtin "any") := by decide +kernel)
    (hse : starEach [.GeneratorExp elt [⟨tg, iter, ifs, 0⟩] scope gpos] X.env = (false, eval (.GeneratorExp elt [⟨tg, iter, ifs, 0⟩] scope gpos) X.env) :: starEach [] X.env := by rfl) :
    PE X (.Call (.Name "any" p) [.GeneratorExp elt [⟨tg, iter, ifs, 0⟩] scope gpos] [] pos) (tAnyG P wi g tt te (own.map (·.2))) := by
  refine ⟨fun pins s σ H Q I h => ?_⟩
  refine wpAny_Call_Name_kw (ld_blt I hgl hm hb ?_)
  refine PyProof.Rows.callWith_builtin1 ?_ hse (by rfl)
  rw [hse]
  show wpAny _ _ (spliced ((false, eval (.GeneratorExp elt [⟨tg, iter, ifs, 0⟩] scope gpos) X.env) :: backTo pos (starEach [] X.env))) _ _ s
  refine Calls.spliced_cons (gen_make (R := fun _ => True) hr hc hN TB hcode hi ok hcell hco hdot hg ht he hs I h fun X' fp a gn n H2 s5 G e1 e2 => ?_)
  refine Calls.spliced_nil ?_
  refine call_function_tree F.kind_any F.plain_any F.entry_any (F.args_any1 _) ?_
  unfold Builtin.«any»
  refine wpAny_bind (m := oneArg "any" _) (wpAny_pure ?_)
  refine wpAny_bind (wpAny_pyIter_gen G.gen ?_)
  obtain ⟨o, ho, I5⟩ := G.inv
  obtain ⟨gs, hgs, hgoes⟩ := G.goes
  refine wpAny_pure ⟨plainId_quiet F.plain_any_loop _, any_loop (Qt := fun H => Q (.bl true) H) (Fin := fun _ H => Q (.bl false) H) hr G.back (fun H' s' J q => ⟨.bl false, H', J, rfl, q⟩) (fun H' s' J q => ⟨.bl true, H', J, rfl, q⟩) n s5
    ⟨G.gen, I5.nolimit, G.gens, gs, hgs, hgoes [a] (fun _ _ => True) (fun b hb => by rw [List.mem_singleton.mp hb]; exact G.afp) _ ⟨⟨_, inv_setGen I5 rfl, fun b hb => ⟨o, by rw [List.mem_singleton.mp hb]; exact ho, by rw [List.mem_singleton.mp hb]; exact List.mem_cons_self⟩⟩, fun b _ o e => e⟩ trivial⟩⟩

theorem pe_sumG {c P : Addr} {elt tg iter : Expr} {ifs : List Expr} {gpos p pos : Pos} {scope : Scope} {own : List (Str × Nat)} {wi : TI} {g : TG} {tt : TT} {te : TE} {k : Nat}
    (hr : Room k X.A) (hc : X.calm = true) (hN : X.N.Nodup) (hgl : Gl X "sum") (hm : X.mg "sum" = none) (TB : GxR.TabB X.base X.mg c P) (hcode : X.env.code = .ref c) (hi : PI X tg iter wi) (ok : BlkOk X.N X.env.scope scope own) (hcell : ∀ y ∈ scope.names, y.2 ≠ .cell) (hco : scope.isCoroutine = false) (hdot : scope.names.lookup (".0" : Str) = some NameKind.local)
    (hg : ∀ (s : Shared) (H : Hp) (C : Addr) (code : Value) (fp : List Addr), PG (gCx X s H (gEnv X scope C code) fp) tg g) (ht : ∀ (s : Shared) (H : Hp) (C : Addr) (code : Value) (fp : List Addr), PTs (gCx X s H (gEnv X scope C code) fp) ifs tt)
    (he : ∀ (s : Shared) (H : Hp) (C : Addr) (code : Value) (fp : List Addr), PE (gCx X s H (gEnv X scope C code) fp) elt te)
    (hs : ∀ v, genFold iter X.env v = pure v := by intro _; rfl)
    (hb : bootBuiltins "sum" = some (.builtin "sum") := by decide +kernel)
    (hse : starEach [.GeneratorExp elt [⟨tg, iter, ifs, 0⟩] scope gpos] X.env = (false, eval (.GeneratorExp elt [⟨tg, iter, ifs, 0⟩] scope gpos) X.env) :: starEach [] X.env := by rfl) :
    PE X (.Call (.Name "sum" p) [.GeneratorExp elt [⟨tg, iter, ifs, 0⟩] scope gpos] [] pos) (tSumG P wi g tt te (own.map (·.2))) := by
  refine ⟨fun pins s σ H Q I h => ?_⟩
  refine wpAny_Call_Name_kw (ld_blt I hgl hm hb ?_)
  refine PyProof.Rows.callWith_builtin1 ?_ hse (by rfl)
  rw [hse]
  show wpAny _ _ (spliced ((false, eval (.GeneratorExp elt [⟨tg, iter, ifs, 0⟩] scope gpos) X.env) :: backTo pos (starEach [] X.env))) _ _ s
  refine Calls.spliced_cons (gen_make (R := fun _ => True) hr hc hN TB hcode hi ok hcell hco hdot hg ht he hs I h fun X' fp a gn n H2 s5 G e1 e2 => ?_)
  refine Calls.spliced_nil ?_
  refine call_function_tree F.kind_sum F.plain_sum F.entry_sum (F.args_sum1 _) ?_
  unfold Builtin.«sum»
  simp only [List.length_cons, List.length_nil]
  rw [if_neg (by decide)]
  refine wpAny_bind (wpAny_of_eq (show Builtin.Builtins.bindParams "sum" ["start"] 0 { } = pure [none] from rfl) ?_)
  refine wpAny_bind (wpAny_pyIter_gen G.gen ?_)
  refine wpAny_bind (wpAny_mkInt ?_)
  refine wpAny_bind (wpAny_pure ?_)
  simp only [List.forIn_cons, List.forIn_nil]
  refine wpAny_bind (wpAny_bind (wpAny_bind (wpAny_isInstance (T := "int") (b := false) (typeIs_int _ _ _) PySem.sub_int_str ?_)))
  simp only [Bool.false_eq_true, if_false]
  refine wpAny_pure (wpAny_bind (wpAny_bind (wpAny_isInstance (T := "int") (b := false) (typeIs_int _ _ _) PySem.sub_int_bytes ?_)))
  simp only [Bool.false_eq_true, if_false]
  refine wpAny_pure (wpAny_bind (wpAny_bind (wpAny_isInstance (T := "int") (b := false) (typeIs_int _ _ _) PySem.sub_int_bytearray ?_)))
  simp only [Bool.false_eq_true, if_false]
  refine wpAny_pure (wpAny_pure ?_)
  refine wpAny_bind (wpAny_newObj_type ?_)
  obtain ⟨o, ho, I5⟩ := G.inv
  obtain ⟨gs, hgs, hgoes⟩ := G.goes
  have zok : ZOk X' fp a s5.heap.objs.size := by
    refine ⟨G.sz, Nat.ne_of_gt G.loc, fun z => Nat.lt_irrefl _ (G.fs _ z), fun x c e => Nat.ne_of_lt (G.cells x c e), Nat.ne_of_gt (Heap.lt_size ho), fun z => Nat.lt_irrefl _ (G.fpl _ z), G.afp, G.pn⟩
  generalize hs6 : ({ s5 with heap := s5.heap.push { cls := .type "list", data := .seq ([Value.int 0 s5.toks] : List Value).toArray }, toks := s5.toks + 1 } : Shared) = s6
  have hh6 : s6.heap = s5.heap.push { cls := .type "list", data := .seq ([Value.int 0 s5.toks] : List Value).toArray } := by rw [← hs6]
  have kp : ∀ b u, s5.heap.get? b = some u → s6.heap.get? b = some u := fun b u e => by rw [hh6]; exact Heap.get?_push_of_some _ e
  have I6 : Inv X' [(a, o)] (wipe σ (own.map (·.2))) H2 s6 := by
    rw [← hs6]
    exact I5.kept (t' := s5.toks + 1) fun b u e => Heap.get?_push_of_some _ e
  have hZ : s6.heap.get? s5.heap.objs.size = some { cls := .type "list", data := .seq ([Value.int 0 s5.toks] : List Value).toArray } := by
    rw [hh6]; exact Heap.get?_push_size _ rfl
  have I7 : Inv X' [(a, o), (s5.heap.objs.size, { cls := .type "list", data := .seq ([Value.int 0 s5.toks] : List Value).toArray })] (wipe σ (own.map (·.2))) H2 s6 := I6.pins_of fun p hp => by
    rcases List.mem_cons.mp hp with hp | hp
    · exact I6.pin p (List.mem_append_right _ (by rw [hp]; exact List.mem_cons_self))
    · rw [List.mem_singleton.mp hp]
      exact ⟨hZ, I5.hok.fresh (Nat.le_refl _), zok.loc, zok.fs, fun v q => by cases q⟩
  have hgn : s6.gens = s5.gens := by rw [← hs6]
  refine wpAny_pure ⟨plainId_quiet F.plain_sum_loop _, ?_⟩
  refine sum_loop (Z := s5.heap.objs.size) (Fin := fun t H => Q (.int t) H) hr zok G.back (fun t H' s' tk J q => ⟨.int t, H', J, ⟨tk, rfl⟩, q⟩) n 0 s6
    ⟨G.gen.keeps kp, I6.nolimit, by rw [hgn]; exact G.gens, ⟨s5.toks, 0, hZ⟩, gs, by rw [hgn]; exact hgs, hgoes [a, s5.heap.objs.size] (TotAt s5.heap.objs.size) (fun b hb => ?_) _ ⟨⟨_, inv_setGen I7 rfl, fun b hb => ?_⟩, fun b _ o e => kp b o e⟩ ⟨s5.toks, 0, hZ⟩⟩
  · rcases List.mem_cons.mp hb with hb | hb
    · rw [hb]; exact G.afp
    · rw [List.mem_singleton.mp hb]; exact zok.zfp
  · rcases List.mem_cons.mp hb with hb | hb
    · rw [hb]
      exact ⟨o, kp _ _ ho, List.mem_cons_self⟩
    · rw [List.mem_singleton.mp hb]
      exact ⟨_, hZ, List.mem_cons_of_mem _ List.mem_cons_self⟩
end
end Sq
set_option Elab.async false
set_option linter.all false
set_option maxRecDepth 100000
set_option maxHeartbeats 2000000
namespace Sq
open PySem PySem.Spec PyProof.Rows L2
/-! ### what stays: all but the objects at S; tables may grow -/
structure Ext (S : List Addr) (H H' : Hp) : Prop where
  keep : ∀ b o, H b = some o → b ∉ S → (∀ ps, o ≠ .tbl ps) → H' b = some o
  tup : ∀ b xs, H b = some (.tup xs) → H' b = some (.tup xs)
  frz : ∀ b o u, H b = some (.frz o u) → H' b = some (.frz o u)
  tab : ∀ P, GxR.TabG H P → GxR.TabG H' P
  tbl : ∀ P ps, H P = some (.tbl ps) → P ∉ S → H' P = some (.tbl ps)
section
variable {S S' : List Addr} {H H1 H2 H' : Hp} {a p : Addr} {o : HO}
theorem Ext.refl (S : List Addr) (H : Hp) : Ext S H H := ⟨fun _ _ h _ _ => h, fun _ _ h => h, fun _ _ _ h => h, fun _ h => h, fun _ _ h _ => h⟩
theorem Ext.trans (a : Ext S H H1) (b : Ext S H1 H2) : Ext S H H2 :=
  ⟨fun c o h n m => b.keep c o (a.keep c o h n m) n m, fun c o h => b.tup c o (a.tup c o h), fun c o u h => b.frz c o u (a.frz c o u h), fun P h => b.tab P (a.tab P h), fun P ps h n => b.tbl P ps (a.tbl P ps h n) n⟩
theorem Ext.mono (h : Ext S H H') (s : ∀ b ∈ S, b ∈ S') : Ext S' H H' := ⟨fun b o e n m => h.keep b o e (fun z => n (s b z)) m, h.tup, h.frz, h.tab, fun P ps e n => h.tbl P ps e fun z => n (s P z)⟩
theorem Ext.any (h : Ext [] H H') : Ext S H H' := h.mono fun _ z => nomatch z
theorem Ext.new (h : H p = none) : Ext S H (upd H p o) := by
  have k : ∀ b u, H b = some u → upd H p o b = some u := fun b u e => by rw [upd_ne (ne_of_none e h)]; exact e
  exact ⟨fun b u e _ _ => k b u e, fun b u e => k b _ e, fun b u v e => k b _ e, fun P ⟨ps, e, t⟩ => ⟨ps, k P _ e, t⟩, fun P ps e _ => k P _ e⟩
theorem Ext.set {u : HO} (hm : p ∈ S) (hp : H p = some u) (h1 : ∀ xs, u ≠ .tup xs) (h2 : ∀ o v, u ≠ .frz o v) (h3 : ∀ ps, u ≠ .tbl ps) : Ext S H (upd H p o) := by
  have k : ∀ b v, H b = some v → v ≠ u → upd H p o b = some v := fun b v e n => by
    rw [upd_ne fun z => n (by rw [z, hp] at e; exact (Option.some.inj e).symm)]; exact e
  exact ⟨fun b v e n _ => by rw [upd_ne fun z => n (by rw [z]; exact hm)]; exact e, fun b xs e => k b _ e (h1 xs).symm, fun b u v e => k b _ e (h2 u v).symm, fun P ⟨ps, e, t⟩ => ⟨ps, k P _ e (h3 ps).symm, t⟩, fun P ps e _ => k P _ e (h3 ps).symm⟩
theorem Ext.setL {xs : List V} (hm : p ∈ S) (hp : H p = some (.lst xs)) : Ext S H (upd H p o) := Ext.set hm hp (fun _ z => by cases z) (fun _ _ z => by cases z) (fun _ z => by cases z)
theorem Ext.setD {kvs : List (Key × V)} (hm : p ∈ S) (hp : H p = some (.dK kvs)) : Ext S H (upd H p o) := Ext.set hm hp (fun _ z => by cases z) (fun _ _ z => by cases z) (fun _ z => by cases z)
theorem Ext.tabbed (hm : p ∈ S) (t : GxR.TabG H p) (h : GxR.Tabbed p H H') : Ext S H H' := by
  obtain ⟨ps, e0, _⟩ := t
  have k : ∀ b u, H b = some u → (∀ ps, u ≠ .tbl ps) → H' b = some u := fun b u e n => by
    rw [h.2 b fun z => n ps (by rw [z, e0] at e; exact (Option.some.inj e).symm)]; exact e
  refine ⟨fun b u e _ m => k b u e m, fun b xs e => k b _ e (fun _ z => by cases z), fun b u v e => k b _ e (fun _ z => by cases z), fun P t => ?_, fun P ps e n => by rw [h.2 P fun z => n (by rw [z]; exact hm)]; exact e⟩
  by_cases hP : P = p
  · rw [hP]; exact h.1
  · obtain ⟨qs, e, t⟩ := t
    exact ⟨qs, by rw [h.2 P hP]; exact e, t⟩
theorem Ext.lst {xs : List V} (h : Ext S H H') (e : H a = some (.lst xs)) (n : a ∉ S) : H' a = some (.lst xs) := h.keep a _ e n fun _ z => by cases z
theorem Ext.dK {xs : List (Key × V)} (h : Ext S H H') (e : H a = some (.dK xs)) (n : a ∉ S) : H' a = some (.dK xs) := h.keep a _ e n fun _ z => by cases z
theorem Ext.lst0 {xs : List V} (h : Ext [] H H') (e : H a = some (.lst xs)) : H' a = some (.lst xs) := h.lst e (fun z => nomatch z)
theorem Ext.dK0 {xs : List (Key × V)} (h : Ext [] H H') (e : H a = some (.dK xs)) : H' a = some (.dK xs) := h.dK e (fun z => nomatch z)
theorem Ext.sqT {K : PySem.W.Frag} {xs : List V} (h : Ext S H H') (e : SqT K H a xs) : SqT K H' a xs := by
  rcases e with (e | ⟨o, e⟩) | e
  · exact .inl (.inl (h.tup _ _ e))
  · exact .inl (.inr ⟨o, h.frz _ _ _ e⟩)
  · exact .inr e
theorem Ext.sqL {K : PySem.W.Frag} {xs : List V} (h : Ext S H H') (e : SqL K H a xs) (n : a ∉ S) : SqL K H' a xs := by
  rcases e with (e | ⟨o, e⟩) | e
  · exact .inl (.inl (h.lst e n))
  · exact .inl (.inr ⟨o, h.frz _ _ _ e⟩)
  · exact .inr e
theorem Ext.sqL0 {K : PySem.W.Frag} {xs : List V} (h : Ext [] H H') (e : SqL K H a xs) : SqL K H' a xs := h.sqL e (fun z => nomatch z)
/-- what is new behind an extension was not there -/
theorem Ext.ne (h : Ext S H H') (e : H a = some o) (n : a ∉ S) (m : ∀ ps, o ≠ .tbl ps) (f : H' p = none) : a ≠ p := ne_of_none (h.keep a o e n m) f
end

/-! ### defs by their names, and their tables -/
abbrev Cal (P : Program) (w : World) (K : PySem.W.Frag) (mg : Str → Option Value) (base : Heap) (k : Nat) (x : Str) (sp : Sp) : Prop := C8.Cal P w K mg base k x sp []
/-- a def that stands under its name -/
structure Dn (K : PySem.W.Frag) (mg : Str → Option Value) (x : Str) (st : Stmt) (f : Addr) (fd : FuncData) (c : Addr) : Prop where
  ex : ∃ (oc : Value) (od : Option Addr) (kV doc pm : Value) (an : Option Addr) (ct : Value) (osl : Array (Option Value)),
    fd = PySem.W.fnOf x x (defArgs st) (defBody st) (defScope st) .none kV doc pm an (.ref c) ct ∧ K.lookup f = some ⟨oc, od, .func fd, osl⟩ ∧ PySem.W.codeIn K (.ref c) x = true
  mgf : mg x = some (.ref f)
  kp : PySem.W.keepIn K (.ref f) = true
section
variable {P : Program} {w : World} {K : PySem.W.Frag} {mg : Str → Option Value} {base : Heap} {x : Str} {st : Stmt} {f c : Addr} {fd : FuncData} {N ps : List Str} {k : Nat} {sp : Sp}
/-- the context of a def's body -/
abbrev CxD (P : Program) (w : World) (K : PySem.W.Frag) (mg : Str → Option Value) (base : Heap) (N : List Str) (x : Str) (st : Stmt) (f c : Addr) (A : Around) (outer : List Env) (s : Shared) (H : Hp) (E : XK) : Cx :=
  (cxOf CX0 P w K mg base N x (defScope st) f (.ref c) A outer s H E).nox
theorem Dn.ok (F : Dn K mg x st f fd c) (S : FnScope N ps (defScope st)) (len : ∀ vs H Q E, sp vs H Q E → vs.length = ps.length)
    (hbody : ∀ (A : Around) (outer : List Env) (s : Shared) (H : Hp) (vs : List V) (Q : VK) (E : XK), Room k (A.deeper (envOfC x (defScope st) s.heap.objs.size f (.ref c))) → sp vs H Q E →
      ∃ t, PSs (CxD P w K mg base N x st f c A outer s H E) (defBody st) t ∧ t { nx := fun _ H' => Q .non H', rt := Q } (start N vs) H) : FnOk P w K mg base CX0 (k + 1) f fd ps sp := by
  obtain ⟨oc, od, kV, doc, pm, an, ct, osl, rfl, lk, hcd⟩ := F.ex
  refine fn_of lk hcd S len fun A outer s H vs Q E hr hsp => ?_
  obtain ⟨t, h, q⟩ := hbody A outer s H vs Q E hr hsp
  exact ⟨t, h.nox, q⟩
/-- how its arguments bind -/
def BindOk (x : Str) (st : Stmt) (ps : List Str) : Prop := ∀ (kV doc pm : Value) (an : Option Addr) (cdv ct : Value) (us : List Value), us.length = ps.length → bindArgs (PySem.W.fnOf x x (defArgs st) (defBody st) (defScope st) .none kV doc pm an cdv ct) ⟨us, []⟩ = pure (ps.zip us)
theorem Dn.binds (F : Dn K mg x st f fd c) (h : BindOk x st ps) : Binds K fd ps [] := by
  obtain ⟨oc, od, kV, doc, pm, an, ct, osl, rfl, lk, hcd⟩ := F.ex
  exact .all (h kV doc pm an (.ref c) ct)
theorem Dn.cal (F : Dn K mg x st f fd c) (hb : BindOk x st ps) (S : FnScope N ps (defScope st)) (len : ∀ vs H Q E, sp vs H Q E → vs.length = ps.length)
    (hbody : ∀ (A : Around) (outer : List Env) (s : Shared) (H : Hp) (vs : List V) (Q : VK) (E : XK), Room k (A.deeper (envOfC x (defScope st) s.heap.objs.size f (.ref c))) → sp vs H Q E →
      ∃ t, PSs (CxD P w K mg base N x st f c A outer s H E) (defBody st) t ∧ t { nx := fun _ H' => Q .non H', rt := Q } (start N vs) H) : Cal P w K mg base (k + 1) x sp :=
  ⟨f, fd, ps, [], F.ok S len hbody, F.mgf, F.kp, F.binds hb, .nil⟩
/-- a def that calls itself: by its depth -/
theorem Dn.calRec {sp : Nat → Sp} (F : Dn K mg x st f fd c) (hb : BindOk x st ps) (h0 : ∀ vs H Q E, ¬ sp 0 vs H Q E) (hs : ∀ k, Cal P w K mg base k x (sp k) → FnOk P w K mg base CX0 (k + 1) f fd ps (sp (k + 1))) :
    ∀ k, Cal P w K mg base k x (sp k)
  | 0 => ⟨f, fd, ps, [], ⟨fun vs H Q E h => absurd h (h0 vs H Q E), fun A outer s H args us vs Q E _ _ _ _ h => absurd h (h0 vs H Q E)⟩, F.mgf, F.kp, F.binds hb, .nil⟩
  | k + 1 => ⟨f, fd, ps, [], hs k (Dn.calRec F hb h0 hs k), F.mgf, F.kp, F.binds hb, .nil⟩
/-- a def that calls itself from a generator expression: two levels each -/
theorem Dn.calRec2 {sp : Nat → Sp} (F : Dn K mg x st f fd c) (hb : BindOk x st ps) (h0 : ∀ vs H Q E, ¬ sp 0 vs H Q E) (h1 : ∀ vs H Q E, ¬ sp 1 vs H Q E) (hs : ∀ k, Cal P w K mg base k x (sp k) → FnOk P w K mg base CX0 (k + 2) f fd ps (sp (k + 2))) :
    ∀ k, Cal P w K mg base k x (sp k)
  | 0 => ⟨f, fd, ps, [], ⟨fun vs H Q E h => absurd h (h0 vs H Q E), fun A outer s H args us vs Q E _ _ _ _ h => absurd h (h0 vs H Q E)⟩, F.mgf, F.kp, F.binds hb, .nil⟩
  | 1 => ⟨f, fd, ps, [], ⟨fun vs H Q E h => absurd h (h1 vs H Q E), fun A outer s H args us vs Q E _ _ _ _ h => absurd h (h1 vs H Q E)⟩, F.mgf, F.kp, F.binds hb, .nil⟩
  | k + 2 => ⟨f, fd, ps, [], hs k (Dn.calRec2 F hb h0 h1 hs k), F.mgf, F.kp, F.binds hb, .nil⟩
end
theorem Room.gen {A : Around} {k : Nat} {cenv : Env} (h : Room (k + 1) A) : Room k (A.in1.in1.deeper cenv) :=
  ⟨h.hd, by have := h.dp; show A.depth + 1 + 3 * k + 5 < _; omega, by have := h.un; show A.units + 1 + 1 + 3 + 16 * k + 200 < _; omega⟩
theorem Cal.mono {P : Program} {w : World} {K : PySem.W.Frag} {mg : Str → Option Value} {base : Heap} {j k : Nat} {x : Str} {sp : Sp} (h : Cal P w K mg base j x sp) (hk : j ≤ k) : Cal P w K mg base k x sp := by
  obtain ⟨f, fd, ps, ds, F, r⟩ := h
  exact ⟨f, fd, ps, ds, ⟨F.len, fun A outer s H args us vs Q E hr => F.run A outer s H args us vs Q E (hr.mono hk)⟩, r⟩
end Sq
set_option Elab.async false
set_option linter.all false
set_option maxRecDepth 100000
set_option maxHeartbeats 2000000
namespace Sq
open PySem PySem.Spec PyProof.Rows L2
/-! ### the items of a tuple, as a function -/
def WrT (K : PySem.W.Frag) (a : Addr) (xs : List V) : Prop := ∃ (o : Obj) (its : Array Value) (n : Nat), K.lookup a = some o ∧ o.cls = .type "tuple" ∧ o.data = .seq its n ∧ its.size ≤ sizeLine ∧ Vals xs its.toList
theorem WrT.inj {K : PySem.W.Frag} {a : Addr} {xs ys : List V} (h : WrT K a xs) (h' : WrT K a ys) : xs = ys := by
  obtain ⟨o, its, n, e, _, d, _, r⟩ := h
  obtain ⟨o', its', n', e', _, d', _, r'⟩ := h'
  rw [e] at e'; cases e'
  rw [d] at d'; cases d'
  exact r.inj r'
open Classical in
noncomputable def tupF (K : PySem.W.Frag) (H : Hp) (a : Addr) : Option (List V) :=
  if h : ∃ xs, WrT K a xs then some (Classical.choose h) else match H a with
    | some (.tup xs) => some xs
    | some (.frz _ (.tup xs)) => some xs
    | _ => none
theorem tupF_wr {K : PySem.W.Frag} {H : Hp} {a : Addr} {xs : List V} (h : WrT K a xs) : tupF K H a = some xs := by
  have hx : ∃ xs, WrT K a xs := ⟨xs, h⟩
  unfold tupF
  rw [dif_pos hx]
  exact congrArg some ((Classical.choose_spec hx).inj h)
theorem tupF_sq {K : PySem.W.Frag} {H : Hp} {a : Addr} {xs : List V} (h : tupF K H a = some xs) : SqT K H a xs := by
  unfold tupF at h
  split at h
  · rename_i hx
    cases h
    exact .inr (Classical.choose_spec hx)
  · split at h
    · rename_i e; cases h; exact .inl (.inl e)
    · rename_i o _ e; cases h; exact .inl (.inr ⟨o, e⟩)
    · cases h
theorem tupF_ext {K : PySem.W.Frag} {S : List Addr} {H H' : Hp} {a : Addr} {xs : List V} (e : Ext S H H') (h : tupF K H a = some xs) : tupF K H' a = some xs := by
  unfold tupF at h ⊢
  split at h
  · rename_i hx
    rw [dif_pos hx]; exact h
  · rename_i hx
    rw [dif_neg hx]
    split at h
    · rename_i q; cases h; rw [e.tup _ _ q]
    · rename_i q; cases h; rw [e.frz _ _ _ q]
    · cases h
theorem tupF_at {K : PySem.W.Frag} {H : Hp} {p : Addr} {xs : List V} (n : K.lookup p = none) (e : H p = some (.tup xs)) : tupF K H p = some xs := by
  unfold tupF
  rw [dif_neg (fun ⟨ys, o, its, k, h, _⟩ => by rw [n] at h; cases h), e]
/-- a new tuple -/
theorem tupF_new {K : PySem.W.Frag} {H : Hp} {p : Addr} {xs : List V} (n : ∀ ys, ¬ WrT K p ys) : tupF K (upd H p (.tup xs)) p = some xs := by
  unfold tupF
  rw [dif_neg (fun ⟨ys, h⟩ => n ys h), upd_same]

/-! ### data of tuples: it never changes -/
mutual
inductive Td (K : PySem.W.Frag) (H : Hp) : V → PyData → Prop
  | non : Td K H .non .none
  | bl (b : Bool) : Td K H (.bl b) (.bool b)
  | int (i : Int) : Td K H (.int i) (.int i)
  | str (x : Str) : Td K H (.str x) (.str x)
  | tup {a : Addr} {xs : List V} {ds : List PyData} : tupF K H a = some xs → TdAll K H xs ds → Td K H (.ref a) (.tuple ds)
inductive TdAll (K : PySem.W.Frag) (H : Hp) : List V → List PyData → Prop
  | nil : TdAll K H [] []
  | cons {v : V} {vs : List V} {d : PyData} {ds : List PyData} : Td K H v d → TdAll K H vs ds → TdAll K H (v :: vs) (d :: ds)
end
mutual
theorem Td.ext {K : PySem.W.Frag} {S : List Addr} {H H' : Hp} {v : V} {d : PyData} (e : Ext S H H') : Td K H v d → Td K H' v d
  | .non => .non
  | .bl b => .bl b
  | .int i => .int i
  | .str x => .str x
  | .tup h r => .tup (tupF_ext e h) (TdAll.ext e r)
theorem TdAll.ext {K : PySem.W.Frag} {S : List Addr} {H H' : Hp} {vs : List V} {ds : List PyData} (e : Ext S H H') : TdAll K H vs ds → TdAll K H' vs ds
  | .nil => .nil
  | .cons h r => .cons (Td.ext e h) (TdAll.ext e r)
end
mutual
theorem Td.dp {K : PySem.W.Frag} {H : Hp} {v : V} {d : PyData} : Td K H v d → Dp K H v d
  | .non => .non
  | .bl b => .bl b
  | .int i => .int i
  | .str x => .str x
  | .tup h r => .tup (tupF_sq h) (TdAll.dp r)
theorem TdAll.dp {K : PySem.W.Frag} {H : Hp} {vs : List V} {ds : List PyData} : TdAll K H vs ds → DpAll K H vs ds
  | .nil => .nil
  | .cons h r => .cons (Td.dp h) (TdAll.dp r)
end
theorem TdAll.length {K : PySem.W.Frag} {H : Hp} : ∀ {vs : List V} {ds : List PyData}, TdAll K H vs ds → vs.length = ds.length
  | _, _, .nil => rfl
  | _, _, .cons _ r => congrArg Nat.succ r.length
theorem TdAll.get {K : PySem.W.Frag} {H : Hp} : ∀ {vs : List V} {ds : List PyData} {i : Nat} {v : V}, TdAll K H vs ds → vs[i]? = some v → ∃ d, ds[i]? = some d ∧ Td K H v d
  | _, _, 0, _, .cons h _, e => ⟨_, rfl, by cases e; exact h⟩
  | _, _, _ + 1, _, .cons _ r, e => r.get (by simpa using e)
theorem TdAll.getD {K : PySem.W.Frag} {H : Hp} : ∀ {vs : List V} {ds : List PyData} {i : Nat} {d : PyData}, TdAll K H vs ds → ds[i]? = some d → ∃ v, vs[i]? = some v ∧ Td K H v d
  | _, _, 0, _, .cons h _, e => ⟨_, rfl, by cases e; exact h⟩
  | _, _, _ + 1, _, .cons _ r, e => r.getD (by simpa using e)
theorem TdAll.append {K : PySem.W.Frag} {H : Hp} : ∀ {vs ws : List V} {ds es : List PyData}, TdAll K H vs ds → TdAll K H ws es → TdAll K H (vs ++ ws) (ds ++ es)
  | _, _, _, _, .nil, s => s
  | _, _, _, _, .cons h r, s => .cons h (r.append s)
theorem TdAll.drop {K : PySem.W.Frag} {H : Hp} : ∀ (n : Nat) {vs : List V} {ds : List PyData}, TdAll K H vs ds → TdAll K H (vs.drop n) (ds.drop n)
  | 0, _, _, r => r
  | _ + 1, _, _, .nil => .nil
  | n + 1, _, _, .cons _ r => r.drop n
theorem TdAll.take {K : PySem.W.Frag} {H : Hp} : ∀ (n : Nat) {vs : List V} {ds : List PyData}, TdAll K H vs ds → TdAll K H (vs.take n) (ds.take n)
  | 0, _, _, _ => .nil
  | _ + 1, _, _, .nil => .nil
  | n + 1, _, _, .cons h r => .cons h (r.take n)
theorem TdAll.snoc {K : PySem.W.Frag} {H : Hp} {vs : List V} {ds : List PyData} {v : V} {d : PyData} (r : TdAll K H vs ds) (h : Td K H v d) : TdAll K H (vs ++ [v]) (ds ++ [d]) := r.append (.cons h .nil)
/-- what is written is not tracked -/
def NK (K : PySem.W.Frag) (H : Hp) : Prop := ∀ b o, K.lookup b = some o → H b = none
theorem inv_nk {X : Cx} {pins : List (Addr × Obj)} {σ : L2.St} {H : Hp} {s : Shared} (I : Inv X pins σ H s) : NK X.K H := fun b o e => (I.bs b o (I.ok.mod.kin b o e)).2
theorem NK.at {K : PySem.W.Frag} {H : Hp} {p : Addr} {o : HO} (n : NK K H) (e : H p = some o) : K.lookup p = none := by
  cases h : K.lookup p with
  | none => rfl
  | some u => rw [n p u h] at e; cases e
theorem ep_nk {X : Cx} {pins : List (Addr × Obj)} {σ : L2.St} {Q : VK} {u : Value} {s : Shared} (h : EP X pins σ (fun v H => NK X.K H → Q v H) u s) : EP X pins σ Q u s :=
  let ⟨v, H, I, r, q⟩ := h; ⟨v, H, I, r, q (inv_nk I)⟩
theorem PE.nk {X : Cx} {e : Expr} {t : TE} (h : PE X e t) : PE X e (fun σ H Q => t σ H fun v H' => NK X.K H' → Q v H') :=
  ⟨fun pins s σ H Q I q => thn (h.run pins s σ H _ I q) fun _ _ x => ep_nk x⟩
theorem OpR.nk {X : Cx} {f : Value → Value → Sem Value} {r : R2} (h : OpR X f r) : OpR X f (fun x y H Q => r x y H fun v H' => NK X.K H' → Q v H') :=
  fun pins s σ H x y v u Q I rx ry q => thn (h pins s σ H x y v u _ I rx ry q) fun _ _ x => ep_nk x
theorem CallR.nk {X : Cx} {f : Value} {r : List V → Hp → VK → Prop} (h : CallR X f r) : CallR X f (fun xs H Q => r xs H fun v H' => NK X.K H' → Q v H') :=
  fun pins s σ H xs us Q I rx q => thn (h pins s σ H xs us _ I rx q) fun _ _ x => ep_nk x
theorem SlR.nk {X : Cx} {r : V → Option Int → Option Int → Hp → VK → Prop} (h : SlR X r) : SlR X (fun x lo hi H Q => r x lo hi H fun v H' => NK X.K H' → Q v H') :=
  fun pins s σ H x v vl vu lo hi sl Q I rx hs pl pu q => by
    obtain ⟨T, id, e1, e2, e3⟩ := h pins s σ H x v vl vu lo hi sl _ I rx hs pl pu q
    exact ⟨T, id, e1, e2, thn e3 fun _ _ x => ep_nk x⟩
theorem MtR.nk {X : Cx} {id : String} {r : V → List V → Hp → VK → Prop} (h : MtR X id r) : MtR X id (fun x xs H Q => r x xs H fun v H' => NK X.K H' → Q v H') :=
  fun pins s σ H x xs v us Q I rx rv q => thn (h pins s σ H x xs v us _ I rx rv q) fun _ _ x => ep_nk x

/-! ### rules that speak of tupF, of what stays, of tracked lists -/
section
variable {X : Cx}
/-- (a, b, ..) -/
def tTupF (K : PySem.W.Frag) (t : TA) : TE := fun σ H Q => t σ H fun xs H1 => xs.length ≤ sizeLine ∧ ∀ p H2, Ext [] H1 H2 → tupF K H2 p = some xs → Q (.ref p) H2
theorem pe_tupF {es : List Expr} {x1 : Nat} {pos : Pos} {t : TA} (h : PA X es t) : PE X (.Tuple es x1 pos) (tTupF X.K t) := by
  refine ⟨fun pins s σ H Q I hq => ?_⟩
  refine wpAny_Tuple_spliced (thn (h.run pos pins s σ H _ I hq) fun us s1 ⟨xs, H1, I1, r, z, q⟩ => ⟨by rw [← r.length]; exact z, ?_⟩)
  have hf : H1 s1.heap.objs.size = none := I1.hok.fresh (Nat.le_refl _)
  refine ep_nk ⟨.ref s1.heap.objs.size, upd H1 s1.heap.objs.size (.tup xs), I1.laid (t' := s1.toks) (fun b u e => Heap.get?_push_of_some _ e) (Nat.le_refl _) ?_, rfl, fun n => q _ _ (Ext.new hf) (tupF_at (NK.at n upd_same) upd_same)⟩
  exact ⟨z, us, r, ⟨_, Heap.get?_push_size _ rfl, rfl, _, rfl⟩⟩
/-- [a, b, ..] -/
def tLstF (t : TA) : TE := fun σ H Q => t σ H fun xs H1 => xs.length ≤ sizeLine ∧ ∀ p H2, H1 p = none → Ext [] H1 H2 → H2 p = some (.lst xs) → Q (.ref p) H2
theorem pe_lstF {es : List Expr} {pos : Pos} {t : TA} (h : PA X es t) : PE X (.List es pos) (tLstF t) := by
  refine ⟨fun pins s σ H Q I hq => ?_⟩
  refine wpAny_List_spliced (thn (h.run pos pins s σ H _ I hq) fun us s1 ⟨xs, H1, I1, r, z, q⟩ => ⟨by rw [← r.length]; exact z, ?_⟩)
  have hf : H1 s1.heap.objs.size = none := I1.hok.fresh (Nat.le_refl _)
  refine ⟨.ref s1.heap.objs.size, upd H1 s1.heap.objs.size (.lst xs), I1.laid (t' := s1.toks) (fun b u e => Heap.get?_push_of_some _ e) (Nat.le_refl _) ?_, rfl, q _ _ hf (Ext.new hf) upd_same⟩
  exact ⟨z, us, 0, r, Heap.get?_push_size _ rfl⟩
/-- t[i], xs[i] -/
def rIxF (K : PySem.W.Frag) : R2 := fun x y H Q => ∃ p xs i v, x = .ref p ∧ y = .int i ∧ tupF K H p = some xs ∧ atI xs i = some v ∧ Q v H
theorem ix_tupF : IxR X (rIxF X.K) := fun value slice pins s σ H x y v u Q I rx ry ⟨p, xs, i, z, e1, e2, h, e3, q⟩ hs => ix_tup value slice pins s σ H x y v u Q I rx ry ⟨p, xs, i, z, e1, e2, tupF_sq h, e3, q⟩ hs
def rIxG : R2 := fun x y H Q => ∃ p xs i v, x = .ref p ∧ y = .int i ∧ H p = some (.lst xs) ∧ atI xs i = some v ∧ Q v H
theorem ix_lstF : IxR X rIxG := fun value slice pins s σ H x y v u Q I rx ry ⟨p, xs, i, z, e1, e2, h, e3, q⟩ hs => ix_list value slice pins s σ H x y v u Q I rx ry ⟨p, xs, i, z, e1, e2, SqL.of h, e3, q⟩ hs
/-- xs[i] = v -/
def rSetF : V → V → V → Hp → (Hp → Prop) → Prop := fun o i v H Q => ∃ p xs k j, o = .ref p ∧ i = .int k ∧ H p = some (.lst xs) ∧ ixN xs.length k = some j ∧ ∀ H2, Ext [p] H H2 → H2 p = some (.lst (xs.set j v)) → Q H2
theorem set_lstF : PSet X rSetF := fun pins s σ H o i v ov iv u Q I ro ri rv ⟨p, xs, k, j, e1, e2, h, e3, q⟩ => set_list pins s σ H o i v ov iv u Q I ro ri rv ⟨p, xs, k, j, e1, e2, h, e3, q _ (Ext.setL List.mem_cons_self h) upd_same⟩
/-- t[lo:hi] -/
def rSlF (K : PySem.W.Frag) : V → Option Int → Option Int → Hp → VK → Prop := fun x lo hi H Q => ∃ a xs, x = .ref a ∧ tupF K H a = some xs ∧ ∀ p H2, Ext [] H H2 → tupF K H2 p = some (cutV xs lo hi) → Q (.ref p) H2
theorem cutV_whole {xs : List V} {lo hi : Option Int} (h : HT.sIx xs.length 0 lo = 0 ∧ HT.sIx xs.length xs.length hi = xs.length) : cutV xs lo hi = xs := by
  unfold cutV
  rw [h.1, h.2, List.drop_zero, Nat.sub_zero, List.take_length]
theorem sl_tupF : SlR X (rSlF X.K) := fun pins s σ H x v vl vu lo hi sl Q I rx hs pl pu ⟨a, xs, e1, h, q⟩ =>
  (SlR.nk sl_tupA) pins s σ H x v vl vu lo hi sl Q I rx hs pl pu ⟨a, xs, e1, tupF_sq h, fun hw _ => q a H (Ext.refl _ _) (by rw [cutV_whole hw]; exact h), fun _ p hp n => q p _ (Ext.new hp) (tupF_at (NK.at n upd_same) upd_same)⟩
/-- t + u -/
def rCatF (K : PySem.W.Frag) : R2 := fun x y H Q => ∃ a b xs ys, x = .ref a ∧ y = .ref b ∧ tupF K H a = some xs ∧ tupF K H b = some ys ∧ xs.length + ys.length ≤ sizeLine ∧ ∀ p H2, Ext [] H H2 → tupF K H2 p = some (xs ++ ys) → Q (.ref p) H2
theorem op_catF : OpR X (binaryOp .Add) (rCatF X.K) := fun pins s σ H x y v u Q I rx ry ⟨a, b, xs, ys, e1, e2, ha, hb, hz, q⟩ =>
  (OpR.nk op_catA) pins s σ H x y v u Q I rx ry ⟨a, b, xs, ys, e1, e2, tupF_sq ha, tupF_sq hb, hz, fun h0 _ => q b H (Ext.refl _ _) (by rw [h0]; exact hb), fun _ h0 _ => q a H (Ext.refl _ _) (by rw [h0, List.append_nil]; exact ha), fun _ _ p hp n => q p _ (Ext.new hp) (tupF_at (NK.at n upd_same) upd_same)⟩
/-- xs + ys -/
def rCatL : R2 := fun x y H Q => ∃ l b xs zs, x = .ref l ∧ y = .ref b ∧ H l = some (.lst xs) ∧ H b = some (.lst zs) ∧ xs.length + zs.length ≤ sizeLine ∧ ∀ p H2, H p = none → Ext [] H H2 → H2 p = some (.lst (xs ++ zs)) → Q (.ref p) H2
theorem op_catL : OpR X (binaryOp .Add) rCatL := fun pins s σ H x y v u Q I rx ry ⟨a, b, xs, ys, e1, e2, ha, hb, hz, q⟩ => op_cat pins s σ H x y v u Q I rx ry ⟨a, b, xs, ys, e1, e2, ha, hb, hz, fun p hp => q p _ hp (Ext.new hp) upd_same⟩
/-- tuple(a list) -/
def rTupL (K : PySem.W.Frag) : List V → Hp → VK → Prop := fun xs H Q => ∃ p ys, xs = [.ref p] ∧ H p = some (.lst ys) ∧ ∀ q H2, Ext [] H H2 → tupF K H2 q = some ys → Q (.ref q) H2
theorem call_tupleL : CallR X (.type "tuple") (rTupL X.K) := fun pins s σ H xs us Q I r ⟨p, ys, e, h, q⟩ =>
  (CallR.nk call_tuple_of) pins s σ H xs us Q I r ⟨p, ys, e, .inl ⟨SqL.of h, fun l hl n => q l _ (Ext.new hl) (tupF_at (NK.at n upd_same) upd_same)⟩⟩
/-- list(a tuple), list(a list) -/
def rListT (K : PySem.W.Frag) : List V → Hp → VK → Prop := fun xs H Q => ∃ p ys, xs = [.ref p] ∧ tupF K H p = some ys ∧ ∀ q H2, H q = none → Ext [] H H2 → H2 q = some (.lst ys) → Q (.ref q) H2
theorem call_listT : CallR X (.type "list") (rListT X.K) := fun pins s σ H xs us Q I r ⟨p, ys, e, h, q⟩ => call_list_of pins s σ H xs us Q I r ⟨p, ys, e, .inr (tupF_sq h), fun l hl => q l _ hl (Ext.new hl) upd_same⟩
def rListL : List V → Hp → VK → Prop := fun xs H Q => ∃ p ys, xs = [.ref p] ∧ H p = some (.lst ys) ∧ ∀ q H2, H q = none → Ext [] H H2 → H2 q = some (.lst ys) → Q (.ref q) H2
theorem call_listL : CallR X (.type "list") rListL := fun pins s σ H xs us Q I r ⟨p, ys, e, h, q⟩ => call_list_of pins s σ H xs us Q I r ⟨p, ys, e, .inl (SqL.of h), fun l hl => q l _ hl (Ext.new hl) upd_same⟩
/-- len -/
def rLenT (K : PySem.W.Frag) : List V → Hp → VK → Prop := fun xs H Q => ∃ p ys, xs = [.ref p] ∧ tupF K H p = some ys ∧ Q (.int ys.length) H
theorem call_lenT : CallR X (.builtin "len") (rLenT X.K) := fun pins s σ H xs us Q I r ⟨p, ys, e, h, q⟩ => call_len_seq pins s σ H xs us Q I r ⟨p, ys, e, .inr (tupF_sq h), q⟩
def rLenL : List V → Hp → VK → Prop := fun xs H Q => ∃ p ys, xs = [.ref p] ∧ H p = some (.lst ys) ∧ Q (.int ys.length) H
theorem call_lenL : CallR X (.builtin "len") rLenL := fun pins s σ H xs us Q I r ⟨p, ys, e, h, q⟩ => call_len_seq pins s σ H xs us Q I r ⟨p, ys, e, .inl (SqL.of h), q⟩
/-- a, b = t -/
def gTupF (K : PySem.W.Frag) (n : Nat) (t : TGs) : TG := fun v σ H Q => ∃ a xs, v = .ref a ∧ tupF K H a = some xs ∧ xs.length = n ∧ t xs σ H Q
theorem pg_tupF {es : List Expr} {k : Nat} {pos : Pos} {t : TGs} {n : Nat} (hc : X.calm = true) (h : PGs X es t)
    (hn : (assignEach es X.env).length = n := by rfl) (hst : (assignEach es X.env).findIdx? (·.1) = none := by rfl) : PG X (.Tuple es k pos) (gTupF X.K n t) :=
  ⟨fun pins s σ H v u Q I r ⟨a, xs, e1, hq, hl, hw⟩ => (pg_tup hc h hn hst).run pins s σ H v u Q I r ⟨a, xs, e1, tupF_sq hq, hl, hw⟩⟩
/-- a tuple is walked -/
def iTupF (K : PySem.W.Frag) (tl : TE) : TI := fun σ H R => tl σ H fun x H1 => ∃ a xs, x = .ref a ∧ tupF K H1 a = some xs ∧ R (Itt K a) H1
theorem pi_tupF {tg l : Expr} {tl : TE} (hl : PE X l tl) : PI X tg l (iTupF X.K tl) := by
  refine ⟨fun pins s σ H R I h => ?_⟩
  refine thn (hl.run pins s σ H _ I h) fun v s1 ⟨x, H1, I1, r1, q1⟩ => ?_
  obtain ⟨a, xs, e, hq, q⟩ := q1
  subst e
  cases r1
  obtain ⟨its, rv, p, hz⟩ := I1.tuple (tupF_sq hq)
  refine wpAny_pyIter_tuple (show s1.heap.IsTuple a its.toArray from p) ?_
  refine ⟨s1.heap.objs.size, [s1.heap.objs.size], _, _, H1, rfl, I1.kept (t' := s1.toks) fun b o e => Heap.get?_push_of_some _ e, turn_tuple a _, ⟨_, Heap.get?_push_size _ rfl, rfl, rfl⟩, fun b hb => ?_, q⟩
  have e : b = s1.heap.objs.size := by simpa using hb
  subst e
  exact I1.fpOk (Nat.le_refl _) (I1.hok.fresh (Nat.le_refl _))
/-- a list is walked -/
def iLstF (tl : TE) : PySem.W.Frag → TI := fun K σ H R => tl σ H fun x H1 => ∃ a xs, x = .ref a ∧ H1 a = some (.lst xs) ∧ R (Itl K a) H1
theorem pi_lstF {tg l : Expr} {tl : TE} (hl : PE X l tl) : PI X tg l (iLstF tl X.K) := by
  refine ⟨fun pins s σ H R I h => ?_⟩
  refine thn (hl.run pins s σ H _ I h) fun v s1 ⟨x, H1, I1, r1, q1⟩ => ?_
  obtain ⟨a, xs, e, hq, q⟩ := q1
  subst e
  cases r1
  obtain ⟨its, rv, p, hz⟩ := I1.list (SqL.of hq)
  refine wpAny_pyIter_list p.isList ?_
  refine ⟨s1.heap.objs.size, [s1.heap.objs.size], _, _, H1, rfl, I1.kept (t' := s1.toks) fun b o e => Heap.get?_push_of_some _ e, turn_list a _, ⟨_, Heap.get?_push_size _ rfl, rfl, rfl⟩, fun b hb => ?_, q⟩
  have e : b = s1.heap.objs.size := by simpa using hb
  subst e
  exact I1.fpOk (Nat.le_refl _) (I1.hok.fresh (Nat.le_refl _))
/-- xs.append(y), xs.extend(ys), xs.pop() -/
def rAppF : V → List V → Hp → VK → Prop := fun x vs H Q => ∃ l xs y, x = .ref l ∧ vs = [y] ∧ H l = some (.lst xs) ∧ xs.length < sizeLine ∧ ∀ H2, Ext [l] H H2 → H2 l = some (.lst (xs ++ [y])) → Q .non H2
theorem mt_appF : MtM X "list.append" rAppF := fun pins s σ H x xs v us Q I rx rv ⟨l, ys, y, e1, e2, h, hz, q⟩ => mt_append pins s σ H x xs v us Q I rx rv ⟨l, ys, y, e1, e2, h, hz, q _ (Ext.setL List.mem_cons_self h) upd_same⟩
def rExtF : V → List V → Hp → VK → Prop := fun x vs H Q => ∃ l b xs zs, x = .ref l ∧ vs = [.ref b] ∧ H l = some (.lst xs) ∧ H b = some (.lst zs) ∧ xs.length + zs.length ≤ sizeLine ∧ ∀ H2, Ext [l] H H2 → H2 l = some (.lst (xs ++ zs)) → Q .non H2
theorem mt_extF : MtM X "list.extend" rExtF := fun pins s σ H x xs v us Q I rx rv ⟨l, b, ys, zs, e1, e2, h, hb, hz, q⟩ => mt_extend pins s σ H x xs v us Q I rx rv ⟨l, b, ys, zs, e1, e2, h, hb, hz, q _ (Ext.setL List.mem_cons_self h) upd_same⟩
def rPopF : V → List V → Hp → VK → Prop := fun x vs H Q => ∃ l xs y, x = .ref l ∧ vs = [] ∧ H l = some (.lst xs) ∧ xs[xs.length - 1]? = some y ∧ ∀ H2, Ext [l] H H2 → H2 l = some (.lst xs.dropLast) → Q y H2
theorem mt_popF : MtM X "list.pop" rPopF := fun pins s σ H x xs v us Q I rx rv ⟨l, ys, y, e1, e2, h, hy, q⟩ => mt_pop pins s σ H x xs v us Q I rx rv ⟨l, ys, y, e1, e2, h, hy, q _ (Ext.setL List.mem_cons_self h) upd_same⟩
theorem tyV_lst {K : PySem.W.Frag} {H : Hp} {p : Addr} {xs : List V} (h : H p = some (.lst xs)) : tyV K "list" (.ref p) H := .inl ⟨rfl, _, SqL.of h⟩
/-- a == b, a != b of data of tuples -/
def rEqF (K : PySem.W.Frag) (neg : Bool) : R2 := fun x y H Q => ∃ d e, Td K H x d ∧ Td K H y e ∧ SeqAt.shaped d = true ∧ SeqAt.shaped e = true ∧ Q (.bl (if neg then !PyData.eqv d e else PyData.eqv d e)) H
theorem op_eqF (hu : X.A.units + 64 < cLine) : OpR X (compareOp .Eq) (rEqF X.K false) := fun pins s σ H x y v u Q I rx ry ⟨d, e, h1, h2, h3, h4, q⟩ => op_eqD hu pins s σ H x y v u Q I rx ry ⟨d, e, h1.dp, h2.dp, h3, h4, q⟩
theorem op_neF (hu : X.A.units + 64 < cLine) : OpR X (compareOp .NotEq) (rEqF X.K true) := fun pins s σ H x y v u Q I rx ry ⟨d, e, h1, h2, h3, h4, q⟩ => op_neD hu pins s σ H x y v u Q I rx ry ⟨d, e, h1.dp, h2.dp, h3, h4, q⟩
end
end Sq
set_option Elab.async false
set_option linter.all false
set_option maxRecDepth 100000
set_option maxHeartbeats 4000000
namespace Sq
open PySem PySem.Spec PyProof.Rows L2
/-! ### things of letters, laid together -/
inductive Lt
  | S | K | I | B | C
  deriving DecidableEq
def Lt.nm : Lt → Str
  | S => "S"
  | K => "K"
  | I => "I"
  | B => "B"
  | C => "C"
inductive Cg
  | l (k : Lt)
  | v (x : Str)
  | ap (f a : Cg)
  deriving DecidableEq
namespace Cg
def data : Cg → PyData
  | l k => .str k.nm
  | v x => .tuple [.str "var", .str x]
  | ap f a => .tuple [f.data, a.data]
def dep : Cg → Nat
  | l _ => 1
  | v _ => 2
  | ap f a => max f.dep a.dep + 1
def wt : Cg → Nat
  | ap f a => f.wt + a.wt
  | _ => 1
def has (x : Str) : Cg → Bool
  | l _ => false
  | v y => decide (y = x)
  | ap f a => f.has x || a.has x
def put (t : Cg) (x : Str) (o : Cg) : Cg := match t with
  | l k => l k
  | v y => if y = x then o else v y
  | ap f a => ap (f.put x o) (a.put x o)
/-- the thing without a name -/
def wo (x : Str) : Cg → Cg
  | l k => ap (l .K) (l k)
  | v y => if y = x then l .I else ap (l .K) (v y)
  | ap f a =>
    if (ap f a).has x = false then ap (l .K) (ap f a)
    else if a = v x ∧ f.has x = false then f
    else if f.has x = false then ap (ap (l .B) f) (wo x a)
    else if a.has x = false then ap (ap (l .C) (wo x f)) a
    else ap (ap (l .S) (wo x f)) (wo x a)
def hd : Cg → Cg × List Cg
  | ap f a => (f.hd.1, f.hd.2 ++ [a])
  | t => (t, [])
def un (h : Cg) (r : List Cg) : Cg := r.foldl ap h
theorem un_hd : ∀ t : Cg, un t.hd.1 t.hd.2 = t
  | l _ => rfl
  | v _ => rfl
  | ap f a => by
    show un f.hd.1 (f.hd.2 ++ [a]) = _
    unfold un
    rw [List.foldl_append]
    have := un_hd f
    unfold un at this
    rw [this]; rfl
def isAp : Cg → Bool
  | ap _ _ => true
  | _ => false
def need : Cg → Nat
  | l .I => 1
  | l .K => 2
  | l _ => 3
  | _ => 0
/-- what a letter makes of its first things -/
def rule : Cg → List Cg → Option Cg
  | l .I, x :: _ => some x
  | l .K, x :: _ :: _ => some x
  | l .S, f :: g :: x :: _ => some (ap (ap f x) (ap g x))
  | l .B, f :: g :: x :: _ => some (ap f (ap g x))
  | l .C, f :: g :: x :: _ => some (ap (ap f x) g)
  | _, _ => none
/-- the head's own step -/
def red (t : Cg) : Option Cg := if 0 < t.hd.1.need ∧ t.hd.1.need ≤ t.hd.2.length then (rule t.hd.1 t.hd.2).map fun u => un u (t.hd.2.drop t.hd.1.need) else none
def step : Cg → Option Cg
  | ap f a => match red (ap f a) with
    | some t => some t
    | none => match f.step with
      | some f' => some (ap f' a)
      | none => a.step.map (ap f)
  | _ => none
/-! #### one end at most -/
/-- many steps at once -/
inductive Pr : Cg → Cg → Prop
  | l (k : Lt) : Pr (l k) (l k)
  | v (x : Str) : Pr (v x) (v x)
  | ap {f f' a a' : Cg} : Pr f f' → Pr a a' → Pr (ap f a) (ap f' a')
  | I {x x' : Cg} : Pr x x' → Pr (.ap (.l .I) x) x'
  | K {x x' y : Cg} : Pr x x' → Pr (.ap (.ap (.l .K) x) y) x'
  | S {f f' g g' x x' : Cg} : Pr f f' → Pr g g' → Pr x x' → Pr (.ap (.ap (.ap (.l .S) f) g) x) (.ap (.ap f' x') (.ap g' x'))
  | B {f f' g g' x x' : Cg} : Pr f f' → Pr g g' → Pr x x' → Pr (.ap (.ap (.ap (.l .B) f) g) x) (.ap f' (.ap g' x'))
  | C {f f' g g' x x' : Cg} : Pr f f' → Pr g g' → Pr x x' → Pr (.ap (.ap (.ap (.l .C) f) g) x) (.ap (.ap f' x') g')
theorem Pr.refl : ∀ t : Cg, Pr t t
  | .l k => .l k
  | .v x => .v x
  | .ap f a => .ap (Pr.refl f) (Pr.refl a)
theorem Pr.inv0 {k : Lt} {u : Cg} (h : Pr (.l k) u) : u = .l k := by cases h; rfl
theorem Pr.inv1 {k : Lt} {x u : Cg} (h : Pr (.ap (.l k) x) u) (hk : k ≠ .I) : ∃ x', u = .ap (.l k) x' ∧ Pr x x' := by
  cases h with
  | ap h1 h2 => cases h1; exact ⟨_, rfl, h2⟩
  | I h => exact absurd rfl hk
theorem Pr.inv2 {k : Lt} {x y u : Cg} (h : Pr (.ap (.ap (.l k) x) y) u) (hk : k ≠ .I) (hk2 : k ≠ .K) : ∃ x' y', u = .ap (.ap (.l k) x') y' ∧ Pr x x' ∧ Pr y y' := by
  cases h with
  | ap h1 h2 =>
    obtain ⟨x', rfl, h3⟩ := h1.inv1 hk
    exact ⟨_, _, rfl, h3, h2⟩
  | K h => exact absurd rfl hk2
/-- all at once -/
def dev : Cg → Cg
  | .l k => .l k
  | .v x => .v x
  | .ap (.l .I) x => dev x
  | .ap (.ap (.l .K) x) _ => dev x
  | .ap (.ap (.ap (.l .S) f) g) x => .ap (.ap (dev f) (dev x)) (.ap (dev g) (dev x))
  | .ap (.ap (.ap (.l .B) f) g) x => .ap (dev f) (.ap (dev g) (dev x))
  | .ap (.ap (.ap (.l .C) f) g) x => .ap (.ap (dev f) (dev x)) (dev g)
  | .ap f a => .ap (dev f) (dev a)
theorem tri {t u : Cg} (h : Pr t u) : Pr u (dev t) := by
  induction h with
  | l k => exact .l k
  | v x => exact .v x
  | I _ ih => rw [dev]; exact ih
  | K _ ih => rw [dev]; exact ih
  | S _ _ _ i1 i2 i3 => rw [dev]; exact .ap (.ap i1 i3) (.ap i2 i3)
  | B _ _ _ i1 i2 i3 => rw [dev]; exact .ap i1 (.ap i2 i3)
  | C _ _ _ i1 i2 i3 => rw [dev]; exact .ap (.ap i1 i3) i2
  | @ap f f' a a' hf ha ihf iha =>
    cases f with
    | l k =>
      have := hf.inv0
      subst this
      cases k with
      | I => exact .I iha
      | _ => exact .ap ihf iha
    | v x => exact .ap ihf iha
    | ap g b =>
      cases g with
      | l k =>
        cases k with
        | K =>
          obtain ⟨b', rfl, hb⟩ := hf.inv1 (by decide)
          obtain ⟨b2, e, hb2⟩ := (show Pr (.ap (.l .K) b') (.ap (.l .K) (dev b)) from ihf).inv1 (by decide)
          cases e
          exact .K hb2
        | _ => exact .ap ihf iha
      | v x => exact .ap ihf iha
      | ap h c =>
        cases h with
        | l k =>
          cases k with
          | S =>
            obtain ⟨c', b', rfl, hc, hb⟩ := hf.inv2 (by decide) (by decide)
            obtain ⟨c2, b2, e, hc2, hb2⟩ := (show Pr (.ap (.ap (.l .S) c') b') (.ap (.ap (.l .S) (dev c)) (dev b)) from ihf).inv2 (by decide) (by decide)
            cases e
            exact .S hc2 hb2 iha
          | B =>
            obtain ⟨c', b', rfl, hc, hb⟩ := hf.inv2 (by decide) (by decide)
            obtain ⟨c2, b2, e, hc2, hb2⟩ := (show Pr (.ap (.ap (.l .B) c') b') (.ap (.ap (.l .B) (dev c)) (dev b)) from ihf).inv2 (by decide) (by decide)
            cases e
            exact .B hc2 hb2 iha
          | C =>
            obtain ⟨c', b', rfl, hc, hb⟩ := hf.inv2 (by decide) (by decide)
            obtain ⟨c2, b2, e, hc2, hb2⟩ := (show Pr (.ap (.ap (.l .C) c') b') (.ap (.ap (.l .C) (dev c)) (dev b)) from ihf).inv2 (by decide) (by decide)
            cases e
            exact .C hc2 hb2 iha
          | _ => exact .ap ihf iha
        | _ => exact .ap ihf iha
/-- any number of these -/
inductive Prs : Cg → Cg → Prop
  | nil (t : Cg) : Prs t t
  | cons {t u w : Cg} : Pr t u → Prs u w → Prs t w
theorem Prs.one {t u : Cg} (h : Pr t u) : Prs t u := .cons h (.nil u)
theorem Prs.trans {t u w : Cg} (h : Prs t u) (k : Prs u w) : Prs t w := by
  induction h with
  | nil => exact k
  | cons a _ ih => exact .cons a (ih k)
theorem Prs.ap {f f' a a' : Cg} (h : Prs f f') (k : Prs a a') : Prs (.ap f a) (.ap f' a') := by
  induction h with
  | nil =>
    induction k with
    | nil => exact .nil _
    | cons b _ ih => exact .cons (.ap (Pr.refl _) b) ih
  | cons b _ ih => exact .cons (.ap b (Pr.refl _)) ih
theorem strip {t a b : Cg} (h : Pr t a) (k : Prs t b) : ∃ c, Prs a c ∧ Pr b c := by
  induction k generalizing a with
  | nil => exact ⟨a, .nil a, h⟩
  | @cons t u w p _ ih =>
    obtain ⟨c, h1, h2⟩ := ih (tri p)
    exact ⟨c, .cons (tri h) h1, h2⟩
theorem conf {t a b : Cg} (h : Prs t a) (k : Prs t b) : ∃ c, Prs a c ∧ Prs b c := by
  induction h generalizing b with
  | nil => exact ⟨b, k, .nil b⟩
  | cons p _ ih =>
    obtain ⟨c, h1, h2⟩ := strip p k
    obtain ⟨d, h3, h4⟩ := ih h1
    exact ⟨d, h3, .cons h2 h4⟩
def Nf (t : Cg) : Prop := ∀ u, Pr t u → u = t
theorem Nf.prs {t u : Cg} (h : Nf t) (k : Prs t u) : u = t := by
  induction k with
  | nil => rfl
  | cons p _ ih =>
    have := h _ p
    subst this
    exact ih h
theorem one_end {t a b : Cg} (h : Prs t a) (k : Prs t b) (ha : Nf a) (hb : Nf b) : a = b := by
  obtain ⟨c, h1, h2⟩ := conf h k
  exact (ha.prs h1).symm.trans (hb.prs h2)
/-! #### the program's step is one of these -/
theorem hd_ap (f a : Cg) : (ap f a).hd = (f.hd.1, f.hd.2 ++ [a]) := rfl
theorem Prs.un {h : Cg} : ∀ (r : List Cg) {h' : Cg}, Prs h h' → Prs (un h r) (un h' r)
  | [], _, k => k
  | a :: r, _, k => Prs.un r (k.ap (.nil a))
theorem rule_pr {h u : Cg} {r : List Cg} (hr : rule h r = some u) : Prs (un h (r.take h.need)) u ∧ h.need ≤ r.length ∧ 0 < h.need := by
  unfold rule at hr
  split at hr
  · cases hr; exact ⟨.one (.I (.refl _)), by simp [need], by decide⟩
  · cases hr; exact ⟨.one (.K (.refl _)), by simp [need], by decide⟩
  · cases hr; exact ⟨.one (.S (.refl _) (.refl _) (.refl _)), by simp [need], by decide⟩
  · cases hr; exact ⟨.one (.B (.refl _) (.refl _) (.refl _)), by simp [need], by decide⟩
  · cases hr; exact ⟨.one (.C (.refl _) (.refl _) (.refl _)), by simp [need], by decide⟩
  · cases hr
theorem red_pr {t u : Cg} (h : red t = some u) : Prs t u := by
  unfold red at h
  by_cases hc : 0 < t.hd.1.need ∧ t.hd.1.need ≤ t.hd.2.length
  · rw [if_pos hc] at h
    obtain ⟨w, hw, rfl⟩ := Option.map_eq_some_iff.mp h
    have h1 := (rule_pr hw).1
    have h2 := Prs.un (t.hd.2.drop t.hd.1.need) h1
    have h3 : un (un t.hd.1 (t.hd.2.take t.hd.1.need)) (t.hd.2.drop t.hd.1.need) = t := by
      unfold un
      rw [← List.foldl_append, List.take_append_drop]
      exact un_hd t
    rw [h3] at h2
    exact h2
  · rw [if_neg hc] at h; cases h
theorem step_pr : ∀ {t u : Cg}, t.step = some u → Prs t u
  | .ap f a, u, h => by
    rw [step] at h
    cases hr : red (ap f a) with
    | some w => rw [hr] at h; cases h; exact red_pr hr
    | none =>
      rw [hr] at h
      dsimp only at h
      cases hf : f.step with
      | some f' => rw [hf] at h; cases h; exact (step_pr hf).ap (.nil a)
      | none =>
        rw [hf] at h
        obtain ⟨a', ha, rfl⟩ := Option.map_eq_some_iff.mp h
        exact (Prs.nil f).ap (step_pr ha)
theorem rule_some {h : Cg} {r : List Cg} (h1 : 0 < h.need) (h2 : h.need ≤ r.length) : ∃ u, rule h r = some u := by
  cases h with
  | l k => cases k with
    | I => cases r with
      | nil => cases h2
      | cons x r => exact ⟨_, rfl⟩
    | K => match r, h2 with
      | x :: y :: r, _ => exact ⟨_, rfl⟩
    | S => match r, h2 with
      | x :: y :: z :: r, _ => exact ⟨_, rfl⟩
    | B => match r, h2 with
      | x :: y :: z :: r, _ => exact ⟨_, rfl⟩
    | C => match r, h2 with
      | x :: y :: z :: r, _ => exact ⟨_, rfl⟩
  | _ => cases h1
theorem red_none {t : Cg} (h : red t = none) : ¬ (0 < t.hd.1.need ∧ t.hd.1.need ≤ t.hd.2.length) := fun hc => by
  unfold red at h
  rw [if_pos hc] at h
  obtain ⟨u, hu⟩ := rule_some hc.1 hc.2
  rw [hu] at h; cases h
/-- where nothing steps, nothing steps at once -/
theorem step_nf : ∀ {t : Cg}, t.step = none → Nf t
  | .l k, _, u, p => by cases p; rfl
  | .v x, _, u, p => by cases p; rfl
  | .ap f a, h, u, p => by
    rw [step] at h
    cases hr : red (ap f a) with
    | some w => rw [hr] at h; cases h
    | none =>
      rw [hr] at h
      dsimp only at h
      cases hf : f.step with
      | some f' => rw [hf] at h; cases h
      | none =>
        rw [hf] at h
        have ha : a.step = none := Option.map_eq_none_iff.mp h
        have hn := red_none hr
        cases p with
        | ap h1 h2 => rw [step_nf hf _ h1, step_nf ha _ h2]
        | I _ => exact absurd ⟨(by simp [hd, need]), by simp [hd, need]⟩ hn
        | K _ => exact absurd ⟨(by simp [hd, need]), by simp [hd, need]⟩ hn
        | S _ _ _ => exact absurd ⟨(by simp [hd, need]), by simp [hd, need]⟩ hn
        | B _ _ _ => exact absurd ⟨(by simp [hd, need]), by simp [hd, need]⟩ hn
        | C _ _ _ => exact absurd ⟨(by simp [hd, need]), by simp [hd, need]⟩ hn
/-- within k steps: the end and their count -/
def endC : Nat → Cg → Nat → Option (Cg × Nat)
  | 0, _, _ => none
  | k + 1, t, c => match t.step with
    | none => some (t, c)
    | some t' => endC k t' (c + 1)
theorem endC_prs : ∀ {k : Nat} {t u : Cg} {c n : Nat}, endC k t c = some (u, n) → Prs t u ∧ Nf u
  | 0, _, _, _, _, h => nomatch h
  | k + 1, t, u, c, n, h => by
    rw [endC] at h
    cases hs : t.step with
    | none => rw [hs] at h; cases h; exact ⟨.nil _, step_nf hs⟩
    | some t' =>
      rw [hs] at h
      obtain ⟨h1, h2⟩ := endC_prs h
      exact ⟨(step_pr hs).trans h1, h2⟩
/-! #### without a name -/
theorem put_no {x : Str} {o : Cg} : ∀ {t : Cg}, t.has x = false → t.put x o = t
  | .l _, _ => rfl
  | .v y, h => by
    have h : decide (y = x) = false := h
    show (if y = x then o else v y) = _
    rw [if_neg (of_decide_eq_false h)]
  | .ap f a, h => by
    have h : (f.has x || a.has x) = false := h
    rw [Bool.or_eq_false_iff] at h
    show ap (f.put x o) (a.put x o) = _
    rw [put_no h.1, put_no h.2]
theorem wo_has {x : Str} : ∀ t : Cg, (t.wo x).has x = false
  | .l _ => rfl
  | .v y => by
    rw [wo]
    by_cases h : y = x
    · rw [if_pos h]; rfl
    · rw [if_neg h]; show (false || decide (y = x)) = false; rw [decide_eq_false h]; rfl
  | .ap f a => by
    rw [wo]
    split
    · rename_i h
      show (false || (ap f a).has x) = false
      rw [h]; rfl
    · split
      · rename_i h; exact h.2
      · split
        · rename_i h
          show ((false || f.has x) || (a.wo x).has x) = false
          rw [h, wo_has a]; rfl
        · split
          · rename_i h
            show ((false || (f.wo x).has x) || a.has x) = false
            rw [h, wo_has f]; rfl
          · show ((false || (f.wo x).has x) || (a.wo x).has x) = false
            rw [wo_has f, wo_has a]; rfl
theorem wo_laid {x : Str} {o : Cg} : ∀ t : Cg, Prs (.ap (t.wo x) o) (t.put x o)
  | .l _ => .one (.K (.refl _))
  | .v y => by
    rw [wo]
    show Prs _ (if y = x then o else v y)
    by_cases h : y = x
    · rw [if_pos h, if_pos h]; exact .one (.I (.refl _))
    · rw [if_neg h, if_neg h]; exact .one (.K (.refl _))
  | .ap f a => by
    rw [wo]
    show Prs _ (ap (f.put x o) (a.put x o))
    split
    · rename_i h
      have h' : (f.has x || a.has x) = false := h
      rw [Bool.or_eq_false_iff] at h'
      rw [put_no h'.1, put_no h'.2]
      exact .one (.K (.refl _))
    · split
      · rename_i h
        rw [put_no h.2, h.1]
        show Prs _ (ap f (if x = x then o else v x))
        rw [if_pos rfl]
        exact .nil _
      · split
        · rename_i h
          rw [put_no h]
          exact .cons (.B (.refl _) (.refl _) (.refl _)) ((Prs.nil _).ap (wo_laid a))
        · split
          · rename_i h
            rw [put_no h]
            exact .cons (.C (.refl _) (.refl _) (.refl _)) ((wo_laid f).ap (.nil _))
          · exact .cons (.S (.refl _) (.refl _) (.refl _)) ((wo_laid f).ap (wo_laid a))
/-- both ways lead to one end -/
theorem law_end {t o : Cg} {x : Str} {k j : Nat} {a b : Cg} {n m : Nat} (h : endC k (.ap (t.wo x) o) 0 = some (a, n)) (h' : endC j (t.put x o) 0 = some (b, m)) : a = b := by
  obtain ⟨h1, h2⟩ := endC_prs h
  obtain ⟨h3, h4⟩ := endC_prs h'
  exact one_end h1 ((wo_laid t).trans h3) h2 h4
end Cg
end Sq
set_option Elab.async false
set_option linter.all false
set_option maxRecDepth 100000
set_option maxHeartbeats 2000000
namespace Sq
open PySem PySem.Spec PyProof.Rows L2
/-! ### small equivalences for readings -/
theorem ex1 {α : Type} {a : α} {p : α → Prop} : (∃ x, a = x ∧ p x) ↔ p a := ⟨fun ⟨x, e, h⟩ => e ▸ h, fun h => ⟨a, rfl, h⟩⟩
theorem ex1' {α : Type} {a : α} {p : α → Prop} : (∃ x, x = a ∧ p x) ↔ p a := ⟨fun ⟨x, e, h⟩ => e ▸ h, fun h => ⟨a, rfl, h⟩⟩
theorem exI {a : Int} {p : Int → Prop} : (∃ x, V.int a = V.int x ∧ p x) ↔ p a := ⟨fun ⟨x, e, h⟩ => by cases e; exact h, fun h => ⟨a, rfl, h⟩⟩
theorem exI2 {a b : Int} {p : Int → Int → Prop} : (∃ x y, V.int a = V.int x ∧ V.int b = V.int y ∧ p x y) ↔ p a b := ⟨fun ⟨x, y, e, e', h⟩ => by cases e; cases e'; exact h, fun h => ⟨a, b, rfl, rfl, h⟩⟩
theorem exB {a : Bool} {p : Bool → Prop} : (∃ x, V.bl a = V.bl x ∧ p x) ↔ p a := ⟨fun ⟨x, e, h⟩ => by cases e; exact h, fun h => ⟨a, rfl, h⟩⟩
theorem exS {a : Str} {p : Str → Prop} : (∃ x, V.str a = V.str x ∧ p x) ↔ p a := ⟨fun ⟨x, e, h⟩ => by cases e; exact h, fun h => ⟨a, rfl, h⟩⟩
theorem exR {a : Addr} {p : Addr → Prop} : (∃ x, V.ref a = V.ref x ∧ p x) ↔ p a := ⟨fun ⟨x, e, h⟩ => by cases e; exact h, fun h => ⟨a, rfl, h⟩⟩
theorem exSl {v : V} {p : V → Prop} : (∃ x, some (some v) = some (some x) ∧ p x) ↔ p v := ⟨fun ⟨x, e, h⟩ => by cases e; exact h, fun h => ⟨v, rfl, h⟩⟩
section
variable {α : Type} {a b c d : α} {r : List α}
theorem at_ix {xs : List α} {k : Nat} (h : k < xs.length) : atI xs ((k : Nat) : Int) = xs[k]? := by
  unfold atI ixN
  rw [if_pos (by omega), if_pos (by omega)]
  rfl
theorem atI_0 : atI (a :: r) (0 : Int) = some a := at_ix (k := 0) (by simp)
theorem atI_1 : atI (a :: b :: r) (1 : Int) = some b := at_ix (k := 1) (by simp)
theorem atI_2 : atI (a :: b :: c :: r) (2 : Int) = some c := at_ix (k := 2) (by simp)
theorem atI_3 : atI (a :: b :: c :: d :: r) (3 : Int) = some d := at_ix (k := 3) (by simp)
theorem ixN_k {n k : Nat} (h : k < n) : ixN n ((k : Nat) : Int) = some k := by
  unfold ixN
  rw [if_pos (by omega), if_pos (by omega)]
  rfl
theorem ixN_0 {n : Nat} : ixN (n + 1) (0 : Int) = some 0 := ixN_k (k := 0) (by omega)
theorem ixN_1 {n : Nat} : ixN (n + 1 + 1) (1 : Int) = some 1 := ixN_k (k := 1) (by omega)
theorem ixN_2 {n : Nat} : ixN (n + 1 + 1 + 1) (2 : Int) = some 2 := ixN_k (k := 2) (by omega)
end
theorem cutV_from {xs : List V} {k : Nat} : cutV xs (some ((k : Nat) : Int)) none = xs.drop k := by
  unfold cutV
  rw [HT.sIx_nat, HT.sIx_none]
  by_cases h : k ≤ xs.length
  · rw [Nat.min_eq_left h, ← List.length_drop, List.take_length]
  · rw [Nat.min_eq_right (by omega), List.drop_eq_nil_of_le (by omega), List.drop_eq_nil_of_le (by omega), List.take_nil]
theorem cutV_to {xs : List V} {k : Nat} : cutV xs none (some ((k : Nat) : Int)) = xs.take k := by
  unfold cutV
  rw [HT.sIx_nat, HT.sIx_none, List.drop_zero, Nat.sub_zero]
  by_cases h : k ≤ xs.length
  · rw [Nat.min_eq_left h]
  · rw [Nat.min_eq_right (by omega), List.take_length, List.take_of_length_le (by omega)]
theorem cutV_1 {x : V} {xs : List V} : cutV (x :: xs) (some 1) none = xs := cutV_from (k := 1)
theorem cutV_2 {x y : V} {xs : List V} : cutV (x :: y :: xs) (some 2) none = xs := cutV_from (k := 2)
end Sq
set_option Elab.async false
set_option linter.all false
set_option maxRecDepth 100000
set_option maxHeartbeats 2000000
namespace Sq
open PySem PySem.Spec PyProof.Rows L2
/-! ### a list made by a comprehension -/
/-- behind the walked thing's making -/
def LcB (J : It) (g : TG) (tt : TT) (te : TE) (vs : List Nat) (σ : L2.St) (H1 : Hp) (Q : VK) : Prop := ∀ D, H1 D = none → ∃ W : Nat → Nat → Hp → Prop, (∃ m, W 0 m (upd H1 D (.lst []))) ∧ ∀ i m H, W i m H →
  (J.stop i H ∧ Q (.ref D) H) ∨ (J.go i H ∧ ∃ Nx : Hp → Prop, (∀ H', Nx H' → ∃ m', m' < m ∧ W (i + 1) m' H') ∧ ∀ x H', J.yld i H x H' → g x (wipe σ vs) H' fun σ2 H2 => wipe σ2 vs = wipe σ vs ∧ tt σ2 H2 fun b H3 =>
    if b = true then te σ2 H3 fun y H4 => ∃ acc, H4 D = some (.lst acc) ∧ acc.length < sizeLine ∧ Nx (upd H4 D (.lst (acc ++ [y]))) else Nx H3)
def tLcF (wi : TI) (g : TG) (tt : TT) (te : TE) (vs : List Nat) : TE := fun σ H Q => wi σ H fun J H1 => LcB J g tt te vs σ H1 Q
theorem pe_lcF {X : Cx} {elt tg iter : Expr} {ifs : List Expr} {scope : Scope} {own : List (Str × Nat)} {pos : Pos} {wi : TI} {g : TG} {tt : TT} {te : TE} (hc : X.calm = true) (hN : X.N.Nodup) (hi : PI X tg iter wi) (ok : BlkOk X.N X.env.scope scope own)
    (hg : ∀ (s : Shared) (H : Hp) (C : Addr) (cl : List (Str × Addr)) (fp : List Addr), PG (X.blk s H scope (compEnvC scope cl C X.env) fp) tg g) (ht : ∀ (s : Shared) (H : Hp) (C : Addr) (cl : List (Str × Addr)) (fp : List Addr), PTs (X.blk s H scope (compEnvC scope cl C X.env) fp) ifs tt)
    (he : ∀ (s : Shared) (H : Hp) (C : Addr) (cl : List (Str × Addr)) (fp : List Addr), PE (X.blk s H scope (compEnvC scope cl C X.env) fp) elt te) (hs : ∀ x, foldedSetIterable iter X.env x = pure x := by intro _; rfl) :
    PE X (.ListComp elt [⟨tg, iter, ifs, 0⟩] scope pos) (tLcF wi g tt te (own.map (·.2))) := pe_lc hc hN hi ok hg ht he hs
theorem ps_setLcF {X : Cx} {i : Nat} {y : Str} {py : Pos} {elt tg iter : Expr} {ifs : List Expr} {scope : Scope} {own : List (Str × Nat)} {pos spos : Pos} {wi : TI} {g : TG} {tt : TT} {te : TE} (hc : X.calm = true) (hN : X.N.Nodup) (hy : X.N[i]? = some y) (hyl : X.env.scope.names.lookup y = some .local)
    (hsw : swapsWith (.ListComp elt [⟨tg, iter, ifs, 0⟩] scope pos) (some (.Name y py)) spos.line X.env = pure true) (hi : PI X tg iter wi) (ok : BlkOk X.N X.env.scope scope own)
    (hg : ∀ (s : Shared) (H : Hp) (C : Addr) (cl : List (Str × Addr)) (fp : List Addr), PG (X.blk s H scope (compEnvC scope cl C X.env) fp) tg g) (ht : ∀ (s : Shared) (H : Hp) (C : Addr) (cl : List (Str × Addr)) (fp : List Addr), PTs (X.blk s H scope (compEnvC scope cl C X.env) fp) ifs tt)
    (he : ∀ (s : Shared) (H : Hp) (C : Addr) (cl : List (Str × Addr)) (fp : List Addr), PE (X.blk s H scope (compEnvC scope cl C X.env) fp) elt te) (hs : ∀ x, foldedSetIterable iter X.env x = pure x := by intro _; rfl) :
    PS X (.Assign [.Name y py] (.ListComp elt [⟨tg, iter, ifs, 0⟩] scope pos) spos) (tAsg (tLcF wi g tt te (own.map (·.2))) (gName i)) := ps_setLc hc hN hy hyl hsw hi ok hg ht he hs
/-- the list at D holds what was made so far -/
def LcN (D : Addr) (Pv : Nat → List V → Hp → Prop) (i : Nat) (H : Hp) : Prop := ∃ ys, ys.length ≤ i ∧ H D = some (.lst ys) ∧ Pv i ys H
theorem lc_end {D : Addr} {Pv : Nat → List V → Hp → Prop} {i : Nat} {ys : List V} {y : V} {H : Hp} (hD : ∀ i ys H zs o, H D = some (.lst zs) → Pv i ys H → Pv i ys (upd H D (.lst o))) (hi : i < 100000) (hl : ys.length ≤ i) (h1 : H D = some (.lst ys)) (h2 : Pv (i + 1) (ys ++ [y]) H) :
    ∃ acc, H D = some (.lst acc) ∧ acc.length < sizeLine ∧ LcN D Pv (i + 1) (upd H D (.lst (acc ++ [y]))) :=
  ⟨ys, h1, Nat.lt_of_le_of_lt hl (Nat.lt_of_lt_of_le hi (by decide)), ys ++ [y], by rw [List.length_append, List.length_singleton]; omega, upd_same, hD _ _ _ _ _ h1 h2⟩
section
variable {K : PySem.W.Frag} {a : Addr} {xs : List V} {g : TG} {tt : TT} {te : TE} {vs : List Nat} {σ : L2.St} {H1 : Hp} {Q : VK}
/-- over anything that is walked -/
theorem lc_go {J : It} {n : Nat} {G : Hp → Prop} {Y : Nat → Hp → V → Hp → Prop} (w : Walk J n G Y) (Pv : Addr → Nat → List V → Hp → Prop) (h0 : ∀ D, H1 D = none → Pv D 0 [] (upd H1 D (.lst [])))
    (hG : ∀ D i ys H, Pv D i ys H → G H)
    (hs : ∀ D i x ys H H', H1 D = none → i < n → Pv D i ys H → ys.length ≤ i → H D = some (.lst ys) → Y i H x H' → g x (wipe σ vs) H' fun σ2 H2 => wipe σ2 vs = wipe σ vs ∧ tt σ2 H2 fun b H3 =>
      if b = true then te σ2 H3 fun y H4 => ∃ acc, H4 D = some (.lst acc) ∧ acc.length < sizeLine ∧ LcN D (Pv D) (i + 1) (upd H4 D (.lst (acc ++ [y]))) else LcN D (Pv D) (i + 1) H3)
    (hd : ∀ D ys H, H1 D = none → Pv D n ys H → H D = some (.lst ys) → ys.length ≤ n → Q (.ref D) H) : LcB J g tt te vs σ H1 Q := fun D hD =>
  lc_it w (LcN D (Pv D)) ⟨[], Nat.le_refl _, upd_same, h0 D hD⟩ (fun i H _ ⟨ys, _, _, p⟩ => hG D i ys H p) (fun i x H H' hi ⟨ys, hl, e, p⟩ y => hs D i x ys H H' hD hi p hl e y) fun H ⟨ys, hl, e, p⟩ => hd D ys H hD p e hl
end
/-! ### a for -/
def ForB (J : It) (g : TG) (tb : TS) (D : Ends) (σ : L2.St) (H1 : Hp) : Prop := ∃ W : Nat → Nat → L2.St → Hp → Prop, (∃ m, W 0 m σ H1) ∧ ∀ i m σ H, W i m σ H →
  (J.stop i H ∧ D.nx σ H) ∨ (J.go i H ∧ ∃ N : L2.St → Hp → Prop, (∀ σ' H', N σ' H' → ∃ m', m' < m ∧ W (i + 1) m' σ' H') ∧ ∀ x H', J.yld i H x H' → g x σ H' fun σ2 H2 => tb { D with nx := N, ct := N, bk := D.nx } σ2 H2)
def tForF (wi : TI) (g : TG) (tb : TS) : TS := fun D σ H => wi σ H fun J H1 => ForB J g tb D σ H1
theorem ps_forF {X : Cx} {tg iter : Expr} {body : List Stmt} {wi : TI} {g : TG} {tb : TS} {pos : Pos} (hp : PassesOwn (model X.prog X.w) X.A X.env X.xe) (hc : X.calm = true) (hi : PI X tg iter wi) (hg : PG X tg g) (hb : PSs X body tb)
    (hs : ∀ x, foldedSetIterable iter X.env x = pure x := by intro _; rfl) : PS X (.For tg iter body [] pos) (tForF wi g tb) := ps_for hp hc hi hg hb hs
theorem for_go {J : It} {n : Nat} {G : Hp → Prop} {Y : Nat → Hp → V → Hp → Prop} (w : Walk J n G Y) {g : TG} {tb : TS} {D : Ends} {σ : L2.St} {H : Hp} (Pv : Nat → L2.St → Hp → Prop) (h0 : Pv 0 σ H) (hG : ∀ i σ H, i ≤ n → Pv i σ H → G H)
    (hs : ∀ i x σ H H', i < n → Pv i σ H → Y i H x H' → g x σ H' fun σ2 H2 => tb { D with nx := Pv (i + 1), ct := Pv (i + 1), bk := D.nx } σ2 H2) (hd : ∀ σ H, Pv n σ H → D.nx σ H) : ForB J g tb D σ H :=
  for_it w Pv h0 hG hs hd
/-! ### all, any, sum -/
def GB {τ : Type} (P : Addr) (J : It) (g : TG) (tt : TT) (te : TE) (vs : List Nat) (t0 : τ) (Cons : τ → V → Hp → (τ → Hp → Prop) → Prop) (Fin : τ → Hp → Prop) (σ : L2.St) (H1 : Hp) : Prop := GxR.TabG H1 P ∧ ∀ H2, GxR.Tabbed P H1 H2 → ∃ W : Nat → Nat → τ → Hp → Prop, (∃ m, W 0 m t0 H2) ∧
  GW J g tt te vs σ W Cons Fin
theorem gen_go {τ : Type} {P : Addr} {J : It} {n : Nat} {G : Hp → Prop} {Y : Nat → Hp → V → Hp → Prop} (w : Walk J n G Y) {g : TG} {tt : TT} {te : TE} {vs : List Nat} {t0 : τ} {Cons : τ → V → Hp → (τ → Hp → Prop) → Prop} {Fin : τ → Hp → Prop} {σ : L2.St} {H1 : Hp}
    (ht : GxR.TabG H1 P) (Pv : Nat → τ → Hp → Prop) (h0 : ∀ H2, Ext [P] H1 H2 → Pv 0 t0 H2) (hG : ∀ i t H, i ≤ n → Pv i t H → G H)
    (hs : ∀ i x t H H', i < n → Pv i t H → Y i H x H' → g x (wipe σ vs) H' fun σ2 H2 => wipe σ2 vs = wipe σ vs ∧ tt σ2 H2 fun b H3 => if b = true then te σ2 H3 fun y H4 => Cons t y H4 (Pv (i + 1)) else Pv (i + 1) t H3)
    (hd : ∀ t H, Pv n t H → Fin t H) : GB P J g tt te vs t0 Cons Fin σ H1 := by
  refine ⟨ht, fun H2 hT => ⟨fun i m t H => m = n - i ∧ i ≤ n ∧ Pv i t H, ⟨n, rfl, Nat.zero_le _, h0 H2 (Ext.tabbed List.mem_cons_self ht hT)⟩, ?_⟩⟩
  rintro i m t H ⟨rfl, hi, p⟩
  by_cases hlt : i < n
  · exact .inr ⟨w.goes i H hlt (hG i t H hi p), Pv (i + 1), fun t' H' p' => ⟨n - (i + 1), by omega, rfl, hlt, p'⟩, fun x H' y => hs i x t H H' hlt p (w.yields i H x H' hlt (hG i t H hi p) y)⟩
  · have e : i = n := by omega
    subst e
    exact .inl ⟨w.stops H (hG _ t H hi p), hd t H p⟩
def tAllF (P : Addr) (wi : TI) (g : TG) (tt : TT) (te : TE) (vs : List Nat) : TE := fun σ H Q => wi σ H fun J H1 => GB P J g tt te vs () (fun _ y H N => ∃ b, y = .bl b ∧ if b = true then N () H else Q (.bl false) H) (fun _ H => Q (.bl true) H) σ H1
def tAnyF (P : Addr) (wi : TI) (g : TG) (tt : TT) (te : TE) (vs : List Nat) : TE := fun σ H Q => wi σ H fun J H1 => GB P J g tt te vs () (fun _ y H N => ∃ b, y = .bl b ∧ if b = true then Q (.bl true) H else N () H) (fun _ H => Q (.bl false) H) σ H1
def tSumF (P : Addr) (wi : TI) (g : TG) (tt : TT) (te : TE) (vs : List Nat) : TE := fun σ H Q => wi σ H fun J H1 => GB P J g tt te vs (0 : Int) (fun t y H N => ∃ j, y = .int j ∧ (InLong j ∧ InLong (t + j)) ∧ N (t + j) H) (fun t H => Q (.int t) H) σ H1

theorem pair_tgt {K : PySem.W.Frag} {t : TGs} {v : V} {σ : L2.St} {H H' : Hp} {Q : L2.St → Hp → Prop} {xs ys : Nat → Option V} {i : Nat} (y : YPair xs ys i H v H') (h : ∀ x y, xs i = some x → ys i = some y → Ext [] H H' → t [x, y] σ H' Q) : gTup K 2 t v σ H' Q := by
  obtain ⟨T, x, y, rfl, hT, rfl, hx, hy⟩ := y
  exact ⟨T, [x, y], rfl, SqT.of upd_same, rfl, h x y hx hy (Ext.new hT)⟩
section
variable {X : Cx}
theorem pe_allF {c P : Addr} {elt tg iter : Expr} {ifs : List Expr} {gpos p pos : Pos} {scope : Scope} {own : List (Str × Nat)} {wi : TI} {g : TG} {tt : TT} {te : TE} {k : Nat}
    (hr : Room k X.A) (hc : X.calm = true) (hN : X.N.Nodup) (hgl : Gl X "all") (hm : X.mg "all" = none) (TB : GxR.TabB X.base X.mg c P) (hcode : X.env.code = .ref c) (hi : PI X tg iter wi) (ok : BlkOk X.N X.env.scope scope own) (hcell : ∀ y ∈ scope.names, y.2 ≠ .cell) (hco : scope.isCoroutine = false) (hdot : scope.names.lookup (".0" : Str) = some NameKind.local)
    (hg : ∀ (s : Shared) (H : Hp) (C : Addr) (code : Value) (fp : List Addr), PG (gCx X s H (gEnv X scope C code) fp) tg g) (ht : ∀ (s : Shared) (H : Hp) (C : Addr) (code : Value) (fp : List Addr), PTs (gCx X s H (gEnv X scope C code) fp) ifs tt)
    (he : ∀ (s : Shared) (H : Hp) (C : Addr) (code : Value) (fp : List Addr), PE (gCx X s H (gEnv X scope C code) fp) elt te)
    (hs : ∀ v, genFold iter X.env v = pure v := by intro _; rfl)
    (hse : starEach [.GeneratorExp elt [⟨tg, iter, ifs, 0⟩] scope gpos] X.env = (false, eval (.GeneratorExp elt [⟨tg, iter, ifs, 0⟩] scope gpos) X.env) :: starEach [] X.env := by rfl) :
    PE X (.Call (.Name "all" p) [.GeneratorExp elt [⟨tg, iter, ifs, 0⟩] scope gpos] [] pos) (tAllF P wi g tt te (own.map (·.2))) := pe_allG hr hc hN hgl hm TB hcode hi ok hcell hco hdot hg ht he hs (by decide +kernel) hse
theorem pe_anyF {c P : Addr} {elt tg iter : Expr} {ifs : List Expr} {gpos p pos : Pos} {scope : Scope} {own : List (Str × Nat)} {wi : TI} {g : TG} {tt : TT} {te : TE} {k : Nat}
    (hr : Room k X.A) (hc : X.calm = true) (hN : X.N.Nodup) (hgl : Gl X "any") (hm : X.mg "any" = none) (TB : GxR.TabB X.base X.mg c P) (hcode : X.env.code = .ref c) (hi : PI X tg iter wi) (ok : BlkOk X.N X.env.scope scope own) (hcell : ∀ y ∈ scope.names, y.2 ≠ .cell) (hco : scope.isCoroutine = false) (hdot : scope.names.lookup (".0" : Str) = some NameKind.local)
    (hg : ∀ (s : Shared) (H : Hp) (C : Addr) (code : Value) (fp : List Addr), PG (gCx X s H (gEnv X scope C code) fp) tg g) (ht : ∀ (s : Shared) (H : Hp) (C : Addr) (code : Value) (fp : List Addr), PTs (gCx X s H (gEnv X scope C code) fp) ifs tt)
    (he : ∀ (s : Shared) (H : Hp) (C : Addr) (code : Value) (fp : List Addr), PE (gCx X s H (gEnv X scope C code) fp) elt te)
    (hs : ∀ v, genFold iter X.env v = pure v := by intro _; rfl)
    (hse : starEach [.GeneratorExp elt [⟨tg, iter, ifs, 0⟩] scope gpos] X.env = (false, eval (.GeneratorExp elt [⟨tg, iter, ifs, 0⟩] scope gpos) X.env) :: starEach [] X.env := by rfl) :
    PE X (.Call (.Name "any" p) [.GeneratorExp elt [⟨tg, iter, ifs, 0⟩] scope gpos] [] pos) (tAnyF P wi g tt te (own.map (·.2))) := pe_anyG hr hc hN hgl hm TB hcode hi ok hcell hco hdot hg ht he hs (by decide +kernel) hse
theorem pe_sumF {c P : Addr} {elt tg iter : Expr} {ifs : List Expr} {gpos p pos : Pos} {scope : Scope} {own : List (Str × Nat)} {wi : TI} {g : TG} {tt : TT} {te : TE} {k : Nat}
    (hr : Room k X.A) (hc : X.calm = true) (hN : X.N.Nodup) (hgl : Gl X "sum") (hm : X.mg "sum" = none) (TB : GxR.TabB X.base X.mg c P) (hcode : X.env.code = .ref c) (hi : PI X tg iter wi) (ok : BlkOk X.N X.env.scope scope own) (hcell : ∀ y ∈ scope.names, y.2 ≠ .cell) (hco : scope.isCoroutine = false) (hdot : scope.names.lookup (".0" : Str) = some NameKind.local)
    (hg : ∀ (s : Shared) (H : Hp) (C : Addr) (code : Value) (fp : List Addr), PG (gCx X s H (gEnv X scope C code) fp) tg g) (ht : ∀ (s : Shared) (H : Hp) (C : Addr) (code : Value) (fp : List Addr), PTs (gCx X s H (gEnv X scope C code) fp) ifs tt)
    (he : ∀ (s : Shared) (H : Hp) (C : Addr) (code : Value) (fp : List Addr), PE (gCx X s H (gEnv X scope C code) fp) elt te)
    (hs : ∀ v, genFold iter X.env v = pure v := by intro _; rfl)
    (hse : starEach [.GeneratorExp elt [⟨tg, iter, ifs, 0⟩] scope gpos] X.env = (false, eval (.GeneratorExp elt [⟨tg, iter, ifs, 0⟩] scope gpos) X.env) :: starEach [] X.env := by rfl) :
    PE X (.Call (.Name "sum" p) [.GeneratorExp elt [⟨tg, iter, ifs, 0⟩] scope gpos] [] pos) (tSumF P wi g tt te (own.map (·.2))) := pe_sumG hr hc hN hgl hm TB hcode hi ok hcell hco hdot hg ht he hs (by decide +kernel) hse
end
end Sq
set_option Elab.async false
set_option linter.all false
set_option maxRecDepth 100000
set_option maxHeartbeats 2000000
namespace Sq
open PySem PySem.Spec PyProof.Rows L2
theorem dct2_out (kx vx t0 i0 t1 i1 : Expr) (ifs0 ifs1 : List Expr) (scope : Scope) (pos : Pos) (it : Value) (D : Addr) (env : Env) :
    compTurn (.DictComp kx vx [⟨t0, i0, ifs0, 0⟩, ⟨t1, i1, ifs1, 0⟩] scope pos) 0 it (.ref D) env = (do
      standAt i0.pos
      match ← pyNext it with
      | none => pure (.done .next)
      | some v =>
        letOwnedTupleGo t0 it v
        assign t0 env v
        let mut ok := true
        for c in ifs0 do
          if ok then ok ← isTrue c env (eval c env)
        if ok then
          let x ← eval i1 env
          standAt i1.pos
          let x ← foldedSetIterable i1 env x
          let _ ← runOwn (.compStart (.DictComp kx vx [⟨t0, i0, ifs0, 0⟩, ⟨t1, i1, ifs1, 0⟩] scope pos) 1 (← holding [x] (pyIter x)) (.ref D) env) env
        again (.compLoop (.DictComp kx vx [⟨t0, i0, ifs0, 0⟩, ⟨t1, i1, ifs1, 0⟩] scope pos) 0 it (.ref D) env)) := by rfl
theorem dct2_in (kx vx t0 i0 t1 i1 : Expr) (ifs0 ifs1 : List Expr) (scope : Scope) (pos : Pos) (it : Value) (D : Addr) (env : Env) :
    compTurn (.DictComp kx vx [⟨t0, i0, ifs0, 0⟩, ⟨t1, i1, ifs1, 0⟩] scope pos) 1 it (.ref D) env = (do
      standAt i1.pos
      match ← pyNext it with
      | none => pure (.done .next)
      | some v =>
        letOwnedTupleGo t1 it v
        assign t1 env v
        let mut ok := true
        for c in ifs1 do
          if ok then ok ← isTrue c env (eval c env)
        if ok then
          (do
            let kv ← eval kx env
            let vv ← holding [kv] (eval vx env)
            standAt { kx.pos with endLine := vx.pos.endLine, endCol := vx.pos.endCol }
            holding [kv, vv] (dictSet D kv vv))
        again (.compLoop (.DictComp kx vx [⟨t0, i0, ifs0, 0⟩, ⟨t1, i1, ifs1, 0⟩] scope pos) 1 it (.ref D) env)) := by rfl

section
variable {prog : Program} {w : World} {A : Around} {R : Result → Shared → Prop} {s : Shared} {kx vx t0 i0 t1 i1 : Expr} {ifs0 ifs1 : List Expr} {scope : Scope} {pos : Pos} {it : Value} {D : Addr} {env : Env}
theorem dcl2_out (hs : ∀ x, foldedSetIterable i1 env x = pure x) (I : Nat → Shared → Prop)
    (turn : ∀ n s, I n s → wpAny (model prog w) A (pyNext it) (fun r s₁ => match r with
      | none => R (.ok .next) s₁
      | some v => wpAny (model prog w) A (letOwnedTupleGo t0 it v) (fun _ s₁' => wpAny (model prog w) A (assign t0 env v) (fun _ s₂ =>
          wpAny (model prog w) A (forIn ifs0 true fun c r => if r = true then do let ok ← isTrue c env (eval c env); pure (ForInStep.yield ok) else pure (ForInStep.yield r)) (fun ok s₃ =>
            if ok = true then wpAny (model prog w) A (eval i1 env) (fun x s₄ => wpAny (model prog w) A (pyIter x) (fun it1 s₅ =>
              codeAny (model prog w) A (.compStart (.DictComp kx vx [⟨t0, i0, ifs0, 0⟩, ⟨t1, i1, ifs1, 0⟩] scope pos) 1 it1 (.ref D) env) (fun r s' => match r with
                | .ok _ => ∃ m, m < n ∧ I m s'
                | .error _ => False) s₅) (notedBy (model prog w) A env fun e s' => R (.error e) s') s₄) (notedBy (model prog w) A env fun e s' => R (.error e) s') s₃
            else ∃ m, m < n ∧ I m s₃) (notedBy (model prog w) A env fun e s' => R (.error e) s') s₂) (notedBy (model prog w) A env fun e s' => R (.error e) s') s₁') (notedBy (model prog w) A env fun e s' => R (.error e) s') s₁) (notedBy (model prog w) A env fun e s' => R (.error e) s') s)
    (n : Nat) (h : I n s) :
    codeAny (model prog w) A (.compLoop (.DictComp kx vx [⟨t0, i0, ifs0, 0⟩, ⟨t1, i1, ifs1, 0⟩] scope pos) 0 it (.ref D) env) R s := by
  refine codeAny_loop rfl I (fun n s hI => ?_) n h
  show wpAny _ A ((compTurn (.DictComp kx vx [⟨t0, i0, ifs0, 0⟩, ⟨t1, i1, ifs1, 0⟩] scope pos) 0 it (.ref D) env).onRaise (fun x => do noteFrame x env; theTreesLotGoes x)) _ _ s
  refine wpAny_noted ?_
  rw [dct2_out]
  refine wpAny_bind (wpAny_standAt (wpAny_bind (wpAny_mono (turn n s hI) (fun r s₁ h₁ => ?_) fun _ _ h' => h')))
  cases r with
  | none => exact wpAny_pure h₁
  | some v =>
    refine wpAny_bind (wpAny_mono h₁ (fun _ s₁' h₁' => ?_) fun _ _ h' => h')
    refine wpAny_bind (wpAny_mono h₁' (fun _ s₂ h₂ => wpAny_bind (wpAny_mono h₂ (fun ok s₃ h₃ => ?_) fun _ _ h' => h')) fun _ _ h' => h')
    cases ok with
    | false => exact wpAny_pure ⟨rfl, h₃⟩
    | true =>
      refine wpAny_bind (wpAny_mono h₃ (fun x s₄ h₄ => ?_) fun _ _ h' => h')
      refine wpAny_bind (wpAny_standAt (wpAny_bind (wpAny_of_eq (hs x) (wpAny_bind (wpAny_holding (wpAny_mono h₄ (fun it1 s₅ h₅ => ?_) fun _ _ h' => h'))))))
      refine wpAny_bind (wpAny_runOwn ?_)
      rw [Around.mark_none]
      refine codeAny_mono h₅ fun r s' hr => ?_
      cases r with
      | ok f =>
        first
          | exact wpAny_pure ⟨rfl, hr⟩
          | exact wpAny_bind (wpAny_pure (wpAny_pure ⟨rfl, hr⟩))
      | error e => exact hr.elim
theorem dcl2_in (I : Nat → Shared → Prop)
    (turn : ∀ n s, I n s → wpAny (model prog w) A (pyNext it) (fun r s₁ => match r with
      | none => R (.ok .next) s₁
      | some v => wpAny (model prog w) A (letOwnedTupleGo t1 it v) (fun _ s₁' => wpAny (model prog w) A (assign t1 env v) (fun _ s₂ =>
          wpAny (model prog w) A (forIn ifs1 true fun c r => if r = true then do let ok ← isTrue c env (eval c env); pure (ForInStep.yield ok) else pure (ForInStep.yield r)) (fun ok s₃ =>
            if ok = true then wpAny (model prog w) A (eval kx env) (fun kv s₄ => wpAny (model prog w) A (eval vx env) (fun vv s₅ =>
              wpAny (model prog w) A (dictSet D kv vv) (fun _ s₆ => ∃ m, m < n ∧ I m s₆) (notedBy (model prog w) A env fun e s' => R (.error e) s') s₅) (notedBy (model prog w) A env fun e s' => R (.error e) s') s₄) (notedBy (model prog w) A env fun e s' => R (.error e) s') s₃
            else ∃ m, m < n ∧ I m s₃) (notedBy (model prog w) A env fun e s' => R (.error e) s') s₂) (notedBy (model prog w) A env fun e s' => R (.error e) s') s₁') (notedBy (model prog w) A env fun e s' => R (.error e) s') s₁) (notedBy (model prog w) A env fun e s' => R (.error e) s') s)
    (n : Nat) (h : I n s) :
    codeAny (model prog w) A (.compLoop (.DictComp kx vx [⟨t0, i0, ifs0, 0⟩, ⟨t1, i1, ifs1, 0⟩] scope pos) 1 it (.ref D) env) R s := by
  refine codeAny_loop rfl I (fun n s hI => ?_) n h
  show wpAny _ A ((compTurn (.DictComp kx vx [⟨t0, i0, ifs0, 0⟩, ⟨t1, i1, ifs1, 0⟩] scope pos) 1 it (.ref D) env).onRaise (fun x => do noteFrame x env; theTreesLotGoes x)) _ _ s
  refine wpAny_noted ?_
  rw [dct2_in]
  refine wpAny_bind (wpAny_standAt (wpAny_bind (wpAny_mono (turn n s hI) (fun r s₁ h₁ => ?_) fun _ _ h' => h')))
  cases r with
  | none => exact wpAny_pure h₁
  | some v =>
    refine wpAny_bind (wpAny_mono h₁ (fun _ s₁' h₁' => ?_) fun _ _ h' => h')
    refine wpAny_bind (wpAny_mono h₁' (fun _ s₂ h₂ => wpAny_bind (wpAny_mono h₂ (fun ok s₃ h₃ => ?_) fun _ _ h' => h')) fun _ _ h' => h')
    cases ok with
    | false => exact wpAny_pure ⟨rfl, h₃⟩
    | true =>
      exact wpAny_bind (wpAny_bind (wpAny_mono h₃ (fun kv s₄ h₄ => wpAny_bind (wpAny_holding (wpAny_mono h₄ (fun vv s₅ h₅ => wpAny_bind (wpAny_standAt (wpAny_holding (wpAny_mono h₅ (fun _ s₆ h₆ => wpAny_pure ⟨rfl, h₆⟩) fun _ _ h' => h')))) fun _ _ h' => h'))) fun _ _ h' => h'))
theorem dcs1_ok (h0 : codeAny (model prog w) A (.compLoop (.DictComp kx vx [⟨t0, i0, ifs0, 0⟩, ⟨t1, i1, ifs1, 0⟩] scope pos) 1 it (.ref D) env) R s)
    (h : wpAny (model prog w) A (pyIter it) (fun it' s' => codeAny (model prog w) A (.compLoop (.DictComp kx vx [⟨t0, i0, ifs0, 0⟩, ⟨t1, i1, ifs1, 0⟩] scope pos) 1 it' (.ref D) env) R s')
      (notedBy (model prog w) A env fun x s' => R (.error x) s') s) :
    codeAny (model prog w) A (.compStart (.DictComp kx vx [⟨t0, i0, ifs0, 0⟩, ⟨t1, i1, ifs1, 0⟩] scope pos) 1 it (.ref D) env) R s := by
  refine codeAny_of_tree ?_
  show wpAny _ _ ((compStart (.DictComp kx vx [⟨t0, i0, ifs0, 0⟩, ⟨t1, i1, ifs1, 0⟩] scope pos) 1 it (.ref D) env).onRaise (fun x => do noteFrame x env; standAt theWindowsPlace)) _ _ s
  refine wpAny_notedAt ?_
  unfold compStart
  show wpAny _ _ (ask >>= _) _ _ s
  refine wpAny_bind (wpAny_askSetting (wpAny_ite ?_))
  split
  · first
      | exact wpAny_bind (wpAny_pure (wpAny_pure (And.intro rfl h0)))
      | exact wpAny_pure (And.intro rfl h0)
  · first
      | exact wpAny_bind (wpAny_rule (wpAny_bind (wpAny_standAt (wpAny_bind (wpAny_mono h (fun it' s' h' => wpAny_pure (And.intro rfl h')) fun _ _ x => x)))))
      | (refine wpAny_bind (wpAny_rule ?_); show wpAny _ _ (standAt i1.pos >>= _) _ _ s; exact wpAny_bind (wpAny_standAt (wpAny_bind (wpAny_mono h (fun it' s' h' => wpAny_pure (And.intro rfl h')) fun _ _ x => x))))
end

section
variable {X : Cx}
def tDc2 (wi : TI) (g : TG) (tt : TT) (wi1 : TI) (g1 : TG) (tt1 : TT) (tk tv : TE) (vs vs1 : List Nat) : TE := fun σ H Q => wi σ H fun J H1 => ∀ D, H1 D = none → ∃ W : Nat → Nat → Hp → Prop, (∃ m, W 0 m (upd H1 D (.dK []))) ∧ ∀ i m H, W i m H →
  (J.stop i H ∧ Q (.ref D) H) ∨ (J.go i H ∧ ∃ Nx : Hp → Prop, (∀ H', Nx H' → ∃ m', m' < m ∧ W (i + 1) m' H') ∧ ∀ x H', J.yld i H x H' → g x (wipe σ vs) H' fun σ2 H2 => wipe σ2 vs = wipe σ vs ∧ tt σ2 H2 fun b H3 =>
    if b = true then wi1 σ2 H3 fun J1 H4 => ∃ W1 : Nat → Nat → Hp → Prop, (∃ m, W1 0 m H4) ∧ ∀ j k H, W1 j k H →
      (J1.stop j H ∧ Nx H) ∨ (J1.go j H ∧ ∃ Nx1 : Hp → Prop, (∀ H', Nx1 H' → ∃ k', k' < k ∧ W1 (j + 1) k' H') ∧ ∀ x H', J1.yld j H x H' → g1 x (wipe σ2 vs1) H' fun σ3 H5 => wipe σ3 vs1 = wipe σ2 vs1 ∧ tt1 σ3 H5 fun b H6 =>
        if b = true then tk σ3 H6 fun y H7 => tv σ3 H7 fun z H8 => ∃ kvs k, y = kV k ∧ H8 D = some (.dK kvs) ∧ kvs.length < sizeLine ∧ Nx1 (upd H8 D (.dK (putK kvs k z))) else Nx1 H6)
    else Nx H3)
theorem dc2_core {pins : List (Addr × Obj)} {s : Shared} {σ : L2.St} {H : Hp} {Q : VK} {kx vx tg iter tg1 iter1 : Expr} {ifs ifs1 : List Expr} {scope : Scope} {own : List (Str × Nat)} {vs1 : List Nat} {pos pos' : Pos} {wi wi1 : TI} {g g1 : TG} {tt tt1 : TT} {tk tv : TE} {use : Option (Value → Sem Unit)} {Qf : Value → Shared → Prop}
    (hc : X.calm = true) (hN : X.N.Nodup) (I : L2.Inv X pins σ H s) (hi : PI X tg iter wi) (ok : BlkOk X.N X.env.scope scope own) (hv : ∀ i ∈ vs1, i ∈ own.map (·.2))
    (hg : ∀ (s : Shared) (H : Hp) (C : Addr) (cl : List (Str × Addr)) (fp : List Addr), PG (X.blk s H scope (compEnvC scope cl C X.env) fp) tg g) (ht : ∀ (s : Shared) (H : Hp) (C : Addr) (cl : List (Str × Addr)) (fp : List Addr), PTs (X.blk s H scope (compEnvC scope cl C X.env) fp) ifs tt)
    (hk : ∀ (s : Shared) (H : Hp) (C : Addr) (cl : List (Str × Addr)) (fp : List Addr), PE (X.blk s H scope (compEnvC scope cl C X.env) fp) kx tk)
    (he : ∀ (s : Shared) (H : Hp) (C : Addr) (cl : List (Str × Addr)) (fp : List Addr), PE (X.blk s H scope (compEnvC scope cl C X.env) fp) vx tv) (hs : ∀ x, foldedSetIterable iter X.env x = pure x)
    (hi1 : ∀ (s : Shared) (H : Hp) (C : Addr) (cl : List (Str × Addr)) (fp : List Addr), PI (X.blk s H scope (compEnvC scope cl C X.env) fp) tg1 iter1 wi1)
    (hg1 : ∀ (s : Shared) (H : Hp) (C : Addr) (cl : List (Str × Addr)) (fp : List Addr), PG (X.blk s H scope (compEnvC scope cl C X.env) fp) tg1 g1)
    (ht1 : ∀ (s : Shared) (H : Hp) (C : Addr) (cl : List (Str × Addr)) (fp : List Addr), PTs (X.blk s H scope (compEnvC scope cl C X.env) fp) ifs1 tt1)
    (hs1 : ∀ env x, foldedSetIterable iter1 env x = pure x)
    (h : tDc2 wi g tt wi1 g1 tt1 tk tv (own.map (·.2)) vs1 σ H Q)
    (hRR : ∀ D C s' m H', L2.Inv X pins σ H' s' → Q (.ref D) H' → s'.heap.Ns C m → FpOk X pins H' C → compPost (model X.prog X.w) X.A X.xe use Qf (.ref D) C (.ok .next) s') :
    wpAny (model X.prog X.w) X.A (comprehension (.DictComp kx vx [⟨tg, iter, ifs, 0⟩, ⟨tg1, iter1, ifs1, 0⟩] scope pos) scope X.env pos' (newDict) false (eval iter X.env) use) Qf X.xe s := by
  have hfree : ∀ y ∈ scope.names, y.2 = .free → ∃ c, X.env.cells.lookup y.1 = some c := fun y hy e => by
    rcases ok.free y hy e with k | k
    · exact I.ok.has _ (.inl k)
    · exact I.ok.has _ (.inr k)
  refine wpAny_comprehension_free (use := use) rfl hs (closure_ok hfree) ok.kind (fun y hy e => by rw [ok.uniq y hy, e])
    (thn (hi.run pins s σ H _ I h) fun xv s1 hx => thn hx fun itv s2 h2 => ?_)
  obtain ⟨it, fp, tn, J, H2, e, I2, T, st2, f2, q⟩ := h2
  subst e
  refine wpAny_newObj_type (newEnv_comp ?_) 
  generalize hD : s2.heap.objs.size = D
  have hDn : H2 D = none := I2.hok.fresh (Nat.le_of_eq hD)
  obtain ⟨W, ⟨m0, w0⟩, turn⟩ := q D hDn
  -- the new list
  generalize hs3 : ({ s2 with heap := s2.heap.push { cls := .type "dict", data := .dict #[] } } : Shared) = s3
  have I3 : L2.Inv X pins σ (upd H2 D (.dK [])) s3 := by
    rw [← hs3]
    refine I2.laid (t' := s2.toks) (fun b o e => Heap.get?_push_of_some _ e) (Nat.le_of_eq hD) ?_
    rw [← hD]
    exact dk_empty s2.heap I2.big
  have h3 : s3.heap = s2.heap.push { cls := .type "dict", data := .dict #[] } := by rw [← hs3]
  have sz : ∀ b ∈ fp, b < s2.heap.objs.size := fun b hb => by
    obtain ⟨o, e, _⟩ := T.obj _ _ st2 b hb
    exact Heap.lt_size e
  have f3 : ∀ b ∈ fp, FpOk X pins (upd H2 D (.dK [])) b ∧ b < s3.heap.objs.size := fun b hb => by
    have hlt := sz b hb
    refine ⟨⟨?_, (f2 b hb).2⟩, by rw [h3, Heap.size_push]; exact Nat.lt_succ_of_lt hlt⟩
    rw [upd_ne (by rw [← hD]; exact Nat.ne_of_lt hlt)]
    exact (f2 b hb).1
  have st3 : tn 0 s3.heap := T.keep _ _ _ st2 fun b _ o e => by rw [h3]; exact Heap.get?_push_of_some _ e
  have I4 := block_start I3 ok hN f3
  have pg := hg s3 (upd H2 D (.dK [])) s3.heap.objs.size (cellsFrom (s3.heap.objs.size + 1) scope.names (cloFrom X.env.cells scope.names [])) fp
  have pt := ht s3 (upd H2 D (.dK [])) s3.heap.objs.size (cellsFrom (s3.heap.objs.size + 1) scope.names (cloFrom X.env.cells scope.names [])) fp
  have pk := hk s3 (upd H2 D (.dK [])) s3.heap.objs.size (cellsFrom (s3.heap.objs.size + 1) scope.names (cloFrom X.env.cells scope.names [])) fp
  have pe := he s3 (upd H2 D (.dK [])) s3.heap.objs.size (cellsFrom (s3.heap.objs.size + 1) scope.names (cloFrom X.env.cells scope.names [])) fp
  have pi1 := hi1 s3 (upd H2 D (.dK [])) s3.heap.objs.size (cellsFrom (s3.heap.objs.size + 1) scope.names (cloFrom X.env.cells scope.names [])) fp
  have pg1 := hg1 s3 (upd H2 D (.dK [])) s3.heap.objs.size (cellsFrom (s3.heap.objs.size + 1) scope.names (cloFrom X.env.cells scope.names [])) fp
  have pt1 := ht1 s3 (upd H2 D (.dK [])) s3.heap.objs.size (cellsFrom (s3.heap.objs.size + 1) scope.names (cloFrom X.env.cells scope.names [])) fp
  show codeAny _ _ (.compStart (.DictComp kx vx [⟨tg, iter, ifs, 0⟩, ⟨tg1, iter1, ifs1, 0⟩] scope pos) 0 (.ref it) (.ref D) (compEnvC scope (cellsFrom (s3.heap.objs.size + 1) scope.names (cloFrom X.env.cells scope.names [])) s3.heap.objs.size X.env)) (compPost (model X.prog X.w) X.A X.xe use Qf (.ref D) s3.heap.objs.size) { s3 with heap := pushCells (s3.heap.push { cls := .type "dict", data := .dict #[] }) scope.names }
  have nfp : ∀ b ∈ fp, (upd H2 D (.dK [])) b = none := fun b hb => (f3 b hb).1.1
  generalize hce : compEnvC scope (cellsFrom (s3.heap.objs.size + 1) scope.names (cloFrom X.env.cells scope.names [])) s3.heap.objs.size X.env = ce at I4 pg pt pk pe pi1 pg1 pt1 ⊢
  have cL : ce.locals = s3.heap.objs.size := by subst hce; rfl
  generalize hH3 : upd H2 D (.dK []) = H3 at I3 I4 pg pt pk pe pi1 pg1 pt1 w0 nfp f3
  generalize hs4 : ({ s3 with heap := pushCells (s3.heap.push { cls := .type "dict", data := .dict #[] }) scope.names } : Shared) = s4 at I4 ⊢
  have st4 : tn 0 s4.heap := T.keep _ _ _ st3 fun b _ o e => by rw [← hs4]; exact pushCells_keeps _ _ _ _ (Heap.get?_push_of_some _ e)
  have stat : ∀ {σ' : L2.St} {H' : Hp} {s' : Shared}, L2.Inv (X.blk s3 H3 scope ce fp) [] σ' H' s' → (∀ b ∈ fp, H' b = none) → ∀ b ∈ fp, FpOk (X.blk s3 H3 scope ce fp) [] H' b := fun {σ' H' s'} I' hn b hb =>
    ⟨hn b hb, (I'.ok.exf b hb).1, I'.ok.exfs b hb, .inl hb, fun x c e => (I'.ok.exf b hb).2 x c e, fun p hp => absurd (show p ∈ ([] : List (Addr × Obj)) ++ [] from hp) (by simp)⟩
  have loop : codeAny (model X.prog X.w) X.A (.compLoop (.DictComp kx vx [⟨tg, iter, ifs, 0⟩, ⟨tg1, iter1, ifs1, 0⟩] scope pos) 0 (.ref it) (.ref D) ce) (compPost (model X.prog X.w) X.A X.xe use Qf (.ref D) s3.heap.objs.size) s4 := by
    refine dcl2_out (hs1 ce) (fun n s' => ∃ i H', L2.Inv (X.blk s3 H3 scope ce fp) [] (wipe σ (own.map (·.2))) H' s' ∧ tn i s'.heap ∧ (∀ b ∈ fp, H' b = none) ∧ W i n H') ?_ m0 ⟨0, H3, I4, st4, nfp, w0⟩
    rintro n s5 ⟨i, H5, I5, st5, n5, w5⟩
    rcases turn i n H5 w5 with ⟨stop, qq⟩ | ⟨go, Nx, hNx, step⟩
    · have td := T.done (X.blk s3 H3 scope ce fp) rfl rfl rfl hc i [] s5 _ H5 (fun _ _ => False) I5 (stat I5 n5) st5 stop
      refine thnF td fun r s6 ⟨hr, I6⟩ => ?_
      subst hr
      -- back in the def's context
      have I7 : L2.Inv X pins σ H5 s6 := I3.call' (ch := fp) I6.os I6.base I6.hok I6.bare fun b hb => ⟨(f3 b hb).1.2.2.2.1, (f3 b hb).1.2.1, (f3 b hb).1.2.2.2.2.1, (f3 b hb).1.2.2.2.2.2⟩
      have nC : H5 s3.heap.objs.size = none := by
        have z : H5 ce.locals = none := I6.free
        rw [cL] at z
        exact z
      obtain ⟨m, hn, _⟩ := I6.loc
      have hn : s6.heap.Ns ce.locals m := hn
      rw [cL] at hn
      exact hRR D s3.heap.objs.size s6 m H5 I7 qq hn (I3.fpOk (Nat.le_refl _) nC)
    · have ti := T.item (X.blk s3 H3 scope ce fp) rfl rfl rfl hc i [] s5 _ H5 (fun _ _ => False) I5 (stat I5 n5) st5 go
      refine thnF ti fun r s6 ⟨u, hr, h6⟩ => ?_
      subst hr
      refine thnF h6 fun _ s7 ⟨x, H7, I7, r7, y7, st7, n7⟩ => ?_
      have I7' := I7.pinned (stat I7 n7) (T.obj _ _ st7)
      refine thnF (pg.run _ s7 _ H7 x u _ I7' r7 (step x H7 y7)) fun _ s8 ⟨σ8, H8, I8, hw8, q8⟩ => ?_
      refine thnF (pt.run _ s8 σ8 H8 _ I8 q8) fun b s9 ⟨H9, I9, q9⟩ => ?_
      -- the turn's end, from any slots that know what the block knew at its start
      have fin : ∀ {σ9 : L2.St} {s' : Shared} {H' : Hp}, L2.Inv (X.blk s3 H3 scope ce fp) ([] ++ pinsAt fp s7.heap) σ9 H' s' → (wipe σ (own.map (·.2))).length = σ9.length → (∀ (j : Nat) v, (wipe σ (own.map (·.2)))[j]? = some (some v) → σ9[j]? = some (some v)) → Nx H' →
          ∃ m, m < n ∧ ∃ i H', L2.Inv (X.blk s3 H3 scope ce fp) [] (wipe σ (own.map (·.2))) H' s' ∧ tn i s'.heap ∧ (∀ b ∈ fp, H' b = none) ∧ W i m H' := fun {σ9 s' H'} I' hl hk nx => by
        obtain ⟨m', hm, w'⟩ := hNx H' nx
        have pin' : ∀ b ∈ fp, ∀ o, s7.heap.get? b = some o → s'.heap.get? b = some o ∧ H' b = none := fun b hb o e =>
          let z := I'.pin (b, o) (List.mem_append_right _ (List.mem_append_right _ (mem_pinsAt hb e)))
          ⟨z.1, z.2.1⟩
        refine ⟨m', hm, i + 1, H', (I'.unpinned (pins := [])).weak hl hk, T.keep _ _ _ st7 fun b hb o e => (pin' b hb o e).1, fun b hb => ?_, w'⟩
        obtain ⟨o, e, _⟩ := T.obj _ _ st7 b hb
        exact (pin' b hb o e).2
      have hl8 : (wipe σ (own.map (·.2))).length = σ8.length := by rw [← hw8, wipe_length]
      have hk8 : ∀ (j : Nat) v, (wipe σ (own.map (·.2)))[j]? = some (some v) → σ8[j]? = some (some v) := fun j v e => by
        rw [← hw8] at e
        exact (wipe_some e).1
      have hk9 : ∀ (j : Nat) v, (wipe σ (own.map (·.2)))[j]? = some (some v) → (wipe σ8 vs1)[j]? = some (some v) := fun j v e => by
        rw [← hw8] at e
        obtain ⟨e1, e2⟩ := wipe_some e
        rw [wipe_out fun z => e2 (hv j z)]
        exact e1
      cases b with
      | false =>
        simp only [Bool.false_eq_true, if_false] at q9 ⊢
        exact fin I9 hl8 hk8 q9
      | true =>
        simp only [if_true] at q9 ⊢
        refine thnF (pi1.run _ s9 σ8 H9 _ I9 q9) fun xv s10 hx => thnF hx fun itv s11 h11 => ?_
        obtain ⟨it1, fp1, tn1, J1, H11, e1, I11, T1, st11, f11, W1, ⟨m1, w1⟩, turn1⟩ := h11
        subst e1
        -- the inner loop
        have stat1 : ∀ {H' : Hp}, (∀ b ∈ fp1, H' b = none) → ∀ b ∈ fp1, FpOk (X.blk s3 H3 scope ce fp) ([] ++ pinsAt fp s7.heap) H' b := fun hn b hb => ⟨hn b hb, (f11 b hb).2⟩
        have loop1 : codeAny (model X.prog X.w) X.A (.compLoop (.DictComp kx vx [⟨tg, iter, ifs, 0⟩, ⟨tg1, iter1, ifs1, 0⟩] scope pos) 1 (.ref it1) (.ref D) ce)
            (fun r s' => match r with
              | .ok _ => ∃ m, m < n ∧ ∃ i H', L2.Inv (X.blk s3 H3 scope ce fp) [] (wipe σ (own.map (·.2))) H' s' ∧ tn i s'.heap ∧ (∀ b ∈ fp, H' b = none) ∧ W i m H'
              | .error _ => False) s11 := by
          refine dcl2_in (fun k s' => ∃ j H', L2.Inv (X.blk s3 H3 scope ce fp) ([] ++ pinsAt fp s7.heap) (wipe σ8 vs1) H' s' ∧ tn1 j s'.heap ∧ (∀ b ∈ fp1, H' b = none) ∧ W1 j k H') ?_ m1 ⟨0, H11, I11.weak (wipe_length _ _) (fun j v e => (wipe_some e).1), st11, fun b hb => (f11 b hb).1, w1⟩
          rintro k s12 ⟨j, H12, I12, st12, n12, w12⟩
          rcases turn1 j k H12 w12 with ⟨stop1, nx1⟩ | ⟨go1, Nx1, hNx1, step1⟩
          · refine thnF (T1.done (X.blk s3 H3 scope ce fp) rfl rfl rfl hc j _ s12 (wipe σ8 vs1) H12 (fun _ _ => False) I12 (stat1 n12) st12 stop1) fun r s13 ⟨hr, I13⟩ => ?_
            subst hr
            exact fin I13 (hl8.trans (wipe_length σ8 vs1).symm) hk9 nx1
          · refine thnF (T1.item (X.blk s3 H3 scope ce fp) rfl rfl rfl hc j _ s12 (wipe σ8 vs1) H12 (fun _ _ => False) I12 (stat1 n12) st12 go1) fun r s13 ⟨u1, hr, h13⟩ => ?_
            subst hr
            refine thnF h13 fun _ s14 ⟨x1, H14, I14, r14, y14, st14, n14⟩ => ?_
            have I14' := I14.pinned (stat1 n14) (T1.obj _ _ st14)
            refine thnF (pg1.run _ s14 (wipe σ8 vs1) H14 x1 u1 _ I14' r14 (step1 x1 H14 y14)) fun _ s15 ⟨σ15, H15, I15, hw15, q15⟩ => ?_
            refine thnF (pt1.run _ s15 σ15 H15 _ I15 q15) fun b1 s16 ⟨H16, I16, q16⟩ => ?_
            have fin1 : ∀ {s' : Shared} {H' : Hp}, L2.Inv (X.blk s3 H3 scope ce fp) (([] ++ pinsAt fp s7.heap) ++ pinsAt fp1 s14.heap) σ15 H' s' → Nx1 H' → ∃ m, m < k ∧ ∃ j H', L2.Inv (X.blk s3 H3 scope ce fp) ([] ++ pinsAt fp s7.heap) (wipe σ8 vs1) H' s' ∧ tn1 j s'.heap ∧ (∀ b ∈ fp1, H' b = none) ∧ W1 j m H' := fun {s' H'} I' nx => by
              obtain ⟨m', hm, w'⟩ := hNx1 H' nx
              have pin' : ∀ b ∈ fp1, ∀ o, s14.heap.get? b = some o → s'.heap.get? b = some o ∧ H' b = none := fun b hb o e =>
                let z := I'.pin (b, o) (List.mem_append_right _ (List.mem_append_right _ (mem_pinsAt hb e)))
                ⟨z.1, z.2.1⟩
              refine ⟨m', hm, j + 1, H', I'.unpinned.weak (by rw [← hw15, wipe_length]) (fun j v e => by rw [← hw15] at e; exact (wipe_some e).1), T1.keep _ _ _ st14 fun b hb o e => (pin' b hb o e).1, fun b hb => ?_, w'⟩
              obtain ⟨o, e, _⟩ := T1.obj _ _ st14 b hb
              exact (pin' b hb o e).2
            cases b1 with
            | false =>
              simp only [Bool.false_eq_true, if_false] at q16 ⊢
              exact fin1 I16 q16
            | true =>
              simp only [if_true] at q16 ⊢
              refine thnF (pk.run _ s16 σ15 H16 _ I16 q16) fun z s17 ⟨yk, H17, I17, r17, q17⟩ => ?_
              refine thnF (pe.run _ s17 σ15 H17 _ I17 q17) fun z2 s18 ⟨yv, H18, I18, r18, kvs, k, ek, hD18, hz18, nx⟩ => ?_
              subst ek
              exact d_dictSet (X := X.blk s3 H3 scope ce fp) I18 hD18 hz18 r17 r18 fun s19 I19 => fin1 I19 nx
        exact dcs1_ok loop1 (T1.self X.A 0 _ _ _ st11 loop1)
  exact codeAny_compStart_dict loop (T.self X.A 0 _ _ _ st4 loop)
theorem pe_dc2 {kx vx tg iter tg1 iter1 : Expr} {ifs ifs1 : List Expr} {scope : Scope} {own : List (Str × Nat)} {vs1 : List Nat} {pos : Pos} {wi wi1 : TI} {g g1 : TG} {tt tt1 : TT} {tk tv : TE} (hc : X.calm = true) (hN : X.N.Nodup) (hi : PI X tg iter wi) (ok : BlkOk X.N X.env.scope scope own) (hv : ∀ i ∈ vs1, i ∈ own.map (·.2))
    (hg : ∀ (s : Shared) (H : Hp) (C : Addr) (cl : List (Str × Addr)) (fp : List Addr), PG (X.blk s H scope (compEnvC scope cl C X.env) fp) tg g) (ht : ∀ (s : Shared) (H : Hp) (C : Addr) (cl : List (Str × Addr)) (fp : List Addr), PTs (X.blk s H scope (compEnvC scope cl C X.env) fp) ifs tt)
    (hi1 : ∀ (s : Shared) (H : Hp) (C : Addr) (cl : List (Str × Addr)) (fp : List Addr), PI (X.blk s H scope (compEnvC scope cl C X.env) fp) tg1 iter1 wi1)
    (hg1 : ∀ (s : Shared) (H : Hp) (C : Addr) (cl : List (Str × Addr)) (fp : List Addr), PG (X.blk s H scope (compEnvC scope cl C X.env) fp) tg1 g1) (ht1 : ∀ (s : Shared) (H : Hp) (C : Addr) (cl : List (Str × Addr)) (fp : List Addr), PTs (X.blk s H scope (compEnvC scope cl C X.env) fp) ifs1 tt1)
    (hk : ∀ (s : Shared) (H : Hp) (C : Addr) (cl : List (Str × Addr)) (fp : List Addr), PE (X.blk s H scope (compEnvC scope cl C X.env) fp) kx tk)
    (he : ∀ (s : Shared) (H : Hp) (C : Addr) (cl : List (Str × Addr)) (fp : List Addr), PE (X.blk s H scope (compEnvC scope cl C X.env) fp) vx tv) (hs : ∀ x, foldedSetIterable iter X.env x = pure x := by intro _; rfl) (hs1 : ∀ env x, foldedSetIterable iter1 env x = pure x := by intro _ _; rfl) :
    PE X (.DictComp kx vx [⟨tg, iter, ifs, 0⟩, ⟨tg1, iter1, ifs1, 0⟩] scope pos) (tDc2 wi g tt wi1 g1 tt1 tk tv (own.map (·.2)) vs1) := by
  refine ⟨fun pins s σ H Q I h => ?_⟩
  rw [arm_eval_DictComp]
  refine dc2_core hc hN I hi ok hv hg ht hk he hs hi1 hg1 ht1 hs1 h fun D C s' m H' I' q hn f => ⟨m, hn, fun h'' sb => ?_⟩
  obtain ⟨f0, f1, f2, f3, f4, f5⟩ := f
  exact ⟨.ref D, H', I'.turned (t' := s'.toks) (fun b o hb e => (sb.2 b hb).trans e) f0 f1 f3 f4 f5, rfl, q⟩
theorem ps_setDc2 {i : Nat} {y : Str} {py : Pos} {kx vx tg iter tg1 iter1 : Expr} {ifs ifs1 : List Expr} {scope : Scope} {own : List (Str × Nat)} {vs1 : List Nat} {pos spos : Pos} {wi wi1 : TI} {g g1 : TG} {tt tt1 : TT} {tk tv : TE} (hc : X.calm = true) (hN : X.N.Nodup) (hy : X.N[i]? = some y) (hyl : X.env.scope.names.lookup y = some .local)
    (hsw : swapsWith (.DictComp kx vx [⟨tg, iter, ifs, 0⟩, ⟨tg1, iter1, ifs1, 0⟩] scope pos) (some (.Name y py)) spos.line X.env = pure true) (hi : PI X tg iter wi) (ok : BlkOk X.N X.env.scope scope own) (hv : ∀ i ∈ vs1, i ∈ own.map (·.2))
    (hg : ∀ (s : Shared) (H : Hp) (C : Addr) (cl : List (Str × Addr)) (fp : List Addr), PG (X.blk s H scope (compEnvC scope cl C X.env) fp) tg g) (ht : ∀ (s : Shared) (H : Hp) (C : Addr) (cl : List (Str × Addr)) (fp : List Addr), PTs (X.blk s H scope (compEnvC scope cl C X.env) fp) ifs tt)
    (hi1 : ∀ (s : Shared) (H : Hp) (C : Addr) (cl : List (Str × Addr)) (fp : List Addr), PI (X.blk s H scope (compEnvC scope cl C X.env) fp) tg1 iter1 wi1)
    (hg1 : ∀ (s : Shared) (H : Hp) (C : Addr) (cl : List (Str × Addr)) (fp : List Addr), PG (X.blk s H scope (compEnvC scope cl C X.env) fp) tg1 g1) (ht1 : ∀ (s : Shared) (H : Hp) (C : Addr) (cl : List (Str × Addr)) (fp : List Addr), PTs (X.blk s H scope (compEnvC scope cl C X.env) fp) ifs1 tt1)
    (hk : ∀ (s : Shared) (H : Hp) (C : Addr) (cl : List (Str × Addr)) (fp : List Addr), PE (X.blk s H scope (compEnvC scope cl C X.env) fp) kx tk)
    (he : ∀ (s : Shared) (H : Hp) (C : Addr) (cl : List (Str × Addr)) (fp : List Addr), PE (X.blk s H scope (compEnvC scope cl C X.env) fp) vx tv) (hs : ∀ x, foldedSetIterable iter X.env x = pure x := by intro _; rfl) (hs1 : ∀ env x, foldedSetIterable iter1 env x = pure x := by intro _ _; rfl) :
    PS X (.Assign [.Name y py] (.DictComp kx vx [⟨tg, iter, ifs, 0⟩, ⟨tg1, iter1, ifs1, 0⟩] scope pos) spos) (tAsg (tDc2 wi g tt wi1 g1 tt1 tk tv (own.map (·.2)) vs1) (gName i)) := by
  refine ⟨fun pins s σ H D I h => ?_⟩
  rw [exec_Assign_Name_used _ _ _ _ hsw]
  refine wpAny_bind (wpAny_standAt (wpAny_bind ?_))
  show wpAny _ X.A (do let _ ← comprehension (.DictComp kx vx [⟨tg, iter, ifs, 0⟩, ⟨tg1, iter1, ifs1, 0⟩] scope pos) scope X.env (firstIterPos [⟨tg, iter, ifs, 0⟩, ⟨tg1, iter1, ifs1, 0⟩] pos) newDict false (eval iter X.env) (some (assign (.Name y py) X.env))) _ _ s
  have h : tDc2 wi g tt wi1 g1 tt1 tk tv (own.map (·.2)) vs1 σ H (fun x H1 => gName i x σ H1 D.nx) := h
  refine wpAny_bind (thn (dc2_core (Qf := fun _ s' => SP X pins D .next s') hc hN I hi ok hv hg ht hk he hs hi1 hg1 ht1 hs1 h fun L C s' m H' I' q hn f => ?_) fun _ s' hq => wpAny_pure (wpAny_pure hq))
  show wpAny _ _ (assign (.Name y py) X.env (.ref L)) _ _ _
  refine wpAny_assign_Name (store_ok2 (v := V.ref L) I' hN hy (.inl hyl) rfl (fun s2 I2 ⟨a, sb, ha⟩ => ?_) (.inr hyl))
  obtain ⟨f0, f1, f2, f3, f4, f5⟩ := f
  have haC : C ≠ a := by
    rcases ha with z | z
    · rw [z]; exact f1
    · exact fun e => f4 y a z e.symm
  refine ⟨m, hn.sameBut sb haC, fun h3 sb3 => ?_⟩
  exact ⟨_, H', I2.turned (t' := s2.toks) (fun b o hb e => (sb3.2 b hb).trans e) f0 f1 f3 f4 f5, q⟩
theorem ps_setDc {i : Nat} {y : Str} {py : Pos} {kx vx tg iter : Expr} {ifs : List Expr} {scope : Scope} {own : List (Str × Nat)} {pos spos : Pos} {wi : TI} {g : TG} {tt : TT} {tk tv : TE} (hc : X.calm = true) (hN : X.N.Nodup) (hy : X.N[i]? = some y) (hyl : X.env.scope.names.lookup y = some .local)
    (hsw : swapsWith (.DictComp kx vx [⟨tg, iter, ifs, 0⟩] scope pos) (some (.Name y py)) spos.line X.env = pure true) (hi : PI X tg iter wi) (ok : BlkOk X.N X.env.scope scope own)
    (hg : ∀ (s : Shared) (H : Hp) (C : Addr) (cl : List (Str × Addr)) (fp : List Addr), PG (X.blk s H scope (compEnvC scope cl C X.env) fp) tg g) (ht : ∀ (s : Shared) (H : Hp) (C : Addr) (cl : List (Str × Addr)) (fp : List Addr), PTs (X.blk s H scope (compEnvC scope cl C X.env) fp) ifs tt)
    (hk : ∀ (s : Shared) (H : Hp) (C : Addr) (cl : List (Str × Addr)) (fp : List Addr), PE (X.blk s H scope (compEnvC scope cl C X.env) fp) kx tk)
    (he : ∀ (s : Shared) (H : Hp) (C : Addr) (cl : List (Str × Addr)) (fp : List Addr), PE (X.blk s H scope (compEnvC scope cl C X.env) fp) vx tv) (hs : ∀ x, foldedSetIterable iter X.env x = pure x := by intro _; rfl) :
    PS X (.Assign [.Name y py] (.DictComp kx vx [⟨tg, iter, ifs, 0⟩] scope pos) spos) (tAsg (tDc wi g tt tk tv (own.map (·.2))) (gName i)) := by
  refine ⟨fun pins s σ H D I h => ?_⟩
  rw [exec_Assign_Name_used _ _ _ _ hsw]
  refine wpAny_bind (wpAny_standAt (wpAny_bind ?_))
  show wpAny _ X.A (do let _ ← comprehension (.DictComp kx vx [⟨tg, iter, ifs, 0⟩] scope pos) scope X.env (firstIterPos [⟨tg, iter, ifs, 0⟩] pos) newDict false (eval iter X.env) (some (assign (.Name y py) X.env))) _ _ s
  have h : tDc wi g tt tk tv (own.map (·.2)) σ H (fun x H1 => gName i x σ H1 D.nx) := h
  refine wpAny_bind (thn (dc_core (Qf := fun _ s' => SP X pins D .next s') hc hN I hi ok hg ht hk he hs h fun L C s' m H' I' q hn f => ?_) fun _ s' hq => wpAny_pure (wpAny_pure hq))
  show wpAny _ _ (assign (.Name y py) X.env (.ref L)) _ _ _
  refine wpAny_assign_Name (store_ok2 (v := V.ref L) I' hN hy (.inl hyl) rfl (fun s2 I2 ⟨a, sb, ha⟩ => ?_) (.inr hyl))
  obtain ⟨f0, f1, f2, f3, f4, f5⟩ := f
  have haC : C ≠ a := by
    rcases ha with z | z
    · rw [z]; exact f1
    · exact fun e => f4 y a z e.symm
  refine ⟨m, hn.sameBut sb haC, fun h3 sb3 => ?_⟩
  exact ⟨_, H', I2.turned (t' := s2.toks) (fun b o hb e => (sb3.2 b hb).trans e) f0 f1 f3 f4 f5, q⟩
theorem sw_trueD {kx vx : Expr} {gs : List Comprehension} {scope : Scope} {pos py : Pos} {y : Str} {l : Nat} {env : Env} (hk : env.scope.kind = .function) (hy : env.scope.names.lookup y = some .local) (hl : (py.line == pos.line) = true)
    (ha : (scope.names.any fun (n, k) => n == y && (k == .local || k == .cell)) = false) : swapsWith (.DictComp kx vx gs scope pos) (some (.Name y py)) l env = pure true := by
  have ky : env.kindOf y = some .local := hy
  have hb : env.blockKind = .function := by unfold Env.blockKind; rw [hk]; rfl
  unfold swapsWith
  simp only [hb, ky, ha, Expr.pos, hl]
  rfl
end
end Sq
set_option Elab.async false
set_option linter.all false
set_option maxRecDepth 100000
set_option maxHeartbeats 2000000
namespace Sq
open PySem PySem.Spec PyProof.Rows L2 RZ
/-! ### list(zip(t, u)) of tuples -/
section
variable {prog : Program} {w : World} {A : Around} {E : Value → Shared → Prop} {s : Shared}
theorem zipT_held_item {z TI TO T i1 i2 l1 l2 : Addr} {f : Bool} {oT : Obj} {k1 k2 : Nat} {xs ys : Array Value} {x y : Value} {Q : Value → Shared → Prop} (D : ZipApart z TI TO i1 i2 l1 l2)
    (hz : IsZipHeld s.heap z TI TO T f) (hT : s.heap.get? T = some oT) (hTI : IsPair s.heap TI (.ref i1) (.ref i2))
    (h1 : s.heap.IsTupleIter i1 l1 k1) (h2 : s.heap.IsTupleIter i2 l2 k2) (hl1 : s.heap.IsTuple l1 xs) (hl2 : s.heap.IsTuple l2 ys) (hx : xs[k1]? = some x) (hy : ys[k2]? = some y)
    (hQ : ∀ h', IsZipHeld h' z TI TO T true → h'.IsTupleIter i1 l1 (k1 + 1) → h'.IsTupleIter i2 l2 (k2 + 1) → IsPair h' s.heap.objs.size x y → h'.objs.size = s.heap.objs.size + 1 →
      (∀ c o, c ≠ z → c ≠ i1 → c ≠ i2 → s.heap.get? c = some o → h'.get? c = some o) → Q (.ref s.heap.objs.size) { s with heap := h' }) :
    wpAny (model prog w) A (Builtin.«zip.__next__» ⟨[.ref z], []⟩) (fun fin s' => ∃ v, fin = .done (.ret v) ∧ Q v s') E s := by
  show wpAny _ _ (field (.ref z) 2 >>= _) _ _ _
  refine wpAny_bind (wpAny_field hz rfl (x := .bool false) rfl ?_)
  show wpAny _ _ (field (.ref z) 3 >>= _) _ _ _
  refine wpAny_bind (wpAny_field hz rfl (x := .ref TI) rfl ?_)
  refine wpAny_bind (wpAny_seqItems hTI rfl ?_)
  show wpAny _ _ (Builtin.SmallTypes.ownedTupleIsFree (.ref z) >>= _) _ _ _
  refine wpAny_bind (wpAny_tupleHeld_zip hz hT fun h₁ hz₁ hs₁ => ?_)
  simp only [Bool.false_eq_true, if_false]
  refine wpAny_bind ?_
  rw [← Array.forIn_toList]
  simp only [List.forIn_cons, List.forIn_nil]
  refine wpAny_bind (wpAny_bind (wpAny_holding ?_))
  show wpAny _ _ (Builtin.SmallTypes.nextOf (.ref i1) >>= _) _ _ _
  refine wpAny_bind (nextOf_tuple_item (s := { s with heap := h₁ }) (h1.extBut hs₁.extBut D.i1z) (hl1.extBut hs₁.extBut D.l1z) hx fun h₂ h1₂ hs₂ => wpAny_pure ?_)
  refine wpAny_pure ?_
  refine wpAny_bind (wpAny_bind (wpAny_holding ?_))
  show wpAny _ _ (Builtin.SmallTypes.nextOf (.ref i2) >>= _) _ _ _
  refine wpAny_bind (nextOf_tuple_item (s := { s with heap := h₂ }) ((h2.extBut hs₁.extBut D.i2z).extBut hs₂.extBut D.i12.symm) ((hl2.extBut hs₁.extBut D.l2z).extBut hs₂.extBut D.l2i1) hy fun h₃ h2₃ hs₃ => wpAny_pure ?_)
  refine wpAny_pure (wpAny_pure ?_)
  show wpAny _ _ (newTuple [x, y] >>= _) _ _ _
  refine wpAny_bind (wpAny_newTuple ?_)
  have hsz : h₃.objs.size = s.heap.objs.size := by rw [hs₃.1, hs₂.1, hs₁.1]
  have hz₃ : IsZipHeld h₃ z TI TO T true := hs₃.extBut _ _ D.i2z.symm (hs₂.extBut _ _ D.i1z.symm hz₁)
  have hk : ∀ c o, c ≠ z → c ≠ i1 → c ≠ i2 → s.heap.get? c = some o → h₃.get? c = some o := fun c o c1 c2 c3 e => hs₃.extBut _ _ c3 (hs₂.extBut _ _ c2 (hs₁.extBut _ _ c1 e))
  have h1₃ : h₃.IsTupleIter i1 l1 (k1 + 1) := h1₂.extBut hs₃.extBut D.i12
  refine wpAny_pure ⟨_, rfl, ?_⟩
  show Q (.ref h₃.objs.size) _
  have hp : IsPair (h₃.push { cls := .type "tuple", data := .seq #[x, y] }) h₃.objs.size x y := Heap.get?_push_size _ rfl
  have hz4 : (h₃.push { cls := .type "tuple", data := .seq #[x, y] }).objs.size = h₃.objs.size + 1 := Heap.size_push ..
  rw [hsz] at hp hz4 ⊢
  exact hQ _ (Heap.get?_push_of_some _ hz₃) (h1₃.at fun o e => Heap.get?_push_of_some _ e) (h2₃.at fun o e => Heap.get?_push_of_some _ e) hp hz4 fun c o c1 c2 c3 e => Heap.get?_push_of_some _ (hk c o c1 c2 c3 e)

theorem zipT_held_end {z TI TO T i1 i2 l1 l2 : Addr} {f : Bool} {oT : Obj} {k1 k2 : Nat} {xs ys : Array Value} {Q : Fin → Shared → Prop} (hh : A.handled = none) (D : ZipApart z TI TO i1 i2 l1 l2)
    (hz : IsZipHeld s.heap z TI TO T f) (hT : s.heap.get? T = some oT) (hTI : IsPair s.heap TI (.ref i1) (.ref i2))
    (h1 : s.heap.IsTupleIter i1 l1 k1) (h2 : s.heap.IsTupleIter i2 l2 k2) (hl1 : s.heap.IsTuple l1 xs) (hl2 : s.heap.IsTuple l2 ys) (hend : xs[k1]? = none ∨ ys[k2]? = none)
    (hE : ∀ h' e, (∀ c o, c ≠ z → c ≠ i1 → c ≠ i2 → s.heap.get? c = some o → h'.get? c = some o) → (∃ o, h'.get? e = some o ∧ o.cls = .type "StopIteration") → E (.ref e) { s with heap := h' }) :
    wpAny (model prog w) A (Builtin.«zip.__next__» ⟨[.ref z], []⟩) Q E s := by
  show wpAny _ _ (field (.ref z) 2 >>= _) _ _ _
  refine wpAny_bind (wpAny_field hz rfl (x := .bool false) rfl ?_)
  show wpAny _ _ (field (.ref z) 3 >>= _) _ _ _
  refine wpAny_bind (wpAny_field hz rfl (x := .ref TI) rfl ?_)
  refine wpAny_bind (wpAny_seqItems hTI rfl ?_)
  show wpAny _ _ (Builtin.SmallTypes.ownedTupleIsFree (.ref z) >>= _) _ _ _
  refine wpAny_bind (wpAny_tupleHeld_zip hz hT fun h₁ hz₁ hs₁ => ?_)
  simp only [Bool.false_eq_true, if_false]
  refine wpAny_bind ?_
  rw [← Array.forIn_toList]
  simp only [List.forIn_cons, List.forIn_nil]
  refine wpAny_bind (wpAny_bind (wpAny_holding ?_))
  show wpAny _ _ (Builtin.SmallTypes.nextOf (.ref i1) >>= _) _ _ _
  cases hx : xs[k1]? with
  | none =>
    refine wpAny_bind (nextOf_tuple_end (s := { s with heap := h₁ }) hh (h1.extBut hs₁.extBut D.i1z) (hl1.extBut hs₁.extBut D.l1z) hx fun h₂ e hs₂ he => ?_)
    exact hE h₂ e (fun c o c1 c2 _ x => hs₂ _ _ c2 (hs₁.extBut _ _ c1 x)) he
  | some x =>
    have hy : ys[k2]? = none := by rcases hend with h | h; rw [hx] at h; cases h; exact h
    refine wpAny_bind (nextOf_tuple_item (s := { s with heap := h₁ }) (h1.extBut hs₁.extBut D.i1z) (hl1.extBut hs₁.extBut D.l1z) hx fun h₂ h1₂ hs₂ => wpAny_pure ?_)
    refine wpAny_pure ?_
    refine wpAny_bind (wpAny_bind (wpAny_holding ?_))
    show wpAny _ _ (Builtin.SmallTypes.nextOf (.ref i2) >>= _) _ _ _
    refine wpAny_bind (nextOf_tuple_end (s := { s with heap := h₂ }) hh ((h2.extBut hs₁.extBut D.i2z).extBut hs₂.extBut D.i12.symm) ((hl2.extBut hs₁.extBut D.l2z).extBut hs₂.extBut D.l2i1) hy fun h₃ e hs₃ he => ?_)
    exact hE h₃ e (fun c o c1 c2 c3 x => hs₃ _ _ c3 (hs₂.extBut _ _ c2 (hs₁.extBut _ _ c1 x))) he

theorem nextT_held_item {z TI TO T i1 i2 l1 l2 : Addr} {f : Bool} {oT : Obj} {k1 k2 : Nat} {xs ys : Array Value} {x y : Value} {Q : Option Value → Shared → Prop} (D : ZipApart z TI TO i1 i2 l1 l2)
    (hz : IsZipHeld s.heap z TI TO T f) (hT : s.heap.get? T = some oT) (hTI : IsPair s.heap TI (.ref i1) (.ref i2))
    (h1 : s.heap.IsTupleIter i1 l1 k1) (h2 : s.heap.IsTupleIter i2 l2 k2) (hl1 : s.heap.IsTuple l1 xs) (hl2 : s.heap.IsTuple l2 ys) (hx : xs[k1]? = some x) (hy : ys[k2]? = some y)
    (hQ : ∀ h', IsZipHeld h' z TI TO T true → h'.IsTupleIter i1 l1 (k1 + 1) → h'.IsTupleIter i2 l2 (k2 + 1) → IsPair h' s.heap.objs.size x y → h'.objs.size = s.heap.objs.size + 1 →
      (∀ c o, c ≠ z → c ≠ i1 → c ≠ i2 → s.heap.get? c = some o → h'.get? c = some o) → Q (some (.ref s.heap.objs.size)) { s with heap := h' }) :
    wpAny (model prog w) A (pyNext (.ref z)) Q E s := by
  have hTy : s.TypeIs (.ref z) "zip" := ⟨_, hz, rfl⟩
  unfold pyNext
  exact wpAny_bind (wpAny_attempt (wpAny_callSpecial?_slot (name := Str.ofString "__next__") hTy F.slot_zip_next
    (wpAny_call_entry F.slot_zip_next hTy F.entry_zip_next
      (zipT_held_item D hz hT hTI h1 h2 hl1 hl2 hx hy fun h' a1 a3 a4 a5 a6 a7 => wpAny_pure (hQ h' a1 a3 a4 a5 a6 a7)) (F.args_zip_next_1 _))))
theorem nextT_held_end {z TI TO T i1 i2 l1 l2 : Addr} {f : Bool} {oT : Obj} {k1 k2 : Nat} {xs ys : Array Value} {Q : Option Value → Shared → Prop} (hh : A.handled = none) (D : ZipApart z TI TO i1 i2 l1 l2)
    (hz : IsZipHeld s.heap z TI TO T f) (hT : s.heap.get? T = some oT) (hTI : IsPair s.heap TI (.ref i1) (.ref i2))
    (h1 : s.heap.IsTupleIter i1 l1 k1) (h2 : s.heap.IsTupleIter i2 l2 k2) (hl1 : s.heap.IsTuple l1 xs) (hl2 : s.heap.IsTuple l2 ys) (hend : xs[k1]? = none ∨ ys[k2]? = none)
    (hQ : ∀ h', (∀ c o, c ≠ z → c ≠ i1 → c ≠ i2 → s.heap.get? c = some o → h'.get? c = some o) → Q none { s with heap := h' }) : wpAny (model prog w) A (pyNext (.ref z)) Q E s := by
  have hTy : s.TypeIs (.ref z) "zip" := ⟨_, hz, rfl⟩
  unfold pyNext
  refine wpAny_bind (wpAny_attempt (wpAny_callSpecial?_slot (name := Str.ofString "__next__") hTy F.slot_zip_next
    (wpAny_call_entry F.slot_zip_next hTy F.entry_zip_next (zipT_held_end hh D hz hT hTI h1 h2 hl1 hl2 hend fun h' e hk he => ?_) (F.args_zip_next_1 _))))
  obtain ⟨o, ho, hc⟩ := he
  refine wpAny_bind (wpAny_isInstance (T := "StopIteration") (b := true) ⟨o, ho, hc⟩ isSubtype_stop ?_)
  exact wpAny_pure (hQ _ hk)
end
theorem zip_no_len : typeLookup (.type "zip") "__len__" = pure none := am_miss_of_fast (by decide +kernel)
theorem zip_no_hint : typeLookup (.type "zip") "__length_hint__" = pure none := am_miss_of_fast (by decide +kernel)
/-- pairs made so far -/
def Prs (H : Hp) (xs ys vs : List V) (n : Nat) : Prop := vs.length = n ∧ ∀ j, j < n → ∃ T x y, vs[j]? = some (.ref T) ∧ H T = some (.tup [x, y]) ∧ xs[j]? = some x ∧ ys[j]? = some y
theorem Prs.ext {S : List Addr} {H H' : Hp} {xs ys vs : List V} {n : Nat} (p : Prs H xs ys vs n) (e : Ext S H H') : Prs H' xs ys vs n :=
  ⟨p.1, fun j h => let ⟨T, x, y, a, b, c⟩ := p.2 j h; ⟨T, x, y, a, e.tup _ _ b, c⟩⟩
theorem Prs.snoc {H : Hp} {xs ys vs : List V} {n : Nat} {T : Addr} {x y : V} (p : Prs H xs ys vs n) (h : H T = some (.tup [x, y])) (hx : xs[n]? = some x) (hy : ys[n]? = some y) : Prs H xs ys (vs ++ [.ref T]) (n + 1) := by
  refine ⟨by rw [List.length_append, p.1]; rfl, fun j hj => ?_⟩
  by_cases q : j < n
  · obtain ⟨T, x, y, a, b⟩ := p.2 j q
    exact ⟨T, x, y, by rw [List.getElem?_append_left (by rw [p.1]; exact q)]; exact a, b⟩
  · have e : j = n := by omega
    subst e
    exact ⟨T, x, y, by rw [List.getElem?_append_right (by rw [p.1]; exact Nat.le_refl _), p.1, Nat.sub_self]; rfl, h, hx, hy⟩
/-- the zip between its turns: fresh, or a tuple that it gave out is still there -/
def ZSt (H : Hp) (h : Heap) (z TI TO : Addr) : Prop := TO < h.objs.size ∧ ((IsZip h z TI TO .none ∧ ∃ x y, IsPair h TO x y) ∨ ∃ T f q, IsZipHeld h z TI TO T f ∧ H T = some (.tup q))
section
variable {X : Cx} {pins : List (Addr × Obj)} {σ : L2.St} {z TI TO i1 i2 a b : Addr} {xs ys : List V} {A : Around} {E : Value → Shared → Prop}
theorem zip_turn {H : Hp} {s : Shared} {i : Nat} {x y : V} {Q : Option Value → Shared → Prop} (D : ZipApart z TI TO i1 i2 a b) (I : L2.Inv X pins σ H s) (ha : SqT X.K H a xs) (hb : SqT X.K H b ys) (hTI : IsPair s.heap TI (.ref i1) (.ref i2))
    (h1 : s.heap.IsTupleIter i1 a i) (h2 : s.heap.IsTupleIter i2 b i) (hz : ZSt H s.heap z TI TO) (hf : ∀ q ∈ [z, TI, TO, i1, i2], FpOk X pins H q) (hx : xs[i]? = some x) (hy : ys[i]? = some y)
    (hQ : ∀ h' T, L2.Inv X pins σ (upd H T (.tup [x, y])) { s with heap := h' } → H T = none → IsPair h' TI (.ref i1) (.ref i2) → h'.IsTupleIter i1 a (i + 1) → h'.IsTupleIter i2 b (i + 1) → ZSt (upd H T (.tup [x, y])) h' z TI TO →
      (∀ q ∈ [z, TI, TO, i1, i2], FpOk X pins (upd H T (.tup [x, y])) q) → Q (some (.ref T)) { s with heap := h' }) : wpAny (model X.prog X.w) A (pyNext (.ref z)) Q E s := by
  obtain ⟨its, rv, p, _⟩ := I.tuple ha
  obtain ⟨its2, rv2, p2, _⟩ := I.tuple hb
  obtain ⟨u, hu, ru⟩ := rv.get hx
  obtain ⟨u2, hu2, ru2⟩ := rv2.get hy
  have hu' : its.toArray[i]? = some u := by simpa using hu
  have hu2' : its2.toArray[i]? = some u2 := by simpa using hu2
  obtain ⟨TOlt, hz⟩ := hz
  have hzl : z < s.heap.objs.size := by
    rcases hz with ⟨q, _⟩ | ⟨_, _, _, q, _⟩
    · exact Heap.lt_size q
    · exact Heap.lt_size q
  have key : ∀ (h' : Heap), IsPair h' s.heap.objs.size u u2 → h'.objs.size = s.heap.objs.size + 1 → (∀ c o, c ≠ z → c ≠ TO → c ≠ i1 → c ≠ i2 → s.heap.get? c = some o → h'.get? c = some o) → h'.IsTupleIter i1 a (i + 1) → h'.IsTupleIter i2 b (i + 1) →
      ZSt (upd H s.heap.objs.size (.tup [x, y])) h' z TI TO → Q (some (.ref s.heap.objs.size)) { s with heap := h' } := fun h' hT hsz hk a1 a2 hz' => by
    have hn : H s.heap.objs.size = none := I.hok.fresh (Nat.le_refl _)
    refine hQ h' _ (I.turnedNew (t' := s.toks) (ch := [z, TI, TO, i1, i2]) (fun c o hb q => hk c o (fun q' => hb (by simp [q'])) (fun q' => hb (by simp [q'])) (fun q' => hb (by simp [q'])) (fun q' => hb (by simp [q'])) q) hf (Nat.le_refl _)
      ⟨by show 2 ≤ sizeLine; decide, [u, u2], .cons ru (.cons ru2 .nil), ⟨_, hT, rfl, _, rfl⟩⟩) hn (hk _ _ D.TIz D.TITO D.TIi1 D.TIi2 hTI) a1 a2 hz' fun c hcm => ?_
    refine ⟨?_, (hf c hcm).2⟩
    have hlt : c < s.heap.objs.size := by
      have e' : c = z ∨ c = TI ∨ c = TO ∨ c = i1 ∨ c = i2 := by simpa using hcm
      rcases e' with q | q | q | q | q
      · rw [q]; exact hzl
      · rw [q]; exact Heap.lt_size hTI
      · rw [q]; exact TOlt
      · rw [q]; obtain ⟨_, e1, _⟩ := h1; exact Heap.lt_size e1
      · rw [q]; obtain ⟨_, e2, _⟩ := h2; exact Heap.lt_size e2
    rw [upd_ne (Nat.ne_of_lt hlt)]
    exact (hf c hcm).1
  have new : ∀ o, upd H s.heap.objs.size o s.heap.objs.size = some o := fun o => upd_same
  rcases hz with ⟨hz, x0, y0, hTO⟩ | ⟨T, f, q, hz, hq⟩
  · exact RZ.pyNext_zipT_item D hz hTI hTO h1 h2 p p2 hu' hu2' fun h' z' TO' h1' h2' hT hsz hk =>
      key h' hT hsz hk h1' h2' ⟨by rw [hsz]; exact Nat.lt_succ_of_lt TOlt, .inr ⟨_, false, _, z', new _⟩⟩
  · obtain ⟨_, itsT, _, oT, hoT, _⟩ := (show ObjOk X.prog X.w H s.heap T (.tup q) from I.hok T _ hq)
    have hTn : T ≠ s.heap.objs.size := Nat.ne_of_lt (Heap.lt_size hoT)
    refine nextT_held_item D hz hoT hTI h1 h2 p p2 hu' hu2' fun h' z' h1' h2' hT hsz hk => ?_
    exact key h' hT hsz (fun c o c1 _ c3 c4 e => hk c o c1 c3 c4 e) h1' h2' ⟨by rw [hsz]; exact Nat.lt_succ_of_lt TOlt, .inr ⟨T, true, q, z', by rw [upd_ne hTn]; exact hq⟩⟩
theorem zip_over {H : Hp} {s : Shared} {i : Nat} {Q : Option Value → Shared → Prop} (hh : A.handled = none) (D : ZipApart z TI TO i1 i2 a b) (I : L2.Inv X pins σ H s) (ha : SqT X.K H a xs) (hb : SqT X.K H b ys) (hTI : IsPair s.heap TI (.ref i1) (.ref i2))
    (h1 : s.heap.IsTupleIter i1 a i) (h2 : s.heap.IsTupleIter i2 b i) (hz : ZSt H s.heap z TI TO) (hf : ∀ q ∈ [z, TI, TO, i1, i2], FpOk X pins H q) (he : xs[i]? = none ∨ ys[i]? = none)
    (hQ : ∀ h', L2.Inv X pins σ H { s with heap := h' } → Q none { s with heap := h' }) : wpAny (model X.prog X.w) A (pyNext (.ref z)) Q E s := by
  obtain ⟨its, rv, p, _⟩ := I.tuple ha
  obtain ⟨its2, rv2, p2, _⟩ := I.tuple hb
  have l1 := rv.length
  have l2 := rv2.length
  have he' : its.toArray[i]? = none ∨ its2.toArray[i]? = none := by
    rcases he with q | q
    · rw [List.getElem?_eq_none_iff] at q
      exact .inl (by simp; omega)
    · rw [List.getElem?_eq_none_iff] at q
      exact .inr (by simp; omega)
  obtain ⟨TOlt, hz⟩ := hz
  rcases hz with ⟨hz, x0, y0, hTO⟩ | ⟨T, f, q, hz, hq⟩
  · exact RZ.pyNext_zipT_end hh D hz hTI hTO h1 h2 p p2 he' fun h' hk => hQ h' (I.turnedL (t' := s.toks) (ch := [z, TI, TO, i1, i2]) (fun c o hb q =>
      hk c o (fun q' => hb (by simp [q'])) (fun q' => hb (by simp [q'])) (fun q' => hb (by simp [q'])) (fun q' => hb (by simp [q'])) q) hf)
  · obtain ⟨_, itsT, _, oT, hoT, _⟩ := (show ObjOk X.prog X.w H s.heap T (.tup q) from I.hok T _ hq)
    exact nextT_held_end hh D hz hoT hTI h1 h2 p p2 he' fun h' hk => hQ h' (I.turnedL (t' := s.toks) (ch := [z, TI, TO, i1, i2]) (fun c o hb q =>
      hk c o (fun q' => hb (by simp [q'])) (fun q' => hb (by simp [q'])) (fun q' => hb (by simp [q'])) q) hf)
theorem Ext.newer {H0 H' : Hp} {S : Addr} {o : HO} (h : Ext [S] (upd H0 S o) H') (n : H0 S = none) : Ext [] H0 H' := by
  have k : ∀ b u, H0 b = some u → b ≠ S ∧ upd H0 S o b = some u := fun b u e => by
    have q := ne_of_none e n
    exact ⟨q, by rw [upd_ne q]; exact e⟩
  refine ⟨fun b u e _ m => h.keep b u (k b u e).2 (fun z => (k b u e).1 (by simpa using z)) m, fun b xs e => h.tup b xs (k b _ e).2, fun b u v e => h.frz b u v (k b _ e).2, fun P ⟨ps, e, t⟩ => h.tab P ⟨ps, (k P _ e).2, t⟩, fun P ps e _ => h.tbl P ps (k P _ e).2 fun z => (k P _ e).1 (by simpa using z)⟩
theorem zip_loop {S : Addr} {n : Nat} {res : Value} {R : Result → Shared → Prop} (hh : A.handled = none) (D : ZipApart z TI TO i1 i2 a b) (hn : n = min xs.length ys.length) (hm : n ≤ 100000) :
    ∀ (k i : Nat) (s : Shared) (H : Hp) (vs : List V), n - i = k → i ≤ n → L2.Inv X pins σ H s → SqT X.K H a xs → SqT X.K H b ys → IsPair s.heap TI (.ref i1) (.ref i2) → s.heap.IsTupleIter i1 a i → s.heap.IsTupleIter i2 b i → ZSt H s.heap z TI TO →
      (∀ q ∈ [z, TI, TO, i1, i2], FpOk X pins H q) → H S = some (.lst vs) → Prs H xs ys vs i →
      (∀ s' H' vs', L2.Inv X pins σ H' s' → H' S = some (.lst vs') → Prs H' xs ys vs' n → Ext [S] H H' → R (.ok (.ret res)) s') →
      codeAny (model X.prog X.w) A (.builtin "list.extend.loop" ⟨[.ref S, .ref z, res], []⟩) R s := by
  intro k
  induction k with
  | zero =>
    intro i s H vs hk hi I ha hb hTI h1 h2 hz hf hS hp hR
    have e : i = n := by omega
    subst e
    refine codeAny_builtin F.entry_extend_loop ?_
    rw [Around.under_plainId F.plain_extend_loop _]
    show wpAny _ A.in1 (pyNext (.ref z) >>= _) _ _ s
    refine wpAny_bind (zip_over hh D I ha hb hTI h1 h2 hz hf ?_ fun h' I' => wpAny_pure (hR _ H vs I' hS hp (Ext.refl _ _)))
    by_cases q : xs.length ≤ i
    · exact .inl (List.getElem?_eq_none q)
    · exact .inr (List.getElem?_eq_none (by omega))
  | succ k ih =>
    intro i s H vs hk hi I ha hb hTI h1 h2 hz hf hS hp hR
    have hx : xs[i]? = some (xs[i]'(by omega)) := List.getElem?_eq_getElem _
    have hy : ys[i]? = some (ys[i]'(by omega)) := List.getElem?_eq_getElem _
    revert hx hy
    generalize xs[i]'(by omega) = x
    generalize ys[i]'(by omega) = y
    intro hx hy
    refine codeAny_builtin F.entry_extend_loop ?_
    rw [Around.under_plainId F.plain_extend_loop _]
    show wpAny _ A.in1 (pyNext (.ref z) >>= _) _ _ s
    refine wpAny_bind (zip_turn D I ha hb hTI h1 h2 hz hf hx hy fun h' T I1 hT b1 b2 b3 b4 b5 => ?_)
    have eT : Ext [S] H (upd H T (.tup [x, y])) := (Ext.new hT).any
    have hST : S ≠ T := ne_of_none hS hT
    have hS1 : upd H T (.tup [x, y]) S = some (.lst vs) := by rw [upd_ne hST]; exact hS
    obtain ⟨zle, its, c, rv, hget⟩ := (show ObjOk X.prog X.w _ h' S (.lst vs) from I1.hok S _ hS1)
    have hlen : its.length = i := by rw [← rv.length]; exact hp.1
    have hz100 : (100000 : Nat) < sizeLine := by decide
    show wpAny _ A.in1 (updateSeq S (·.push (.ref T)) >>= _) _ _ _
    refine wpAny_bind (wpAny_updateSeq hget rfl (wpAny_pure ⟨plainId_quiet F.plain_extend_loop _, ?_⟩) (by simp; omega) (by simp; omega))
    have hnew := Heap.get?_update_self (Obj.mapSeq (·.push (Value.ref T))) hget rfl
    have oth : ∀ q o, q ≠ S → h'.get? q = some o → (h'.update S (Obj.mapSeq (·.push (Value.ref T)))).get? q = some o := fun q o n e => (Heap.get?_update_other _ _ (Ne.symm n)).trans e
    have I2 : L2.Inv X pins σ (upd (upd H T (.tup [x, y])) S (.lst (vs ++ [.ref T]))) { s with heap := h'.update S (Obj.mapSeq (·.push (Value.ref T))) } :=
      I1.write (t' := s.toks) (x := S) (e := S) (by rw [hS1]; exact True.intro) (.inl rfl) oth ⟨_, hnew⟩ ⟨by rw [List.length_append, hp.1]; show i + 1 ≤ _; omega, its ++ [.ref T], _, rv.append (.cons (show L2.RelV (.ref T) (Value.ref T) from rfl) .nil), by
        have q := hnew
        simp only [Obj.mapSeq, List.push_toArray] at q
        exact q⟩
    have eS : Ext [S] (upd H T (.tup [x, y])) (upd (upd H T (.tup [x, y])) S (.lst (vs ++ [.ref T]))) := Ext.setL List.mem_cons_self hS1
    have tT : (upd (upd H T (.tup [x, y])) S (.lst (vs ++ [.ref T]))) T = some (.tup [x, y]) := by rw [upd_ne hST.symm, upd_same]
    have ne : ∀ q ∈ [z, TI, TO, i1, i2], q ≠ S := fun q hq e => by
      have := (b5 q hq).1
      rw [e, hS1] at this
      cases this
    refine ih (i + 1) _ _ (vs ++ [.ref T]) (by omega) (by omega) I2 ((eT.trans eS).sqT ha) ((eT.trans eS).sqT hb) (oth _ _ (ne _ (by simp)) b1) (b2.at fun o e => oth _ o (ne _ (by simp)) e) (b3.at fun o e => oth _ o (ne _ (by simp)) e) ?_
      (fun q hq => ⟨by rw [upd_ne (ne q hq)]; exact (b5 q hq).1, (b5 q hq).2⟩) upd_same ((hp.ext (eT.trans eS)).snoc tT hx hy) fun s' H' vs' I' e' p' x' => hR s' H' vs' I' e' p' ((eT.trans eS).trans x')
    obtain ⟨l, b4⟩ := b4
    refine ⟨Nat.lt_of_lt_of_le l (Nat.le_of_eq (by first | rfl | exact (Heap.size_update ..).symm)), ?_⟩
    rcases b4 with ⟨q, x0, y0, q2⟩ | ⟨T', f, q, q1, q2⟩
    · exact .inl ⟨oth _ _ (ne _ (by simp)) q, x0, y0, oth _ _ (ne _ (by simp)) q2⟩
    · exact .inr ⟨T', f, q, oth _ _ (ne _ (by simp)) q1, (eS.tup _ _ q2)⟩
theorem call_list_zip {H : Hp} {s : Shared} {Q : Value → Shared → Prop} (hh : A.handled = none) (D : ZipApart z TI TO i1 i2 a b) (I : L2.Inv X pins σ H s) (ha : SqT X.K H a xs) (hb : SqT X.K H b ys) (hTI : IsPair s.heap TI (.ref i1) (.ref i2))
    (h1 : s.heap.IsTupleIter i1 a 0) (h2 : s.heap.IsTupleIter i2 b 0) (hz : IsZip s.heap z TI TO .none) (hTO : ∃ x y, IsPair s.heap TO x y) (hf : ∀ q ∈ [z, TI, TO, i1, i2], FpOk X pins H q) (hm : min xs.length ys.length ≤ 100000)
    (hQ : ∀ S s' H' vs, H S = none → L2.Inv X pins σ H' s' → H' S = some (.lst vs) → Prs H' xs ys vs (min xs.length ys.length) → Ext [] H H' → Q (.ref S) s') : wpAny (model X.prog X.w) A (call (.type "list") [.ref z]) Q E s := by
  have hSz : s.heap.objs.size ≠ z := Nat.ne_of_gt (Heap.lt_size hz)
  refine callType_codes (Q₁ := fun obj s₁ => obj = .ref s.heap.objs.size ∧ s₁ = { s with heap := s.heap.push { cls := .type "list", data := .seq #[] } }) F.called_list (F.typeCall_list_1 _) F.entry_list_init
    (code_list_new _ ⟨rfl, rfl⟩) fun obj s₁ h₁ => ?_
  obtain ⟨rfl, rfl⟩ := h₁
  have hS : (s.heap.push { cls := .type "list", data := .seq #[] }).get? s.heap.objs.size = some { cls := .type "list", data := .seq #[] } := Heap.get?_push_size _ rfl
  refine ⟨⟨_, hS, rfl⟩, F.args_list_init_2 _ _, ?_⟩
  show wpAny _ A.in1.in1 (do let old ← Builtin.List.listItems (.ref s.heap.objs.size); Builtin.List.listUpdate (.ref s.heap.objs.size) (fun _ => #[]); letGo old.toList.reverse; Builtin.List.listExtendWith (.ref s.heap.objs.size) (.ref z) .none) _ _ _
  refine wpAny_bind ?_
  unfold Builtin.List.listItems
  refine wpAny_bind (wpAny_seqItems hS rfl (wpAny_pure ?_))
  show wpAny _ A.in1.in1 (updateSeq s.heap.objs.size (fun _ => #[]) >>= fun _ => letGo (#[] : Array Value).toList.reverse >>= fun _ => Builtin.List.listExtendWith (.ref s.heap.objs.size) (.ref z) .none) _ _ _
  refine wpAny_bind (wpAny_updateSeq hS rfl ?_)
  have hS2 := Heap.get?_update_self (Obj.mapSeq (fun _ => (#[] : Array Value))) hS rfl
  refine wpAny_bind (wpAny_letGo ?_)
  unfold Builtin.List.listExtendWith
  have up : ∀ (h : Heap) (f : Obj → Obj), (∀ b o, s.heap.get? b = some o → h.get? b = some o) → ∀ b o, s.heap.get? b = some o → (h.update s.heap.objs.size f).get? b = some o := fun h f q b o e =>
    (Heap.get?_update_other _ _ (Ne.symm (Nat.ne_of_lt (Heap.lt_size e)))).trans (q b o e)
  have k1 : ∀ b o, s.heap.get? b = some o → (s.heap.push { cls := .type "list", data := .seq #[] }).get? b = some o := fun b o e => Heap.get?_push_of_some _ e
  have k2 := up _ (Obj.mapSeq (fun _ => (#[] : Array Value))) k1
  refine wpAny_bind (wpAny_typeOf (T := "zip") ⟨_, k2 _ _ hz, rfl⟩ ?_)
  have g1 : Builtin.List.listSameRef (.ref s.heap.objs.size) (.ref z) = false := by simp [Builtin.List.listSameRef, hSz]
  have g2 : (Value.type "zip" == Value.type "list") = false := by decide
  have g3 : (Value.type "zip" == Value.type "tuple") = false := by decide
  simp only [g1, g2, g3, Bool.or_false, Bool.false_eq_true, if_false]
  refine wpAny_bind (wpAny_pyIter_zip (k2 _ _ hz) ?_)
  refine wpAny_bind (wpAny_holding ?_)
  unfold Builtin.List.listLengthHint
  refine wpAny_bind (wpAny_specialOf (T := "zip") ⟨_, k2 _ _ hz, rfl⟩ zip_no_len ?_)
  show wpAny _ A.in1.in1 (specialOf (Value.ref z) (Str.ofString "__length_hint__") >>= _) _ _ _
  refine wpAny_bind (wpAny_specialOf (T := "zip") ⟨_, k2 _ _ hz, rfl⟩ zip_no_hint ?_)
  refine wpAny_pure ?_
  show wpAny _ A.in1.in1 (rule "list.extend.makes-room" >>= fun _ => Builtin.List.listTouch (.ref s.heap.objs.size) >>= fun _ =>
    again (.builtin "list.extend.loop" ⟨[.ref s.heap.objs.size, .ref z, .none], []⟩)) _ _ _
  refine wpAny_bind (wpAny_rule ?_)
  refine wpAny_bind ?_
  show wpAny _ A.in1.in1 (updateSeq s.heap.objs.size (·.push .none) >>= fun _ => updateSeq s.heap.objs.size (·.pop)) _ _ _
  refine wpAny_bind (wpAny_updateSeq hS2 rfl ?_)
  have hS3 := Heap.get?_update_self (Obj.mapSeq (·.push Value.none)) hS2 rfl
  refine wpAny_updateSeq (hz := by seq_fits) hS3 rfl ?_
  have hS4 := Heap.get?_update_self (Obj.mapSeq (·.pop)) hS3 rfl
  have k4 := up _ (Obj.mapSeq (·.pop)) (up _ (Obj.mapSeq (·.push Value.none)) k2)
  refine wpAny_pure ⟨plainId_quiet F.plain_extend_loop _, ?_⟩
  have hSn : H s.heap.objs.size = none := I.hok.fresh (Nat.le_refl _)
  have I1 : L2.Inv X pins σ (upd H s.heap.objs.size (.lst [])) { s with heap := _ } := I.laid (t' := s.toks) k4 (Nat.le_refl _) ⟨Nat.zero_le _, [], _, .nil, hS4⟩
  have e1 : Ext [] H (upd H s.heap.objs.size (.lst [])) := Ext.new hSn
  refine zip_loop (A := A.in1) (n := min xs.length ys.length) hh D rfl hm _ 0 _ _ [] rfl (Nat.zero_le _) I1 (e1.sqT ha) (e1.sqT hb) (k4 _ _ hTI) (h1.at fun o e => k4 _ o e) (h2.at fun o e => k4 _ o e) ?_ (fun q hq => ⟨?_, (hf q hq).2⟩) upd_same ⟨rfl, fun j hj => by omega⟩
    fun s' H' vs' I' e' p' x' => ⟨rfl, hQ _ s' H' vs' hSn I' e' p' (x'.newer hSn)⟩
  · obtain ⟨x0, y0, q⟩ := hTO
    exact ⟨Heap.lt_size (k4 _ _ q), .inl ⟨k4 _ _ hz, x0, y0, k4 _ _ q⟩⟩
  · have lt : q < s.heap.objs.size := by
      have e' : q = z ∨ q = TI ∨ q = TO ∨ q = i1 ∨ q = i2 := by simpa using hq
      rcases e' with e | e | e | e | e
      · rw [e]; exact Heap.lt_size hz
      · rw [e]; exact Heap.lt_size hTI
      · obtain ⟨x0, y0, q'⟩ := hTO; rw [e]; exact Heap.lt_size q'
      · rw [e]; obtain ⟨_, e1, _⟩ := h1; exact Heap.lt_size e1
      · rw [e]; obtain ⟨_, e2, _⟩ := h2; exact Heap.lt_size e2
    rw [upd_ne (Nat.ne_of_lt lt)]
    exact (hf q hq).1
end
/-- the pairs as they are read -/
def PrsF (K : PySem.W.Frag) (H : Hp) (xs ys vs : List V) (n : Nat) : Prop := vs.length = n ∧ ∀ j, j < n → ∃ T x y, vs[j]? = some (.ref T) ∧ tupF K H T = some [x, y] ∧ xs[j]? = some x ∧ ys[j]? = some y
theorem Prs.f {K : PySem.W.Frag} {H : Hp} {xs ys vs : List V} {n : Nat} (p : Prs H xs ys vs n) (k : NK K H) : PrsF K H xs ys vs n :=
  ⟨p.1, fun j h => let ⟨T, x, y, a, b, c⟩ := p.2 j h; ⟨T, x, y, a, tupF_at (NK.at k b) b, c⟩⟩
/-- list(zip(t, u)) -/
def tLZip (K : PySem.W.Frag) (ta : TA) : TE := fun σ H Q => ta σ H fun vs H1 => ∃ a b xs ys, vs = [.ref a, .ref b] ∧ tupF K H1 a = some xs ∧ tupF K H1 b = some ys ∧ min xs.length ys.length ≤ 100000 ∧
  ∀ S H2 ws, H1 S = none → Ext [] H1 H2 → H2 S = some (.lst ws) → PrsF K H2 xs ys ws (min xs.length ys.length) → Q (.ref S) H2
theorem pe_lzip {X : Cx} {e e2 : Expr} {ta : TA} {p p2 pos pos2 : Pos} (hc : X.calm = true) (hg : Gl X "zip") (hm : X.mg "zip" = none) (hgl : Gl X "list") (hml : X.mg "list" = none) (ha : PA X [e, e2] ta)
    (hs : starEach [e, e2] X.env = (false, eval e X.env) :: starEach [e2] X.env := by rfl) (hpl : (backTo pos (starEach [e2] X.env)).any (·.1) = false := by rfl)
    (hs2 : starEach [.Call (.Name "zip" p) [e, e2] [] pos] X.env = [(false, eval (.Call (.Name "zip" p) [e, e2] [] pos) X.env)] := by rfl) :
    PE X (.Call (.Name "list" p2) [.Call (.Name "zip" p) [e, e2] [] pos] [] pos2) (tLZip X.K ta) := by
  refine ⟨fun pins s σ H Q I h => ?_⟩
  refine Call_ (ld_blt I hgl hml boot_list (PyProof.Rows.callWith_type1 ?_ hs2 rfl))
  rw [hs2]
  show wpAny _ _ (spliced ((false, eval (.Call (.Name "zip" p) [e, e2] [] pos) X.env) :: backTo pos2 (starEach [] X.env))) _ _ s
  refine Calls.spliced_cons ?_
  refine Call_ (ld_blt I hg hm PyProof.Rows.boot_zip (PyProof.Rows.callWith_type1 (thn (ha.run pos pins s σ H _ I h) fun us s1 ⟨vs, H1, I1, r1, q1⟩ => ?_) hs hpl))
  obtain ⟨a, b, xs, ys, ex, hqa, hqb, hmin, q⟩ := q1
  subst ex
  cases r1 with
  | cons r rr =>
    cases rr with
    | cons r' rr =>
      cases rr
      cases r
      cases r'
      have fresh5 : ∀ c, c ∈ [s1.heap.objs.size + 4, s1.heap.objs.size + 2, s1.heap.objs.size + 3, s1.heap.objs.size, s1.heap.objs.size + 1] → FpOk X pins H1 c := fun c hcm => by
        have e' : c = s1.heap.objs.size + 4 ∨ c = s1.heap.objs.size + 2 ∨ c = s1.heap.objs.size + 3 ∨ c = s1.heap.objs.size ∨ c = s1.heap.objs.size + 1 := by simpa using hcm
        have hle : s1.heap.objs.size ≤ c := by
          rcases e' with z | z | z | z | z <;> rw [z]
          · exact Nat.le_add_right _ _
          · exact Nat.le_add_right _ _
          · exact Nat.le_add_right _ _
          · exact Nat.le_refl _
          · exact Nat.le_add_right _ _
        exact I1.fpOk hle (I1.hok.fresh hle)
      obtain ⟨its, rv, p1, _⟩ := I1.tuple (tupF_sq hqa)
      obtain ⟨its2, rv2, p2, _⟩ := I1.tuple (tupF_sq hqb)
      obtain ⟨o1, ho1, _⟩ := id p1
      obtain ⟨o2, ho2, _⟩ := id p2
      refine call_zipT (show s1.heap.IsTuple a its.toArray from p1) (show s1.heap.IsTuple b its2.toArray from p2) fun h' hz hTI hTO h1 h2 hsz hk => Calls.spliced_nil ?_
      have I2 : L2.Inv X pins σ H1 { s1 with heap := h' } := I1.kept (t' := s1.toks) hk
      exact call_list_zip (I1.ok.hd hc) (PySem.W.ktu_apart s1.heap.objs.size a b (Heap.lt_size ho1) (Heap.lt_size ho2)) I2 (tupF_sq hqa) (tupF_sq hqb) hTI h1 h2 hz ⟨_, _, hTO⟩ fresh5 hmin fun S s' H' vs hS I' e' p' x' => ⟨.ref S, H', I', rfl, q S H' vs hS x' e' (p'.f (inv_nk I'))⟩
end Sq
set_option Elab.async false
set_option linter.all false
set_option maxRecDepth 100000
set_option maxHeartbeats 2000000
namespace Sq
open PySem PySem.Spec PyProof.Rows L2 RZ
open PySem.AutoSeq1 (wpAny_loadPart')
theorem enumT_new (l : Addr) (items : Array Value) (n : Nat) (dct : Option Addr) (sl : Array (Option Value)) :
    Meets (Builtin.«enumerate.__new__» ⟨[.type "enumerate", .ref l], []⟩) (fun _ R s => s.heap.get? l = some { cls := .type "tuple", dict := dct, data := .seq items n, slots := sl } ∧
      R (.ok (.ret (.ref (s.heap.push { cls := .type "tuple_iterator", data := .fields #[.ref l, .int 0 0] }).objs.size)))
        { s with heap := (s.heap.push { cls := .type "tuple_iterator", data := .fields #[.ref l, .int 0 0] }).push { cls := .type "enumerate", data := .fields #[.none, .bool false, .ref s.heap.objs.size, rawInt 0, .none, .none] } }) :=
  .of_wp fun prog w A R s h => by
    obtain ⟨hp, g, d, tk, os⟩ := s; obtain ⟨hl, h⟩ := h
    have hsub := sub_enumerate
    have hL : Heap.IsTuple (Shared.heap ⟨hp, g, d, tk, os⟩) l items := ⟨_, hl, rfl, n, rfl⟩
    wp_walk using wpAny_loadPart' hl
    refine wpAny_stack_any fun st => wpAny_pure ?_
    split
    · rename_i c _ _ _ _ _
      cases (c == Value.type "enumerate")
      · wp_walk using wpAny_loadPart' hl, wpAny_pyIter_tuple hL
        exact ⟨_, rfl, h⟩
      · wp_walk using wpAny_loadPart' hl, wpAny_pyIter_tuple hL
        exact ⟨_, rfl, h⟩
    · wp_walk using wpAny_loadPart' hl, wpAny_pyIter_tuple hL
      exact ⟨_, rfl, h⟩

section
variable {prog : Program} {w : World} {A : Around} {E : Value → Shared → Prop} {s : Shared}
theorem call_enumT {l : Addr} {items : Array Value} {Q : Value → Shared → Prop} (hL : s.heap.IsTuple l items)
    (h : ∀ h', IsEnum h' (s.heap.objs.size + 1) s.heap.objs.size 0 .none → h'.IsTupleIter s.heap.objs.size l 0 → h'.objs.size = s.heap.objs.size + 2 →
      (∀ b o, s.heap.get? b = some o → h'.get? b = some o) → Q (.ref (s.heap.objs.size + 1)) { s with heap := h' }) :
    wpAny (model prog w) A (call (.type "enumerate") [.ref l]) Q E s := by
  obtain ⟨⟨c, dct, dt, sl⟩, hl, hc, n, hd⟩ := hL
  replace hc : c = .type "tuple" := hc
  replace hd : dt = .seq items n := hd
  subst hc hd
  refine callType_new F.called_enumerate (by decide) (F.typeCall_enumerate_1 _) (F.newCall_enumerate_1 _) (fun obj => F.args_object_init_2 obj _) F.entry_enumerate_new
    (enumT_new l items n dct sl) ⟨hl, ?_⟩
  have hz : (s.heap.push { cls := .type "tuple_iterator", data := .fields #[.ref l, .int 0 0] }).objs.size = s.heap.objs.size + 1 := Heap.size_push ..
  show _ ∧ _
  rw [hz]
  have he : IsEnum ((s.heap.push { cls := .type "tuple_iterator", data := .fields #[.ref l, .int 0 0] }).push
      { cls := .type "enumerate", data := .fields #[.none, .bool false, .ref s.heap.objs.size, rawInt 0, .none, .none] }) (s.heap.objs.size + 1) s.heap.objs.size 0 .none := by
    have := Heap.get?_push_size (s.heap.push { cls := .type "tuple_iterator", data := .fields #[.ref l, .int 0 0] })
      (o := { cls := .type "enumerate", data := .fields #[.none, .bool false, .ref s.heap.objs.size, rawInt 0, .none, .none] }) rfl
    rw [hz] at this; exact this
  refine ⟨⟨_, he, rfl⟩, h _ he ⟨_, Heap.get?_push_of_some _ (Heap.get?_push_size _ rfl), rfl, rfl⟩ (by rw [Heap.size_push, hz]) fun b o x => Heap.get?_push_of_some _ (Heap.get?_push_of_some _ x)⟩

end
theorem drawsT {prog : Program} {w : World} {A : Around} (hh : A.handled = none) (it l : Addr) (hne : l ≠ it) (items : Array Value) :
    Draws prog w A it [it, l] items.size (fun i v => items[i]? = some v) (fun i h => h.IsTupleIter it l i ∧ h.IsTuple l items) where
  live := fun _ _ st => let ⟨o, ho, _⟩ := st.1; ⟨o, ho⟩
  frame := fun _ _ _ st hk => ⟨st.1.at fun o e => hk it (by simp) o e, let ⟨o, e, r⟩ := st.2; ⟨o, hk l (by simp) o e, r⟩⟩
  item := fun i s Q E hi st hQ => by
    refine nextOf_tuple_item st.1 st.2 (x := items[i]) (by simp [hi]) fun h' hit' hs' => ?_
    exact hQ _ h' s.toks (by simp [hi]) ⟨hit', st.2.extBut hs'.extBut hne⟩ hs'
  done := fun s Q E st hE => nextOf_tuple_end hh st.1 st.2 (by simp) hE
theorem wpAny_pyNext_enum_endT {prog : Program} {w : World} {A : Around} {E : Value → Shared → Prop} {s : Shared} {e it l : Addr} {i : Nat} {items : Array Value} {old : Value} {Q : Option Value → Shared → Prop} (hh : A.handled = none)
    (he : IsEnum s.heap e it i old) (hit : s.heap.IsTupleIter it l i) (hl : s.heap.IsTuple l items) (hx : items[i]? = none)
    (hQ : ∀ h', Heap.ExtBut it s.heap h' → Q none { s with heap := h' }) : wpAny (model prog w) A (pyNext (.ref e)) Q E s := by
  have hT : s.TypeIs (.ref e) "enumerate" := ⟨_, he, rfl⟩
  unfold pyNext
  refine wpAny_bind (wpAny_attempt (wpAny_callSpecial?_slot (name := Str.ofString "__next__") hT F.slot_enumerate_next
    (wpAny_call_entry F.slot_enumerate_next hT F.entry_enumerate_next ?_ (F.args_enumerate_next_1 _))))
  show wpAny _ _ (field (.ref e) 2 >>= _) _ _ _
  refine wpAny_bind (wpAny_field he rfl (x := .ref it) rfl ?_)
  refine wpAny_bind (nextOf_tuple_end hh hit hl hx fun h' x he' hx' => ?_)
  obtain ⟨o, ho, hc⟩ := hx'
  refine wpAny_bind (wpAny_isInstance (T := "StopIteration") (b := true) ⟨o, ho, hc⟩ isSubtype_stop ?_)
  exact wpAny_pure (hQ _ he')
def IteT (K : PySem.W.Frag) (a : Addr) : It :=
  ⟨fun i H => ∃ (xs : List V) (x : V), SqT K H a xs ∧ xs[i]? = some x, fun i H v H' => ∃ T x, v = .ref T ∧ H T = none ∧ H' = upd H T (.tup [.int (i : Nat), x]) ∧ ∀ xs, SqT K H a xs → xs[i]? = some x, fun i H => ∃ xs : List V, SqT K H a xs ∧ xs.length ≤ i⟩
theorem turn_enumT {P : Program} {w : World} {K : PySem.W.Frag} {elts : List Expr} {kk : Nat} {tpos : Pos} (a e it : Addr) :
    Turn P w K (.Tuple elts kk tpos) (IteT K a) [e, it] e (fun i h => (∃ old, IsEnum h e it ((i : Nat) : Int) old) ∧ h.IsTupleIter it a i ∧ e ≠ it ∧ a ≠ it ∧ a ≠ e) where
  mem := by simp
  obj := fun i h st b hb => by
    obtain ⟨⟨old, he⟩, ⟨o, ho, hc, hd⟩, _⟩ := st
    have e' : b = e ∨ b = it := by simpa using hb
    rcases e' with z | z
    · rw [z]; exact ⟨_, he, fun v q => nomatch q⟩
    · rw [z]; exact ⟨o, ho, fun v q => by rw [hd] at q; cases q⟩
  keep := fun i h h' st k => let ⟨⟨old, he⟩, hi, hne⟩ := st; ⟨⟨old, k e (by simp) _ he⟩, hi.at fun o q => k it (by simp) o q, hne⟩
  item := by
    intro X hP hw hK hc i pins s σ H E I hf st hg
    subst hP hw hK
    obtain ⟨⟨old, he⟩, hit, hne⟩ := st
    obtain ⟨xs, x, hq, hx⟩ := hg
    obtain ⟨its, rv, p, hz⟩ := I.tuple hq
    obtain ⟨u, hu, ru⟩ := rv.get hx
    have hel : e < s.heap.objs.size := Heap.lt_size he
    have hil : it < s.heap.objs.size := by obtain ⟨_, q, _⟩ := hit; exact Heap.lt_size q
    have hn : i < its.toArray.size := by
      have := rv.length
      have := (List.getElem?_eq_some_iff.mp hx).1
      simp
      omega
    refine wpAny_pyNext_enum_itemD (drawsT (prog := X.prog) (w := X.w) (A := X.A.in1) (show X.A.in1.handled = none from I.ok.hd hc) it a hne.2.1 its.toArray) he ⟨hit, p⟩ hn hne.1 (by simp; exact ⟨hne.1, hne.2.2.symm⟩) fun u' h' tk hu' ho ⟨hit', _⟩ hT hsz hk => ?_
    have eu : u' = u := by
      have hu2 : its.toArray[i]? = some u := by simpa using hu
      rw [hu2] at hu'
      exact (Option.some.inj hu').symm
    subst eu
    refine ⟨_, rfl, wpAny_letOwnedTupleGo_enum (s := { s with heap := h', toks := tk + 1 }) ho fun h'' he' sb => ?_⟩
    have hT2 : h''.get? s.heap.objs.size = some { cls := .type "tuple", data := .seq #[.int i tk, u'] } := (sb.2 _ (Nat.ne_of_gt hel)).trans hT
    have new : ObjOk X.prog X.w (upd H s.heap.objs.size (.tup [.int (i : Nat), x])) h'' s.heap.objs.size (.tup [.int (i : Nat), x]) :=
      ⟨by show 2 ≤ sizeLine; decide, [.int i tk, u'], .cons ⟨_, rfl⟩ (.cons ru .nil), ⟨_, hT2, rfl, _, rfl⟩⟩
    have I1 : Inv X pins σ (upd H s.heap.objs.size (.tup [.int (i : Nat), x])) { s with heap := h'', toks := tk + 1 } :=
      I.turnedNew (ch := [e, it]) (fun b ob hb q => (sb.2 b (fun z => hb (by simp [z]))).trans (hk b ob (fun z => hb (by simp [z])) (fun z => hb (by simp [z])) q)) hf (Nat.le_refl _) new
    refine ⟨.ref s.heap.objs.size, _, I1, rfl, ⟨_, x, rfl, I.hok.fresh (Nat.le_refl _), rfl, fun ys hy => by rw [I.tuple_inj hy hq]; exact hx⟩, ⟨⟨u', ?_⟩, hit'.at fun o q => (sb.2 it (Ne.symm hne.1)).trans q, hne⟩, fun b hb => ?_⟩
    · have e1 : ((i + 1 : Nat) : Int) = (i : Int) + 1 := by omega
      rw [e1]; exact he'
    · have hb' : b < s.heap.objs.size := by
        have e' : b = e ∨ b = it := by simpa using hb
        rcases e' with z | z
        · rw [z]; exact hel
        · rw [z]; exact hil
      rw [upd_ne (Nat.ne_of_lt hb')]
      exact (hf b hb).1
  done := by
    intro X hP hw hK hc i pins s σ H E I hf st hg
    subst hP hw hK
    obtain ⟨⟨old, he⟩, hit, hne⟩ := st
    obtain ⟨xs, hq, hx⟩ := hg
    obtain ⟨its, rv, p, hz⟩ := I.tuple hq
    obtain ⟨f0, f1, f2, f3, f4, f5⟩ := hf it (by simp)
    have hl := rv.length
    have en : i = its.toArray.size ∨ i > its.toArray.size := by simp; omega
    exact wpAny_pyNext_enum_endT (I.ok.hd hc) he hit p (by simp; omega) fun h' eb => ⟨rfl, I.turned (t' := s.toks) (fun b o hb q => eb b o hb q) f0 f1 f3 f4 f5⟩
  self := fun A i s Q E st h => let ⟨⟨_, he⟩, _⟩ := st; wpAny_pyIter_enum he h
def iEnumF (K : PySem.W.Frag) (ta : TA) : TI := fun σ H R => ta σ H fun vs H1 => ∃ a xs, vs = [.ref a] ∧ tupF K H1 a = some xs ∧ R (IteT K a) H1
theorem pi_enumF {X : Cx} {e : Expr} {ta : TA} {p pos tpos : Pos} {elts : List Expr} {kk : Nat} (hg : Gl X "enumerate") (hm : X.mg "enumerate" = none) (ha : PA X [e] ta) (hs : starEach [e] X.env = [(false, eval e X.env)] := by rfl) :
    PI X (.Tuple elts kk tpos) (.Call (.Name "enumerate" p) [e] [] pos) (iEnumF X.K ta) := by
  refine ⟨fun pins s σ H R I h => ?_⟩
  refine Call_ (ld_blt I hg hm boot_enumerate (PyProof.Rows.callWith_type1 (thn (ha.run pos pins s σ H _ I h) fun us s1 ⟨vs, H1, I1, r1, q1⟩ => ?_) hs rfl))
  obtain ⟨a, xs, ex, hq, q⟩ := q1
  subst ex
  cases r1 with
  | cons r rr =>
    cases rr
    cases r
    obtain ⟨its, rv, p', hz⟩ := I1.tuple (tupF_sq hq)
    have hal : a < s1.heap.objs.size := by obtain ⟨o1, ho1, _⟩ := id p'; exact Heap.lt_size ho1
    refine call_enumT (show s1.heap.IsTuple a its.toArray from p') fun h' he hit hsz hk => wpAny_pyIter_enum he ?_
    have I2 : Inv X pins σ H1 { s1 with heap := h' } := I1.kept (t' := s1.toks) hk
    refine ⟨s1.heap.objs.size + 1, [s1.heap.objs.size + 1, s1.heap.objs.size], _, _, H1, rfl, I2, turn_enumT a (s1.heap.objs.size + 1) s1.heap.objs.size, ⟨⟨.none, he⟩, hit, Nat.succ_ne_self _, Nat.ne_of_lt hal, Nat.ne_of_lt (Nat.lt_succ_of_lt hal)⟩, fun b hb => ?_, q⟩
    have e' : b = s1.heap.objs.size + 1 ∨ b = s1.heap.objs.size := by simpa using hb
    have hle : s1.heap.objs.size ≤ b := by
      rcases e' with z | z
      · rw [z]; exact Nat.le_add_right _ _
      · rw [z]; exact Nat.le_refl _
    exact I1.fpOk hle (I1.hok.fresh hle)
theorem walk_enumT {K : PySem.W.Frag} {a : Addr} {xs : List V} : Walk (IteT K a) xs.length (fun H => SqT K H a xs) (YPair (fun i => some (.int (i : Nat))) (fun i => xs[i]?)) := by
  refine ⟨fun i _ hi q => ⟨xs, xs[i], q, by simp [hi]⟩, fun _ q => ⟨xs, q, Nat.le_refl _⟩, fun i H v H' _ q y => ?_⟩
  obtain ⟨T, x, h1, h2, h3, h4⟩ := y
  exact ⟨T, .int (i : Nat), x, h1, h2, h3, rfl, h4 xs q⟩
theorem walk_zipT {K : PySem.W.Frag} {a b : Addr} {xs ys : List V} {n : Nat} (hn : n = min xs.length ys.length) : Walk (ItzT K a b) n (fun H => SqT K H a xs ∧ SqT K H b ys) (YPair (fun i => xs[i]?) (fun i => ys[i]?)) := by
  subst hn
  refine ⟨fun i _ hi q => ?_, fun _ q => ⟨xs, ys, q.1, q.2, by omega⟩, fun i H v H' _ q y => ?_⟩
  · have h1 : i < xs.length := by omega
    have h2 : i < ys.length := by omega
    exact ⟨xs, ys, xs[i], ys[i], q.1, q.2, by simp [h1], by simp [h2]⟩
  · obtain ⟨T, x, z, h1, h2, h3, h4, h5⟩ := y
    exact ⟨T, x, z, h1, h2, h3, h4 xs q.1, h5 ys q.2⟩
end Sq
set_option Elab.async false
set_option linter.all false
set_option maxRecDepth 100000
set_option maxHeartbeats 2000000
namespace Sq
open PySem PySem.Spec PyProof.Rows L2
/-! ### dicts with texts as keys, as they are read -/
def dcO : Option HO → Option (List (Key × V))
  | some (.dK kvs) => some kvs
  | some (.frz _ (.dK kvs)) => some kvs
  | _ => none
def dctF (H : Hp) (a : Addr) : Option (List (Key × V)) := dcO (H a)
theorem dctF_dK {H : Hp} {a : Addr} {kvs : List (Key × V)} (h : H a = some (.dK kvs)) : dctF H a = some kvs := by unfold dctF; rw [h]; rfl
theorem dctF_frz {H : Hp} {a : Addr} {o : Obj} {kvs : List (Key × V)} (h : H a = some (.frz o (.dK kvs))) : dctF H a = some kvs := by unfold dctF; rw [h]; rfl
theorem dctF_rd {H : Hp} {a : Addr} {kvs : List (Key × V)} (h : dctF H a = some kvs) : Rd H a (.dK kvs) := by
  unfold dctF dcO at h
  split at h
  · rename_i e; cases h; exact .inl e
  · rename_i o _ e; cases h; exact .inr ⟨o, e⟩
  · cases h
theorem dctF_ext {S : List Addr} {H H' : Hp} {a : Addr} {kvs : List (Key × V)} (e : Ext S H H') (n : a ∉ S) (h : dctF H a = some kvs) : dctF H' a = some kvs := by
  rcases dctF_rd h with q | ⟨o, q⟩
  · exact dctF_dK (e.dK q n)
  · exact dctF_frz (e.frz _ _ _ q)
/-! ### locks -/
theorem Ext.lock {H : Hp} {d : Addr} {u : HO} {o : Obj} (e : H d = some u) (h1 : ∀ xs, u ≠ .tup xs) (h2 : ∀ o v, u ≠ .frz o v) (h3 : ∀ ps, u ≠ .tbl ps) : Ext [d] H (upd H d (.frz o u)) := Ext.set List.mem_cons_self e h1 h2 h3
theorem Ext.lockD {H : Hp} {d : Addr} {kvs : List (Key × V)} {o : Obj} (e : H d = some (.dK kvs)) : Ext [d] H (upd H d (.frz o (.dK kvs))) := Ext.lock e (fun _ z => by cases z) (fun _ _ z => by cases z) (fun _ z => by cases z)
theorem Ext.unlockD {S : List Addr} {H H' : Hp} {d : Addr} {kvs : List (Key × V)} {o : Obj} (e : H d = some (.dK kvs)) (h : Ext S (upd H d (.frz o (.dK kvs))) H') : Ext S H (upd H' d (.dK kvs)) := by
  have k : ∀ b u, H b = some u → b ≠ d → upd H d (.frz o (.dK kvs)) b = some u := fun b u q n => by rw [upd_ne n]; exact q
  have nd : ∀ b u, H b = some u → u ≠ .dK kvs → b ≠ d := fun b u q n z => n (by rw [z, e] at q; exact (Option.some.inj q).symm)
  have up : ∀ b u, b ≠ d → H' b = some u → upd H' d (.dK kvs) b = some u := fun b u n q => by rw [upd_ne n]; exact q
  refine ⟨fun b u q n m => ?_, fun b xs q => ?_, fun b u v q => ?_, fun P ⟨ps, q, t⟩ => ?_, fun P ps q m => ?_⟩
  · by_cases z : b = d
    · subst z
      rw [e] at q
      cases q
      exact upd_same
    · exact up b u z (h.keep b u (k b u q z) n m)
  · have z := nd b _ q fun x => by cases x
    exact up b _ z (h.tup b xs (k b _ q z))
  · have z := nd b _ q fun x => by cases x
    exact up b _ z (h.frz b u v (k b _ q z))
  · have z := nd P _ q fun x => by cases x
    obtain ⟨ps', q', t'⟩ := h.tab P ⟨ps, k P _ q z, t⟩
    exact ⟨ps', up P _ z q', t'⟩
  · have z := nd P _ q fun x => by cases x
    exact up P _ z (h.tbl P ps (k P _ q z) m)
def tLockD (t : TE) : TE := fun σ H Q => ∃ d kvs, H d = some (.dK kvs) ∧ ∀ o, t σ (upd H d (.frz o (.dK kvs))) fun v H' => H' d = some (.frz o (.dK kvs)) ∧ Q v (upd H' d (.dK kvs))
theorem pe_lockD {X : Cx} {e : Expr} {t : TE} (h : PE X e t) : PE X e (tLockD t) := ⟨fun pins s σ H Q I ⟨d, kvs, e, q⟩ => (pe_lock h).run pins s σ H Q I ⟨d, .dK kvs, e, True.intro, q⟩⟩
def tLockS (t : TS) : TS := fun D σ H => ∃ d kvs, H d = some (.dK kvs) ∧ ∀ od, t ⟨fun σ' H' => H' d = some (.frz od (.dK kvs)) ∧ D.nx σ' (upd H' d (.dK kvs)), fun v H' => H' d = some (.frz od (.dK kvs)) ∧ D.rt v (upd H' d (.dK kvs)), fun σ' H' => H' d = some (.frz od (.dK kvs)) ∧ D.bk σ' (upd H' d (.dK kvs)), fun σ' H' => H' d = some (.frz od (.dK kvs)) ∧ D.ct σ' (upd H' d (.dK kvs))⟩ σ (upd H d (.frz od (.dK kvs)))
theorem ps_lockD {X : Cx} {st : Stmt} {t : TS} (h : PS X st t) : PS X st (tLockS t) := ⟨fun pins s σ H D I ⟨d, kvs, e, q⟩ => (ps_lock h).run pins s σ H D I ⟨d, .dK kvs, e, True.intro, q⟩⟩
/-! ### rules -/
section
variable {X : Cx} {o i e f value : Expr} {apos cpos pos pos' : Pos} {td ty tx tv : TE}
def tDG2 (td ty tx : TE) : TE := fun σ H Q => td σ H fun x H1 => ∃ a kvs, x = .ref a ∧ dctF H1 a = some kvs ∧ ty σ H1 fun y H2 => tx σ H2 fun z H3 => ∃ n kvs, y = .str n ∧ dctF H3 a = some kvs ∧ Q ((valV kvs (.inr n)).getD z) H3
theorem pe_dget2F (hu : X.A.units + 1 < cLine) (ho : PE X o td) (he : PE X e ty) (hf : PE X f tx) (m : M2 X o "get" apos e f cpos) : PE X (.Call (.Attribute o "get" apos) [e, f] [] cpos) (tDG2 td ty tx) := by
  refine ⟨fun pins s σ H Q I h => ?_⟩
  refine wpAny_Call_method m.base m.few m.line PySem.F.plainAttrs_dict PySem.F.slot_dict_get PySem.F.type_dict_get (thn (ho.run pins s σ H _ I h) fun u s1 ⟨x, H1, I1, rx, a, kvs, ex, d, q1⟩ => ?_)
  subst ex
  obtain rfl : u = Value.ref a := rx
  obtain ⟨t1, t2, _⟩ := isD_at I1 (.inl ⟨kvs, dctF_rd d⟩)
  refine ⟨t1, t2, ?_⟩
  rw [m.trees]
  refine Calls.callWith_builtin rfl (Calls.evalArgs_plain (Calls.spliced_cons (thn (he.run pins s1 σ H1 _ I1 q1) fun iv s2 ⟨y, H2, I2, ry, q2⟩ => Calls.spliced_cons (thn (hf.run pins s2 σ H2 _ I2 q2) fun fv s3 ⟨z, H3, I3, rz, n, kvs', ey, g, q3⟩ => Calls.spliced_nil ?_))))
  subst ey
  exact d_get2 hu I3 (.inl ⟨kvs', .inr n, dctF_rd g, rfl, rfl⟩) ry rz fun w' s4 I4 rw' => ⟨_, H3, I4, rw', q3⟩
/-- d[y] -/
def tDGF (td ty : TE) : TE := fun σ H Q => td σ H fun x H1 => ty σ H1 fun y H2 => ∃ a n kvs v, x = .ref a ∧ y = .str n ∧ dctF H2 a = some kvs ∧ valV kvs (.inr n) = some v ∧ Q v H2
theorem pe_dgetF (hu : X.A.units + 1 < cLine) (ho : PE X o td) (hi : PE X i ty) (hs : NoSl i) : PE X (.Subscript o i pos) (tDGF td ty) := by
  refine ⟨fun pins s σ H Q I h => ?_⟩
  refine subD_of PySem.F.slot_dict_getitem.lookup hs (thn (ho.run pins s σ H _ I h) fun u s1 ⟨x, H1, I1, rx, q1⟩ => thn (hi.run pins s1 σ H1 _ I1 q1) fun iv s2 ⟨y, H2, I2, ry, a, n, kvs, v, ex, ey, g, l, q2⟩ => ?_)
  subst ex ey
  obtain rfl : u = Value.ref a := rx
  have g' : DGet H2 a (.str n) (some v) := .inl ⟨kvs, .inr n, dctF_rd g, rfl, l.symm⟩
  exact ⟨dict_typeIs I2 g', d_getItem hu I2 g' ry fun w' s3 I3 rw' => ⟨v, H2, I3, rw', q2⟩⟩
/-- y in d, y not in d -/
def tDInF (ty td : TE) : TE := fun σ H Q => ty σ H fun y H1 => td σ H1 fun x H2 => ∃ a n kvs, x = .ref a ∧ y = .str n ∧ dctF H2 a = some kvs ∧ Q (.bl (valV kvs (.inr n)).isSome) H2
def tDNInF (ty td : TE) : TE := fun σ H Q => ty σ H fun y H1 => td σ H1 fun x H2 => ∃ a n kvs, x = .ref a ∧ y = .str n ∧ dctF H2 a = some kvs ∧ Q (.bl (!(valV kvs (.inr n)).isSome)) H2
theorem pc_dinF (hu : X.A.units + 1 < cLine) (hi : PE X i ty) (ho : PE X o td) : PC X .In i o (tDInF ty td) := by
  refine ⟨fun pins s σ H Q I h => ?_⟩
  refine thn (hi.run pins s σ H _ I h) fun iv s1 ⟨y, H1, I1, ry, q1⟩ => thn (ho.run pins s1 σ H1 _ I1 q1) fun u s2 ⟨x, H2, I2, rx, a, n, kvs, ex, ey, g, q2⟩ => ?_
  subst ex ey
  obtain rfl : u = Value.ref a := rx
  exact d_in hu I2 (.inl ⟨kvs, .inr n, dctF_rd g, rfl, rfl⟩) ry fun s3 I3 => ⟨.bl _, H2, I3, rfl, q2⟩
theorem pc_dnotinF (hu : X.A.units + 1 < cLine) (hi : PE X i ty) (ho : PE X o td) : PC X .NotIn i o (tDNInF ty td) := by
  refine ⟨fun pins s σ H Q I h => ?_⟩
  refine thn (hi.run pins s σ H _ I h) fun iv s1 ⟨y, H1, I1, ry, q1⟩ => thn (ho.run pins s1 σ H1 _ I1 q1) fun u s2 ⟨x, H2, I2, rx, a, n, kvs, ex, ey, g, q2⟩ => ?_
  subst ex ey
  obtain rfl : u = Value.ref a := rx
  exact d_notIn hu I2 (.inl ⟨kvs, .inr n, dctF_rd g, rfl, rfl⟩) ry fun s3 I3 => ⟨.bl _, H2, I3, rfl, q2⟩
/-- d[y] = v -/
def sDPutF (td ty tv : TE) : TS := fun D σ H => tv σ H fun v H1 => td σ H1 fun x H2 => ty σ H2 fun y H3 => ∃ a n kvs, x = .ref a ∧ y = .str n ∧ H3 a = some (.dK kvs) ∧ kvs.length < sizeLine ∧ ∀ H4, Ext [a] H3 H4 → H4 a = some (.dK (putK kvs (.inr n) v)) → D.nx σ H4
theorem ps_dputF (hu : X.A.units + 1 < cLine) (ho : PE X o td) (hi : PE X i ty) (hv : PE X value tv) (hs : swapsWith value (some (.Subscript o i pos')) pos.line X.env = pure false) :
    PS X (.Assign [.Subscript o i pos'] value pos) (sDPutF td ty tv) := by
  refine ⟨fun pins s σ H D I h => ?_⟩
  refine wpAny_Assign_Subscript (thn (hv.run pins s σ H _ I h) fun r s1 ⟨v, H1, I1, rv, q1⟩ => thn (ho.run pins s1 σ H1 _ I1 q1) fun u s2 ⟨x, H2, I2, rx, q2⟩ => thn (hi.run pins s2 σ H2 _ I2 q2) fun iv s3 ⟨y, H3, I3, ry, a, n, kvs, ex, ey, g, hz, q3⟩ => ?_) hs
  subst ex ey
  obtain rfl : u = Value.ref a := rx
  exact d_setItem hu I3 (.inl ⟨kvs, .inr n, g, rfl, hz, rfl⟩) ry rv fun s4 I4 => ⟨σ, _, I4, q3 _ (Ext.setD List.mem_cons_self g) upd_same⟩
/-- {} -/
def tDNewF : TE := fun _ H Q => ∀ p H2, H p = none → Ext [] H H2 → H2 p = some (.dK []) → Q (.ref p) H2
theorem pe_dnewF : PE X (.Dict [] [] pos) tDNewF := ⟨fun pins s σ H Q I h => pe_dnewK.run pins s σ H Q I fun p hp => h p _ hp (Ext.new hp) upd_same⟩
/-- sorted(d) -/
def rSortD : List V → Hp → VK → Prop := fun xs H Q => ∃ (a : Addr) (kvs : List (Key × V)), xs = [.ref a] ∧ dctF H a = some kvs ∧ ∃ ks : List Str, kvs.map (·.1) = ks.map Sum.inr ∧ ks.length < 64 ∧ ∀ ys p H2, ys.Perm ks → sortedS ys = true → H p = none → Ext [] H H2 → H2 p = some (.lst (ys.map V.str)) → Q (.ref p) H2
theorem call_sortedF (hcalm : X.calm = true) : CallR X (.builtin "sorted") rSortD := fun pins s σ H xs us Q I r ⟨a, kvs, e, h, ks, hk, hl, q⟩ =>
  call_sortedD hcalm pins s σ H xs us Q I r ⟨a, kvs, ks, e, dctF_rd h, hk, hl, fun ys p h1 h2 h3 => q ys p _ h1 h2 h3 (Ext.new h3) upd_same⟩
end
/-! ### dict comprehensions -/
def DcB (J : It) (g : TG) (tt : TT) (tk tv : TE) (vs : List Nat) (σ : L2.St) (H1 : Hp) (Q : VK) : Prop := ∀ D, H1 D = none → ∃ W : Nat → Nat → Hp → Prop, (∃ m, W 0 m (upd H1 D (.dK []))) ∧ ∀ i m H, W i m H →
  (J.stop i H ∧ Q (.ref D) H) ∨ (J.go i H ∧ ∃ Nx : Hp → Prop, (∀ H', Nx H' → ∃ m', m' < m ∧ W (i + 1) m' H') ∧ ∀ x H', J.yld i H x H' → g x (wipe σ vs) H' fun σ2 H2 => wipe σ2 vs = wipe σ vs ∧ tt σ2 H2 fun b H3 =>
    if b = true then tk σ2 H3 fun y H4 => tv σ2 H4 fun z H5 => ∃ kvs k, y = kV k ∧ H5 D = some (.dK kvs) ∧ kvs.length < sizeLine ∧ Nx (upd H5 D (.dK (putK kvs k z))) else Nx H3)
def tDcF (wi : TI) (g : TG) (tt : TT) (tk tv : TE) (vs : List Nat) : TE := fun σ H Q => wi σ H fun J H1 => DcB J g tt tk tv vs σ H1 Q
theorem pe_dcF {X : Cx} {kx vx tg iter : Expr} {ifs : List Expr} {scope : Scope} {own : List (Str × Nat)} {pos : Pos} {wi : TI} {g : TG} {tt : TT} {tk tv : TE} (hc : X.calm = true) (hN : X.N.Nodup) (hi : PI X tg iter wi) (ok : BlkOk X.N X.env.scope scope own)
    (hg : ∀ (s : Shared) (H : Hp) (C : Addr) (cl : List (Str × Addr)) (fp : List Addr), PG (X.blk s H scope (compEnvC scope cl C X.env) fp) tg g) (ht : ∀ (s : Shared) (H : Hp) (C : Addr) (cl : List (Str × Addr)) (fp : List Addr), PTs (X.blk s H scope (compEnvC scope cl C X.env) fp) ifs tt)
    (hk : ∀ (s : Shared) (H : Hp) (C : Addr) (cl : List (Str × Addr)) (fp : List Addr), PE (X.blk s H scope (compEnvC scope cl C X.env) fp) kx tk)
    (he : ∀ (s : Shared) (H : Hp) (C : Addr) (cl : List (Str × Addr)) (fp : List Addr), PE (X.blk s H scope (compEnvC scope cl C X.env) fp) vx tv) (hs : ∀ x, foldedSetIterable iter X.env x = pure x := by intro _; rfl) :
    PE X (.DictComp kx vx [⟨tg, iter, ifs, 0⟩] scope pos) (tDcF wi g tt tk tv (own.map (·.2))) := pe_dc hc hN hi ok hg ht hk he hs
/-- the dict at D holds what was made so far -/
def DcN (D : Addr) (Pv : Nat → List (Key × V) → Hp → Prop) (i : Nat) (H : Hp) : Prop := ∃ ks, ks.length ≤ i ∧ H D = some (.dK ks) ∧ Pv i ks H
theorem dc_end {D : Addr} {Pv : Nat → List (Key × V) → Hp → Prop} {i : Nat} {ks : List (Key × V)} {k : Key} {y : V} {H : Hp} (hD : ∀ i ks H zs o, H D = some (.dK zs) → Pv i ks H → Pv i ks (upd H D (.dK o))) (hi : i < 100000) (hl : ks.length ≤ i) (h1 : H D = some (.dK ks)) (h2 : Pv (i + 1) (putK ks k y) H) :
    ∃ kvs k', kV k = kV k' ∧ H D = some (.dK kvs) ∧ kvs.length < sizeLine ∧ DcN D Pv (i + 1) (upd H D (.dK (putK kvs k' y))) :=
  ⟨ks, k, rfl, h1, Nat.lt_of_le_of_lt hl (Nat.lt_of_lt_of_le hi (by decide)), putK ks k y, by have := length_putK ks k y; omega, upd_same, hD _ _ _ _ _ h1 h2⟩
section
variable {g g1 : TG} {tt tt1 : TT} {tk tv : TE} {vs vs1 : List Nat} {σ : L2.St} {H1 : Hp} {Q : VK}
theorem dc_go {J : It} {n : Nat} {G : Hp → Prop} {Y : Nat → Hp → V → Hp → Prop} (w : Walk J n G Y) (Pv : Addr → Nat → List (Key × V) → Hp → Prop) (h0 : ∀ D, H1 D = none → Pv D 0 [] (upd H1 D (.dK [])))
    (hG : ∀ D i ks H, Pv D i ks H → G H)
    (hs : ∀ D i x ks H H', H1 D = none → i < n → Pv D i ks H → ks.length ≤ i → H D = some (.dK ks) → Y i H x H' → g x (wipe σ vs) H' fun σ2 H2 => wipe σ2 vs = wipe σ vs ∧ tt σ2 H2 fun b H3 =>
      if b = true then tk σ2 H3 fun y H4 => tv σ2 H4 fun z H5 => ∃ kvs k, y = kV k ∧ H5 D = some (.dK kvs) ∧ kvs.length < sizeLine ∧ DcN D (Pv D) (i + 1) (upd H5 D (.dK (putK kvs k z))) else DcN D (Pv D) (i + 1) H3)
    (hd : ∀ D ks H, H1 D = none → Pv D n ks H → H D = some (.dK ks) → ks.length ≤ n → Q (.ref D) H) : DcB J g tt tk tv vs σ H1 Q := fun D hD => by
  refine ⟨fun i m H => m = n - i ∧ i ≤ n ∧ DcN D (Pv D) i H, ⟨n, by simp, Nat.zero_le _, [], Nat.le_refl _, upd_same, h0 D hD⟩, ?_⟩
  rintro i m H ⟨rfl, hi, ks, hl, e, p⟩
  have q := hG D i ks H p
  by_cases hlt : i < n
  · exact .inr ⟨w.goes i H hlt q, DcN D (Pv D) (i + 1), fun H' p' => ⟨n - (i + 1), by omega, rfl, hlt, p'⟩, fun x H' y => hs D i x ks H H' hD hlt p hl e (w.yields i H x H' hlt q y)⟩
  · have e' : i = n := by omega
    subst e'
    exact .inl ⟨w.stops H q, hd D ks H hD p e hl⟩
end
/-! ### dict comprehensions with two clauses, no tests -/
def Dc2I (J1 : It) (g1 : TG) (tt1 : TT) (tk tv : TE) (vs1 : List Nat) (D : Addr) (Nx : Hp → Prop) (σ2 : L2.St) (H4 : Hp) : Prop := ∃ W1 : Nat → Nat → Hp → Prop, (∃ m, W1 0 m H4) ∧ ∀ j k H, W1 j k H →
  (J1.stop j H ∧ Nx H) ∨ (J1.go j H ∧ ∃ Nx1 : Hp → Prop, (∀ H', Nx1 H' → ∃ k', k' < k ∧ W1 (j + 1) k' H') ∧ ∀ x H', J1.yld j H x H' → g1 x (wipe σ2 vs1) H' fun σ3 H5 => wipe σ3 vs1 = wipe σ2 vs1 ∧ tt1 σ3 H5 fun b H6 =>
    if b = true then tk σ3 H6 fun y H7 => tv σ3 H7 fun z H8 => ∃ kvs k, y = kV k ∧ H8 D = some (.dK kvs) ∧ kvs.length < sizeLine ∧ Nx1 (upd H8 D (.dK (putK kvs k z))) else Nx1 H6)
def Dc2B (J : It) (g : TG) (tt : TT) (wi1 : TI) (g1 : TG) (tt1 : TT) (tk tv : TE) (vs vs1 : List Nat) (σ : L2.St) (H1 : Hp) (Q : VK) : Prop := ∀ D, H1 D = none → ∃ W : Nat → Nat → Hp → Prop, (∃ m, W 0 m (upd H1 D (.dK []))) ∧ ∀ i m H, W i m H →
  (J.stop i H ∧ Q (.ref D) H) ∨ (J.go i H ∧ ∃ Nx : Hp → Prop, (∀ H', Nx H' → ∃ m', m' < m ∧ W (i + 1) m' H') ∧ ∀ x H', J.yld i H x H' → g x (wipe σ vs) H' fun σ2 H2 => wipe σ2 vs = wipe σ vs ∧ tt σ2 H2 fun b H3 =>
    if b = true then wi1 σ2 H3 fun J1 H4 => Dc2I J1 g1 tt1 tk tv vs1 D Nx σ2 H4 else Nx H3)
def tDc2F (wi : TI) (g : TG) (tt : TT) (wi1 : TI) (g1 : TG) (tt1 : TT) (tk tv : TE) (vs vs1 : List Nat) : TE := fun σ H Q => wi σ H fun J H1 => Dc2B J g tt wi1 g1 tt1 tk tv vs vs1 σ H1 Q
theorem pe_dc2F {X : Cx} {kx vx tg iter tg1 iter1 : Expr} {ifs ifs1 : List Expr} {scope : Scope} {own : List (Str × Nat)} {vs1 : List Nat} {pos : Pos} {wi wi1 : TI} {g g1 : TG} {tt tt1 : TT} {tk tv : TE} (hc : X.calm = true) (hN : X.N.Nodup) (hi : PI X tg iter wi) (ok : BlkOk X.N X.env.scope scope own) (hv : ∀ i ∈ vs1, i ∈ own.map (·.2))
    (hg : ∀ (s : Shared) (H : Hp) (C : Addr) (cl : List (Str × Addr)) (fp : List Addr), PG (X.blk s H scope (compEnvC scope cl C X.env) fp) tg g) (ht : ∀ (s : Shared) (H : Hp) (C : Addr) (cl : List (Str × Addr)) (fp : List Addr), PTs (X.blk s H scope (compEnvC scope cl C X.env) fp) ifs tt)
    (hi1 : ∀ (s : Shared) (H : Hp) (C : Addr) (cl : List (Str × Addr)) (fp : List Addr), PI (X.blk s H scope (compEnvC scope cl C X.env) fp) tg1 iter1 wi1)
    (hg1 : ∀ (s : Shared) (H : Hp) (C : Addr) (cl : List (Str × Addr)) (fp : List Addr), PG (X.blk s H scope (compEnvC scope cl C X.env) fp) tg1 g1) (ht1 : ∀ (s : Shared) (H : Hp) (C : Addr) (cl : List (Str × Addr)) (fp : List Addr), PTs (X.blk s H scope (compEnvC scope cl C X.env) fp) ifs1 tt1)
    (hk : ∀ (s : Shared) (H : Hp) (C : Addr) (cl : List (Str × Addr)) (fp : List Addr), PE (X.blk s H scope (compEnvC scope cl C X.env) fp) kx tk)
    (he : ∀ (s : Shared) (H : Hp) (C : Addr) (cl : List (Str × Addr)) (fp : List Addr), PE (X.blk s H scope (compEnvC scope cl C X.env) fp) vx tv) (hs : ∀ x, foldedSetIterable iter X.env x = pure x := by intro _; rfl) (hs1 : ∀ env x, foldedSetIterable iter1 env x = pure x := by intro _ _; rfl) :
    PE X (.DictComp kx vx [⟨tg, iter, ifs, 0⟩, ⟨tg1, iter1, ifs1, 0⟩] scope pos) (tDc2F wi g tt wi1 g1 tt1 tk tv (own.map (·.2)) vs1) := pe_dc2 hc hN hi ok hv hg ht hi1 hg1 ht1 hk he hs hs1
theorem ps_setDc2F {X : Cx} {i : Nat} {y : Str} {py : Pos} {kx vx tg iter tg1 iter1 : Expr} {ifs ifs1 : List Expr} {scope : Scope} {own : List (Str × Nat)} {vs1 : List Nat} {pos spos : Pos} {wi wi1 : TI} {g g1 : TG} {tt tt1 : TT} {tk tv : TE} (hc : X.calm = true) (hN : X.N.Nodup) (hy : X.N[i]? = some y) (hyl : X.env.scope.names.lookup y = some .local)
    (hsw : swapsWith (.DictComp kx vx [⟨tg, iter, ifs, 0⟩, ⟨tg1, iter1, ifs1, 0⟩] scope pos) (some (.Name y py)) spos.line X.env = pure true) (hi : PI X tg iter wi) (ok : BlkOk X.N X.env.scope scope own) (hv : ∀ i ∈ vs1, i ∈ own.map (·.2))
    (hg : ∀ (s : Shared) (H : Hp) (C : Addr) (cl : List (Str × Addr)) (fp : List Addr), PG (X.blk s H scope (compEnvC scope cl C X.env) fp) tg g) (ht : ∀ (s : Shared) (H : Hp) (C : Addr) (cl : List (Str × Addr)) (fp : List Addr), PTs (X.blk s H scope (compEnvC scope cl C X.env) fp) ifs tt)
    (hi1 : ∀ (s : Shared) (H : Hp) (C : Addr) (cl : List (Str × Addr)) (fp : List Addr), PI (X.blk s H scope (compEnvC scope cl C X.env) fp) tg1 iter1 wi1)
    (hg1 : ∀ (s : Shared) (H : Hp) (C : Addr) (cl : List (Str × Addr)) (fp : List Addr), PG (X.blk s H scope (compEnvC scope cl C X.env) fp) tg1 g1) (ht1 : ∀ (s : Shared) (H : Hp) (C : Addr) (cl : List (Str × Addr)) (fp : List Addr), PTs (X.blk s H scope (compEnvC scope cl C X.env) fp) ifs1 tt1)
    (hk : ∀ (s : Shared) (H : Hp) (C : Addr) (cl : List (Str × Addr)) (fp : List Addr), PE (X.blk s H scope (compEnvC scope cl C X.env) fp) kx tk)
    (he : ∀ (s : Shared) (H : Hp) (C : Addr) (cl : List (Str × Addr)) (fp : List Addr), PE (X.blk s H scope (compEnvC scope cl C X.env) fp) vx tv) (hs : ∀ x, foldedSetIterable iter X.env x = pure x := by intro _; rfl) (hs1 : ∀ env x, foldedSetIterable iter1 env x = pure x := by intro _ _; rfl) :
    PS X (.Assign [.Name y py] (.DictComp kx vx [⟨tg, iter, ifs, 0⟩, ⟨tg1, iter1, ifs1, 0⟩] scope pos) spos) (tAsg (tDc2F wi g tt wi1 g1 tt1 tk tv (own.map (·.2)) vs1) (gName i)) := ps_setDc2 hc hN hy hyl hsw hi ok hv hg ht hi1 hg1 ht1 hk he hs hs1
theorem ps_setDcF {X : Cx} {i : Nat} {y : Str} {py : Pos} {kx vx tg iter : Expr} {ifs : List Expr} {scope : Scope} {own : List (Str × Nat)} {pos spos : Pos} {wi : TI} {g : TG} {tt : TT} {tk tv : TE} (hc : X.calm = true) (hN : X.N.Nodup) (hy : X.N[i]? = some y) (hyl : X.env.scope.names.lookup y = some .local)
    (hsw : swapsWith (.DictComp kx vx [⟨tg, iter, ifs, 0⟩] scope pos) (some (.Name y py)) spos.line X.env = pure true) (hi : PI X tg iter wi) (ok : BlkOk X.N X.env.scope scope own)
    (hg : ∀ (s : Shared) (H : Hp) (C : Addr) (cl : List (Str × Addr)) (fp : List Addr), PG (X.blk s H scope (compEnvC scope cl C X.env) fp) tg g) (ht : ∀ (s : Shared) (H : Hp) (C : Addr) (cl : List (Str × Addr)) (fp : List Addr), PTs (X.blk s H scope (compEnvC scope cl C X.env) fp) ifs tt)
    (hk : ∀ (s : Shared) (H : Hp) (C : Addr) (cl : List (Str × Addr)) (fp : List Addr), PE (X.blk s H scope (compEnvC scope cl C X.env) fp) kx tk)
    (he : ∀ (s : Shared) (H : Hp) (C : Addr) (cl : List (Str × Addr)) (fp : List Addr), PE (X.blk s H scope (compEnvC scope cl C X.env) fp) vx tv) (hs : ∀ x, foldedSetIterable iter X.env x = pure x := by intro _; rfl) :
    PS X (.Assign [.Name y py] (.DictComp kx vx [⟨tg, iter, ifs, 0⟩] scope pos) spos) (tAsg (tDcF wi g tt tk tv (own.map (·.2))) (gName i)) := ps_setDc hc hN hy hyl hsw hi ok hg ht hk he hs
section
variable {g g1 : TG} {tt tt1 : TT} {tk tv : TE} {wi1 : TI} {vs vs1 : List Nat} {σ : L2.St} {H1 H4 : Hp} {Q : VK}
theorem dc2_in {J : It} {n : Nat} {G : Hp → Prop} {Y : Nat → Hp → V → Hp → Prop} {D : Addr} {Nx : Hp → Prop} (w : Walk J n G Y) (Pv : Nat → Hp → Prop) (h0 : Pv 0 H4) (hG : ∀ j H, Pv j H → G H)
    (hs : ∀ j x H H', j < n → Pv j H → Y j H x H' → g1 x (wipe σ vs1) H' fun σ3 H5 => wipe σ3 vs1 = wipe σ vs1 ∧ tt1 σ3 H5 fun b H6 =>
      if b = true then tk σ3 H6 fun y H7 => tv σ3 H7 fun z H8 => ∃ kvs k, y = kV k ∧ H8 D = some (.dK kvs) ∧ kvs.length < sizeLine ∧ Pv (j + 1) (upd H8 D (.dK (putK kvs k z))) else Pv (j + 1) H6)
    (hd : ∀ H, Pv n H → Nx H) : Dc2I J g1 tt1 tk tv vs1 D Nx σ H4 := by
  refine ⟨fun i m H => m = n - i ∧ i ≤ n ∧ Pv i H, ⟨n, rfl, Nat.zero_le _, h0⟩, ?_⟩
  rintro i m H ⟨rfl, hi, p⟩
  have q := hG i H p
  by_cases hlt : i < n
  · exact .inr ⟨w.goes i H hlt q, Pv (i + 1), fun H' p' => ⟨n - (i + 1), by omega, rfl, hlt, p'⟩, fun x H' y => hs i x H H' hlt p (w.yields i H x H' hlt q y)⟩
  · have e' : i = n := by omega
    subst e'
    exact .inl ⟨w.stops H q, hd H p⟩
theorem dc2_go {J : It} {n : Nat} {G : Hp → Prop} {Y : Nat → Hp → V → Hp → Prop} (w : Walk J n G Y) (Pv : Addr → Nat → Hp → Prop) (h0 : ∀ D, H1 D = none → Pv D 0 (upd H1 D (.dK [])))
    (hG : ∀ D i H, Pv D i H → G H)
    (hs : ∀ D i x H H', H1 D = none → i < n → Pv D i H → Y i H x H' → g x (wipe σ vs) H' fun σ2 H2 => wipe σ2 vs = wipe σ vs ∧ tt σ2 H2 fun b H3 => if b = true then wi1 σ2 H3 fun J1 H4 => Dc2I J1 g1 tt1 tk tv vs1 D (Pv D (i + 1)) σ2 H4 else Pv D (i + 1) H3)
    (hd : ∀ D H, H1 D = none → Pv D n H → Q (.ref D) H) : Dc2B J g tt wi1 g1 tt1 tk tv vs vs1 σ H1 Q := fun D hD => by
  refine ⟨fun i m H => m = n - i ∧ i ≤ n ∧ Pv D i H, ⟨n, rfl, Nat.zero_le _, h0 D hD⟩, ?_⟩
  rintro i m H ⟨rfl, hi, p⟩
  have q := hG D i H p
  by_cases hlt : i < n
  · exact .inr ⟨w.goes i H hlt q, Pv D (i + 1), fun H' p' => ⟨n - (i + 1), by omega, rfl, hlt, p'⟩, fun x H' y => hs D i x H H' hD hlt p (w.yields i H x H' hlt q y)⟩
  · have e' : i = n := by omega
    subst e'
    exact .inl ⟨w.stops H q, hd D H hD p⟩
end
end Sq
set_option Elab.async false
set_option linter.all false
set_option maxRecDepth 100000
set_option maxHeartbeats 2000000
namespace Sq
open PySem PySem.Spec PyProof.Rows L2 RZ
/-! ### readings that are monotone -/
def upE (t : TE) : TE := fun σ H Q => ∃ Q0 : VK, (∀ v H', Q0 v H' → Q v H') ∧ t σ H Q0
def upA (t : TA) : TA := fun σ H Q => ∃ Q0 : List V → Hp → Prop, (∀ v H', Q0 v H' → Q v H') ∧ t σ H Q0
section
variable {X : Cx}
theorem PE.up {e : Expr} {t : TE} (h : PE X e t) : PE X e (upE t) := ⟨fun pins s σ H Q I ⟨Q0, m, q⟩ => thn (h.run pins s σ H Q0 I q) fun _ _ ⟨v, H', I', r, q⟩ => ⟨v, H', I', r, m _ _ q⟩⟩
theorem PA.up {es : List Expr} {t : TA} (h : PA X es t) : PA X es (upA t) := ⟨fun pos pins s σ H Q I ⟨Q0, m, q⟩ => thn (h.run pos pins s σ H Q0 I q) fun _ _ ⟨v, H', I', r, q⟩ => ⟨v, H', I', r, m _ _ q⟩⟩
/-- a reading that is not to be run yet -/
def hideS (t : TS) : TS := t
theorem PSs.hide {b : List Stmt} {t : TS} (h : PSs X b t) : PSs X b (hideS t) := h
/-- zip of two tuples -/
def iZipF (K : PySem.W.Frag) (ta : TA) : TI := fun σ H R => ta σ H fun vs H1 => ∃ a b xs ys, vs = [.ref a, .ref b] ∧ tupF K H1 a = some xs ∧ tupF K H1 b = some ys ∧ R (ItzT K a b) H1
theorem pi_zipF {e e2 : Expr} {ta : TA} {p pos tpos : Pos} {elts : List Expr} {kk : Nat} (hg : Gl X "zip") (hm : X.mg "zip" = none) (ha : PA X [e, e2] ta)
    (hs : starEach [e, e2] X.env = (false, eval e X.env) :: starEach [e2] X.env := by rfl) (hpl : (backTo pos (starEach [e2] X.env)).any (·.1) = false := by rfl) :
    PI X (.Tuple elts kk tpos) (.Call (.Name "zip" p) [e, e2] [] pos) (iZipF X.K ta) := by
  refine ⟨fun pins s σ H R I h => (pi_zipA hg hm (PA.up ha) hs hpl).run pins s σ H R I ⟨_, fun vs H1 q => ?_, h⟩⟩
  obtain ⟨a, b, xs, ys, e, h1, h2, r⟩ := q
  exact ⟨a, b, xs, ys, e, .inr ⟨tupF_sq h1, tupF_sq h2, r⟩⟩
/-- the keys of a locked dict -/
def iKeysF (td : TE) : TI := fun σ H R => td σ H fun x H1 => ∃ d o kvs, x = .ref d ∧ H1 d = some (.frz o (.dK kvs)) ∧ R (Itk d o kvs) H1
theorem pi_keysF {tg e : Expr} {td : TE} (he : PE X e td) : PI X tg e (iKeysF td) := by
  refine ⟨fun pins s σ H R I h => (pi_keys (PE.up he)).run pins s σ H R I ⟨_, fun v H1 q => ?_, h⟩⟩
  obtain ⟨d, o, kvs, e, h1, r⟩ := q
  exact ⟨d, o, e, .inl ⟨kvs, h1, r⟩⟩
/-- x in t, x not in t: data of tuples -/
def rInT (K : PySem.W.Frag) (neg : Bool) : R2 := fun x y H Q => ∃ d ds, Td K H x d ∧ Td K H y (.tuple ds) ∧ SeqAt.shaped d = true ∧ SeqAt.shaped (.tuple ds) = true ∧ Q (.bl (if neg then !ds.any fun z => PyData.eqv z d else ds.any fun z => PyData.eqv z d)) H
theorem room_in_sh {A : Around} {d : PyData} {ds : List PyData} (h : SeqAt.shaped d = true) (hu : A.units + 65 < cLine) : A.units + 1 + min (PyData.depthAll ds) d.depth < cLine := by
  have h1 := SeqAt.depth_of_shaped h
  have h2 : min (PyData.depthAll ds) d.depth ≤ d.depth := Nat.min_le_right _ _
  omega
theorem op_inT (hu : X.A.units + 65 < cLine) : OpR X (compareOp .In) (rInT X.K false) := by
  intro pins s σ H x y v u Q I rx ry h
  obtain ⟨d, ds, hd, he, sd, se, q⟩ := h
  obtain ⟨as, r1⟩ := Dp.reads I d x v hd.dp rx
  obtain ⟨bs, r2⟩ := Dp.reads I (.tuple ds) y u he.dp ry
  exact SeqAt.in_tuple_reads r2 r1 (SeqAt.canLay_of_shaped se) (SeqAt.canLay_of_shaped sd) (room_in_sh sd hu) ⟨.bl _, H, I, rfl, q⟩
theorem op_ninT (hu : X.A.units + 65 < cLine) : OpR X (compareOp .NotIn) (rInT X.K true) := by
  intro pins s σ H x y v u Q I rx ry h
  obtain ⟨d, ds, hd, he, sd, se, q⟩ := h
  obtain ⟨as, r1⟩ := Dp.reads I d x v hd.dp rx
  obtain ⟨bs, r2⟩ := Dp.reads I (.tuple ds) y u he.dp ry
  exact SeqAt.notIn_tuple_reads r2 r1 (SeqAt.canLay_of_shaped se) (SeqAt.canLay_of_shaped sd) (room_in_sh sd hu) ⟨.bl _, H, I, rfl, q⟩
/-- x in t: texts -/
def rInS (K : PySem.W.Frag) (neg : Bool) : R2 := fun x y H Q => ∃ (n : Str) (p : Addr) (ns : List Str), x = .str n ∧ y = .ref p ∧ tupF K H p = some (ns.map V.str) ∧ Q (.bl (if neg then !decide (n ∈ ns) else decide (n ∈ ns))) H
theorem inV_strs (n : Str) : ∀ ns : List Str, inV (.str n) (ns.map V.str) = decide (n ∈ ns)
  | [] => by simp [inV]
  | x :: ns => by
    have ih := inV_strs n ns
    unfold inV at ih ⊢
    rw [List.map_cons, List.any_cons, ih]
    have e : eqV (.str x) (.str n) = decide (n = x) := by
      by_cases h : n = x
      · subst h; simp [eqV]
      · simp [eqV, h, Ne.symm h]
    rw [e]
    by_cases h : n = x <;> simp [h]
theorem flat_strs : ∀ ns : List Str, (ns.map V.str).all flatV = true
  | [] => rfl
  | _ :: ns => by rw [List.map_cons, List.all_cons, flat_strs ns]; rfl
theorem op_inS : OpR X (compareOp .In) (rInS X.K false) := by
  intro pins s σ H x y v u Q I rx ry ⟨n, p, ns, e1, e2, h, q⟩
  subst e1 e2
  refine op_in_seq pins s σ H _ _ v u Q I rx ry ⟨p, ns.map V.str, rfl, .inr (tupF_sq h), rfl, flat_strs ns, ?_⟩
  rw [inV_strs]; exact q
/-- xs == ys, xs != ys of lists of data -/
def rEqLF (K : PySem.W.Frag) (neg : Bool) : R2 := fun x y H Q => ∃ a b xs ys, x = .ref a ∧ y = .ref b ∧ H a = some (.lst xs) ∧ H b = some (.lst ys) ∧ ∃ ds es, TdAll K H xs ds ∧ TdAll K H ys es ∧ SeqAt.shaped (.list ds) = true ∧ SeqAt.shaped (.list es) = true ∧ Q (.bl (if neg then !PyData.eqvAll ds es else PyData.eqvAll ds es)) H
theorem op_eqLF (hu : X.A.units + 64 < cLine) : OpR X (compareOp .Eq) (rEqLF X.K false) := fun pins s σ H x y v u Q I rx ry ⟨a, b, xs, ys, e1, e2, h1, h2, ds, es, t1, t2, h3, h4, q⟩ => by
  subst e1 e2
  refine op_eqD hu pins s σ H _ _ v u Q I rx ry ⟨.list ds, .list es, .lst (SqL.of h1) t1.dp, .lst (SqL.of h2) t2.dp, h3, h4, ?_⟩
  simpa [PyData.eqv] using q
theorem op_neLF (hu : X.A.units + 64 < cLine) : OpR X (compareOp .NotEq) (rEqLF X.K true) := fun pins s σ H x y v u Q I rx ry ⟨a, b, xs, ys, e1, e2, h1, h2, ds, es, t1, t2, h3, h4, q⟩ => by
  subst e1 e2
  refine op_neD hu pins s σ H _ _ v u Q I rx ry ⟨.list ds, .list es, .lst (SqL.of h1) t1.dp, .lst (SqL.of h2) t2.dp, h3, h4, ?_⟩
  simpa [PyData.eqv] using q
end
/-- l.index(x), texts -/
def rIndexS : V → List V → Hp → VK → Prop := fun x xs H Q => ∃ (a : Addr) (n : Str) (ns : List Str), x = .ref a ∧ xs = [.str n] ∧ H a = some (.lst (ns.map V.str)) ∧ ∃ j : Nat, ns[j]? = some n ∧ (∀ m, m < j → ns[m]? ≠ some n) ∧ Q (.int (j : Nat)) H
theorem eqV_str (x y : Str) : eqV (.str x) (.str y) = decide (y = x) := by
  by_cases h : y = x
  · subst h; simp [eqV]
  · simp [eqV, h, Ne.symm h]
theorem mt_indexS {X : Cx} : MtR X "list.index" rIndexS := fun pins s σ H x xs v us Q I rx rv ⟨a, n, ns, e1, e2, h, j, hj, hm, q⟩ => by
  subst e1 e2
  refine mt_index pins s σ H _ _ v us Q I rx rv ⟨a, ns.map V.str, .str n, j, .str n, rfl, rfl, SqL.of h, rfl, flat_strs ns, by rw [List.getElem?_map, hj]; rfl, by rw [eqV_str]; simp, fun m z hm' hz => ?_, q⟩
  rw [List.getElem?_map] at hz
  cases hk : ns[m]? with
  | none => rw [hk] at hz; cases hz
  | some y =>
    rw [hk] at hz
    cases hz
    rw [eqV_str]
    refine decide_eq_false fun e => hm m hm' ?_
    rw [hk, e]
/-! ### the same, the kit's code tables named -/
section
variable {X : Cx} (K : PySem.W.Frag)
theorem ix_tupK (hK : X.K = K := by rfl) : IxR X (rIxF K) := by subst hK; exact ix_tupF
theorem sl_tupK (hK : X.K = K := by rfl) : SlR X (rSlF K) := by subst hK; exact sl_tupF
theorem op_catK (hK : X.K = K := by rfl) : OpR X (binaryOp .Add) (rCatF K) := by subst hK; exact op_catF
theorem call_tupleK (hK : X.K = K := by rfl) : CallR X (.type "tuple") (rTupL K) := by subst hK; exact call_tupleL
theorem call_listK (hK : X.K = K := by rfl) : CallR X (.type "list") (rListT K) := by subst hK; exact call_listT
theorem call_lenK (hK : X.K = K := by rfl) : CallR X (.builtin "len") (rLenT K) := by subst hK; exact call_lenT
theorem op_eqK (hu : X.A.units + 64 < cLine) (hK : X.K = K := by rfl) : OpR X (compareOp .Eq) (rEqF K false) := by subst hK; exact op_eqF hu
theorem op_neK (hu : X.A.units + 64 < cLine) (hK : X.K = K := by rfl) : OpR X (compareOp .NotEq) (rEqF K true) := by subst hK; exact op_neF hu
theorem op_eqLK (hu : X.A.units + 64 < cLine) (hK : X.K = K := by rfl) : OpR X (compareOp .Eq) (rEqLF K false) := by subst hK; exact op_eqLF hu
theorem op_neLK (hu : X.A.units + 64 < cLine) (hK : X.K = K := by rfl) : OpR X (compareOp .NotEq) (rEqLF K true) := by subst hK; exact op_neLF hu
theorem op_inSK (hK : X.K = K := by rfl) : OpR X (compareOp .In) (rInS K false) := by subst hK; exact op_inS
theorem op_inTK (hu : X.A.units + 65 < cLine) (hK : X.K = K := by rfl) : OpR X (compareOp .In) (rInT K false) := by subst hK; exact op_inT hu
theorem op_ninTK (hu : X.A.units + 65 < cLine) (hK : X.K = K := by rfl) : OpR X (compareOp .NotIn) (rInT K true) := by subst hK; exact op_ninT hu
theorem pe_tupK {es : List Expr} {x1 : Nat} {pos : Pos} {t : TA} (h : PA X es t) (hK : X.K = K := by rfl) : PE X (.Tuple es x1 pos) (tTupF K t) := by subst hK; exact pe_tupF h
theorem pg_tupK {es : List Expr} {k : Nat} {pos : Pos} {t : TGs} {n : Nat} (hc : X.calm = true) (h : PGs X es t)
    (hn : (assignEach es X.env).length = n := by rfl) (hst : (assignEach es X.env).findIdx? (·.1) = none := by rfl) (hK : X.K = K := by rfl) : PG X (.Tuple es k pos) (gTupF K n t) := by subst hK; exact pg_tupF hc h hn hst
theorem pg_tupZ {es : List Expr} {k : Nat} {pos : Pos} {t : TGs} {n : Nat} (hc : X.calm = true) (h : PGs X es t)
    (hn : (assignEach es X.env).length = n := by rfl) (hst : (assignEach es X.env).findIdx? (·.1) = none := by rfl) (hK : X.K = K := by rfl) : PG X (.Tuple es k pos) (gTup K n t) := by subst hK; exact pg_tup hc h hn hst
theorem pi_tupK {tg l : Expr} {tl : TE} (hl : PE X l tl) (hK : X.K = K := by rfl) : PI X tg l (iTupF K tl) := by subst hK; exact pi_tupF hl
theorem pi_lstK {tg l : Expr} {tl : TE} (hl : PE X l tl) (hK : X.K = K := by rfl) : PI X tg l (iLstF tl K) := by subst hK; exact pi_lstF hl
theorem pi_enumK {e : Expr} {ta : TA} {p pos tpos : Pos} {elts : List Expr} {kk : Nat} (hg : Gl X "enumerate") (hm : X.mg "enumerate" = none) (ha : PA X [e] ta) (hs : starEach [e] X.env = [(false, eval e X.env)] := by rfl) (hK : X.K = K := by rfl) :
    PI X (.Tuple elts kk tpos) (.Call (.Name "enumerate" p) [e] [] pos) (iEnumF K ta) := by subst hK; exact pi_enumF hg hm ha hs
theorem pi_zipK {e e2 : Expr} {ta : TA} {p pos tpos : Pos} {elts : List Expr} {kk : Nat} (hg : Gl X "zip") (hm : X.mg "zip" = none) (ha : PA X [e, e2] ta)
    (hs : starEach [e, e2] X.env = (false, eval e X.env) :: starEach [e2] X.env := by rfl) (hpl : (backTo pos (starEach [e2] X.env)).any (·.1) = false := by rfl) (hK : X.K = K := by rfl) :
    PI X (.Tuple elts kk tpos) (.Call (.Name "zip" p) [e, e2] [] pos) (iZipF K ta) := by subst hK; exact pi_zipF hg hm ha hs hpl
theorem pe_lzipK {e e2 : Expr} {ta : TA} {p p2 pos pos2 : Pos} (hc : X.calm = true) (hg : Gl X "zip") (hm : X.mg "zip" = none) (hgl : Gl X "list") (hml : X.mg "list" = none) (ha : PA X [e, e2] ta)
    (hs : starEach [e, e2] X.env = (false, eval e X.env) :: starEach [e2] X.env := by rfl) (hpl : (backTo pos (starEach [e2] X.env)).any (·.1) = false := by rfl)
    (hs2 : starEach [.Call (.Name "zip" p) [e, e2] [] pos] X.env = [(false, eval (.Call (.Name "zip" p) [e, e2] [] pos) X.env)] := by rfl) (hK : X.K = K := by rfl) :
    PE X (.Call (.Name "list" p2) [.Call (.Name "zip" p) [e, e2] [] pos] [] pos2) (tLZip K ta) := by subst hK; exact pe_lzip hc hg hm hgl hml ha hs hpl hs2
end
end Sq
set_option Elab.async false
set_option linter.all false
set_option maxRecDepth 100000
set_option maxHeartbeats 2000000
namespace Sq
open PySem PySem.Spec PyProof.Rows L2
/-! ### trees of the laws on equations: names, two signs alone, one of one, one of two -/
inductive Tr
  | v (x : Str)
  | a
  | b
  | i (t : Tr)
  | m (t u : Tr)
deriving DecidableEq
namespace Tr
def data : Tr → PyData
  | v x => .tuple [.str "v", .str x]
  | a => .tuple [.str "a"]
  | b => .tuple [.str "b"]
  | i t => .tuple [.str "i", t.data]
  | m t u => .tuple [.str "m", t.data, u.data]
def dep : Tr → Nat
  | v _ => 1
  | a => 1
  | b => 1
  | i t => t.dep + 1
  | m t u => max t.dep u.dep + 1
def names : Tr → List Str
  | v x => [x]
  | a => []
  | b => []
  | i t => t.names
  | m t u => t.names ++ u.names
def isV : Tr → Bool
  | v _ => true
  | _ => false
def hd : Tr → Str
  | v _ => "v"
  | a => "a"
  | b => "b"
  | i _ => "i"
  | m _ _ => "m"
def args : Tr → List Tr
  | i t => [t]
  | m t u => [t, u]
  | _ => []
theorem dep_pos : ∀ t : Tr, 1 ≤ t.dep
  | v _ => Nat.le_refl _
  | a => Nat.le_refl _
  | b => Nat.le_refl _
  | i _ => Nat.le_add_left _ _
  | m _ _ => Nat.le_add_left _ _
theorem dep_arg {t u : Tr} (h : u ∈ t.args) : u.dep < t.dep := by
  cases t with
  | v x => cases h
  | a => cases h
  | b => cases h
  | i s =>
    have e : u = s := by simpa [args] using h
    subst e; simp [dep]
  | m s r =>
    have e : u = s ∨ u = r := by simpa [args] using h
    rcases e with e | e <;> (subst e; simp only [dep]; omega)
theorem names_arg {t u : Tr} (h : u ∈ t.args) {x : Str} (hx : x ∈ u.names) : x ∈ t.names := by
  cases t with
  | v x => cases h
  | a => cases h
  | b => cases h
  | i s =>
    have e : u = s := by simpa [args] using h
    subst e; exact hx
  | m s r =>
    have e : u = s ∨ u = r := by simpa [args] using h
    rcases e with e | e <;> subst e
    · exact List.mem_append_left _ hx
    · exact List.mem_append_right _ hx
theorem names_args {t : Tr} (h : t.isV = false) {x : Str} : x ∈ t.names ↔ ∃ u ∈ t.args, x ∈ u.names := by
  cases t with
  | v x => cases h
  | a => simp [names, args]
  | b => simp [names, args]
  | i s => simp [names, args]
  | m s r => simp [names, args]
theorem data_f {t : Tr} (h : t.isV = false) : t.data = .tuple (.str t.hd :: t.args.map data) := by
  cases t with
  | v x => cases h
  | a => rfl
  | b => rfl
  | i s => rfl
  | m s r => rfl
theorem hd_v {t : Tr} (h : t.isV = false) : t.hd ≠ "v" := by
  cases t with
  | v x => cases h
  | a => decide
  | b => decide
  | i s => show ("i" : Str) ≠ "v"; decide
  | m s r => show ("m" : Str) ≠ "v"; decide
theorem args_len (t : Tr) : t.args.length ≤ 2 := by cases t <;> simp [args]
theorem eqvAll_cons (x y : PyData) (xs ys : List PyData) : PyData.eqvAll (x :: xs) (y :: ys) = (PyData.eqv x y && PyData.eqvAll xs ys) := by rw [PyData.eqvAll]
theorem eqv_str (x y : Str) : PyData.eqv (.str x) (.str y) = (x == y) := by rw [PyData.eqv]
theorem eqv_tup (xs ys : List PyData) : PyData.eqv (.tuple xs) (.tuple ys) = PyData.eqvAll xs ys := by rw [PyData.eqv]
theorem eqvAll_nil : PyData.eqvAll [] [] = true := by rw [PyData.eqvAll]
theorem eqvAll_nc (x : PyData) (xs : List PyData) : PyData.eqvAll [] (x :: xs) = false := by rw [PyData.eqvAll]
theorem eqvAll_cn (x : PyData) (xs : List PyData) : PyData.eqvAll (x :: xs) [] = false := by rw [PyData.eqvAll]
theorem eqv_data : ∀ t u : Tr, PyData.eqv t.data u.data = decide (t = u)
  | v x, v y => by simp only [data, eqv_tup, eqvAll_cons, eqv_str, eqvAll_nil, beq_self_eq_true, Bool.true_and, Bool.and_true, v.injEq]; exact Bool.beq_eq_decide_eq _ _
  | v x, a => rfl
  | v x, b => rfl
  | v x, i u => by simp only [data, eqv_tup, eqvAll_cons, eqv_str, reduceCtorEq, decide_false]; rfl
  | v x, m u w => by simp only [data, eqv_tup, eqvAll_cons, eqv_str, reduceCtorEq, decide_false]; rfl
  | a, v y => by simp only [data, eqv_tup, eqvAll_cons, eqv_str, reduceCtorEq, decide_false]; rfl
  | a, a => rfl
  | a, b => rfl
  | a, i u => by simp only [data, eqv_tup, eqvAll_cons, eqv_str, reduceCtorEq, decide_false]; rfl
  | a, m u w => by simp only [data, eqv_tup, eqvAll_cons, eqv_str, reduceCtorEq, decide_false]; rfl
  | b, v y => by simp only [data, eqv_tup, eqvAll_cons, eqv_str, reduceCtorEq, decide_false]; rfl
  | b, a => rfl
  | b, b => rfl
  | b, i u => by simp only [data, eqv_tup, eqvAll_cons, eqv_str, reduceCtorEq, decide_false]; rfl
  | b, m u w => by simp only [data, eqv_tup, eqvAll_cons, eqv_str, reduceCtorEq, decide_false]; rfl
  | i t, v y => by simp only [data, eqv_tup, eqvAll_cons, eqv_str, reduceCtorEq, decide_false]; rfl
  | i t, a => by simp only [data, eqv_tup, eqvAll_cons, eqv_str, reduceCtorEq, decide_false]; rfl
  | i t, b => by simp only [data, eqv_tup, eqvAll_cons, eqv_str, reduceCtorEq, decide_false]; rfl
  | i t, i u => by simp only [data, eqv_tup, eqvAll_cons, eqv_str, eqv_data t u, eqvAll_nil, beq_self_eq_true, Bool.true_and, Bool.and_true, i.injEq]
  | i t, m u w => by simp only [data, eqv_tup, eqvAll_cons, eqv_str, reduceCtorEq, decide_false]; rfl
  | m s r, v y => by simp only [data, eqv_tup, eqvAll_cons, eqv_str, reduceCtorEq, decide_false]; rfl
  | m s r, a => by simp only [data, eqv_tup, eqvAll_cons, eqv_str, reduceCtorEq, decide_false]; rfl
  | m s r, b => by simp only [data, eqv_tup, eqvAll_cons, eqv_str, reduceCtorEq, decide_false]; rfl
  | m s r, i u => by simp only [data, eqv_tup, eqvAll_cons, eqv_str, reduceCtorEq, decide_false]; rfl
  | m s r, m u w => by simp only [data, eqv_tup, eqvAll_cons, eqv_str, eqv_data s u, eqv_data r w, eqvAll_nil, beq_self_eq_true, Bool.true_and, Bool.and_true, m.injEq, Bool.decide_and]
theorem depth_data : ∀ t : Tr, t.data.depth = t.dep
  | v x => rfl
  | a => rfl
  | b => rfl
  | i t => by simp [data, PyData.depth, PyData.depthAll, depth_data t, dep]
  | m t u => by simp [data, PyData.depth, PyData.depthAll, depth_data t, depth_data u, dep]
theorem lay_str (x : Str) : PyData.canLay0 (.str x) = PyData.strOk x := by rw [PyData.canLay0]
theorem lay_tup (xs : List PyData) : PyData.canLay0 (.tuple xs) = PyData.canLayAll0 xs := by rw [PyData.canLay0]
theorem lay_cons (x : PyData) (xs : List PyData) : PyData.canLayAll0 (x :: xs) = (PyData.canLay0 x && PyData.canLayAll0 xs) := by rw [PyData.canLayAll0]
theorem lay_nil : PyData.canLayAll0 [] = true := by rw [PyData.canLayAll0]
theorem ok_v : PyData.strOk "v" = true := by decide +kernel
theorem ok_a : PyData.strOk "a" = true := by decide +kernel
theorem ok_b : PyData.strOk "b" = true := by decide +kernel
theorem ok_i : PyData.strOk "i" = true := by decide +kernel
theorem ok_m : PyData.strOk "m" = true := by decide +kernel
theorem lay_data : ∀ t : Tr, (∀ x ∈ t.names, PyData.strOk x = true) → t.data.canLay0 = true
  | v x, h => by simp only [data, lay_tup, lay_cons, lay_str, lay_nil, ok_v, h x (by simp [names]), Bool.and_self]
  | a, _ => by simp only [data, lay_tup, lay_cons, lay_str, lay_nil, ok_a, Bool.and_self]
  | b, _ => by simp only [data, lay_tup, lay_cons, lay_str, lay_nil, ok_b, Bool.and_self]
  | i t, h => by simp only [data, lay_tup, lay_cons, lay_str, lay_nil, ok_i, lay_data t h, Bool.and_self]
  | m t u, h => by simp only [data, lay_tup, lay_cons, lay_str, lay_nil, ok_m, lay_data t (fun x q => h x (List.mem_append_left _ q)), lay_data u (fun x q => h x (List.mem_append_right _ q)), Bool.and_self]
end Tr
/-- names that are all right, fewer than 64 -/
structure NsOk (NS : List Str) : Prop where
  ok : ∀ x ∈ NS, PyData.strOk x = true
  few : NS.length < 64
theorem Tr.shaped {NS : List Str} (n : NsOk NS) {t : Tr} (h : ∀ x ∈ t.names, x ∈ NS) (hd : t.dep ≤ 64) : SeqAt.shaped t.data = true := by
  unfold SeqAt.shaped
  rw [Tr.lay_data t fun x q => n.ok x (h x q), Tr.depth_data, decide_eq_true hd]
  rfl
section
variable {K : PySem.W.Frag} {H : Hp}
theorem td_v {v : V} {x : Str} (h : Td K H v (Tr.v x).data) : ∃ p, v = .ref p ∧ tupF K H p = some [.str "v", .str x] := by
  cases h with
  | tup e r =>
    cases r with
    | cons h1 r =>
      cases r with
      | cons h2 r =>
        cases r
        cases h1
        cases h2
        exact ⟨_, rfl, e⟩
theorem td_f {v : V} {t : Tr} (hv : t.isV = false) (h : Td K H v t.data) : ∃ p ws, v = .ref p ∧ tupF K H p = some (.str t.hd :: ws) ∧ TdAll K H ws (t.args.map Tr.data) := by
  rw [Tr.data_f hv] at h
  cases h with
  | tup e r =>
    cases r with
    | cons h1 r =>
      cases h1
      exact ⟨_, _, rfl, e, r⟩
theorem td_hd {v : V} {t : Tr} (h : Td K H v t.data) : ∃ p ws, v = .ref p ∧ tupF K H p = some (.str t.hd :: ws) := by
  cases e : t.isV with
  | false => obtain ⟨p, ws, e, q, _⟩ := td_f e h; exact ⟨p, ws, e, q⟩
  | true =>
    cases t with
    | v x => obtain ⟨p, e, q⟩ := td_v h; exact ⟨p, _, e, q⟩
    | a => cases e
    | b => cases e
    | i s => cases e
    | m s r => cases e
theorem td_mk {p : Addr} {ws : List V} {t : Tr} (hv : t.isV = false) (h : tupF K H p = some (.str t.hd :: ws)) (r : TdAll K H ws (t.args.map Tr.data)) : Td K H (.ref p) t.data := by
  rw [Tr.data_f hv]
  exact .tup h (.cons (.str _) r)
theorem td_arg {ws : List V} {t : Tr} (r : TdAll K H ws (t.args.map Tr.data)) {j : Nat} {w : V} (h : ws[j]? = some w) : ∃ u, t.args[j]? = some u ∧ u ∈ t.args ∧ Td K H w u.data := by
  obtain ⟨d, e, q⟩ := r.get h
  rw [List.getElem?_map] at e
  cases e2 : t.args[j]? with
  | none => rw [e2] at e; cases e
  | some u =>
    rw [e2] at e
    cases e
    exact ⟨u, rfl, List.mem_of_getElem? e2, q⟩
end
theorem Ext.over {H H1 H2 : Hp} {D : Addr} (a : Ext [] H H1) (n : H D = none) (b : Ext [D] H1 H2) : Ext [] H H2 := by
  refine ⟨fun c o e _ m => ?_, fun c o e => b.tup c o (a.tup c o e), fun c o u e => b.frz c o u (a.frz c o u e), fun P h => b.tab P (a.tab P h), fun P ps h _ => b.tbl P ps (a.tbl P ps h (fun z => nomatch z)) fun z => by
    have z' : P = D := by simpa using z
    rw [z', n] at h
    cases h⟩
  refine b.keep c o (a.keep c o e (fun z => nomatch z) m) (fun z => ?_) m
  have z' : c = D := by simpa using z
  rw [z', n] at e
  cases e
/-! ### lists of texts as keys -/
def addK (ks : List Str) (x : Str) : List Str := if x ∈ ks then ks else ks ++ [x]
theorem mem_addK {ks : List Str} {x y : Str} : y ∈ addK ks x ↔ y ∈ ks ∨ y = x := by
  unfold addK
  split
  · constructor
    · exact .inl
    · rintro (h | h)
      · exact h
      · subst h; assumption
  · simp
theorem nodup_addK {ks : List Str} {x : Str} (h : ks.Nodup) : (addK ks x).Nodup := by
  unfold addK
  split
  · exact h
  · rename_i n
    exact List.nodup_append.mpr ⟨h, by simp, fun a ha b hb e => by
      have : b = x := by simpa using hb
      subst this; subst e; exact n ha⟩
theorem nodup_sub : ∀ {l m : List Str}, l.Nodup → (∀ x ∈ l, x ∈ m) → l.length ≤ m.length
  | [], _, _, _ => Nat.zero_le _
  | x :: l, m, h, s => by
    have hx : x ∈ m := s x List.mem_cons_self
    have h' := List.nodup_cons.mp h
    have := nodup_sub (l := l) (m := m.erase x) h'.2 fun y hy => (List.mem_erase_of_ne (fun e => h'.1 (by rw [← e]; exact hy))).mpr (s y (List.mem_cons_of_mem _ hy))
    rw [List.length_erase_of_mem hx] at this
    have : 0 < m.length := List.length_pos_of_mem hx
    rw [List.length_cons]; omega
def trueK (ks : List Str) : List (Key × V) := ks.map fun x => (Sum.inr x, V.bl true)
theorem put_true (ks : List Str) (x : Str) : putK (trueK ks) (Sum.inr x) (V.bl true) = trueK (addK ks x) := by
  have e : ((trueK ks).any fun kv => decide (kv.1 = Sum.inr x)) = decide (x ∈ ks) := by
    unfold trueK
    rw [List.any_map]
    induction ks with
    | nil => rfl
    | cons y ys ih =>
      rw [List.any_cons, ih]
      by_cases h : y = x
      · subst h; simp
      · have h' : ¬ x = y := fun z => h z.symm
        simp [h, h']
  unfold putK addK
  rw [e]
  by_cases h : x ∈ ks
  · rw [decide_eq_true h, if_pos rfl, if_pos h]
    unfold trueK
    rw [List.map_map]
    refine List.map_congr_left fun y _ => ?_
    simp only [Function.comp]
    split <;> simp_all
  · rw [decide_eq_false h, if_neg Bool.false_ne_true, if_neg h]
    unfold trueK
    rw [List.map_append]; rfl
theorem trueK_keys (ks : List Str) : (trueK ks).map (·.1) = ks.map Sum.inr := by unfold trueK; rw [List.map_map]; rfl
end Sq
set_option Elab.async false
set_option linter.all false
set_option maxRecDepth 100000
set_option maxHeartbeats 2000000
namespace Sq
open PySem PySem.Spec PyProof.Rows L2 RZ
theorem take_snoc {α : Type} {ds : List α} {j : Nat} {d : α} (h : ds[j]? = some d) : ds.take (j + 1) = ds.take j ++ [d] := by
  rw [List.take_add_one, h]; rfl
section
variable {K : PySem.W.Frag}
/-- a list of data, one for each item of a tuple -/
theorem lc_map {p : Addr} {ws : List V} {ds : List PyData} {te : TE} {vs : List Nat} {σ : L2.St} {H1 : Hp} {Q : VK} {i : Nat} (hp : tupF K H1 p = some ws) (hlen : ds.length = ws.length) (hsz : ws.length ≤ 100000)
    (hσ : ∀ x, wipe ((wipe σ vs).set i (some x)) vs = wipe σ vs)
    (hte : ∀ (j : Nat) (x : V) (d : PyData) (H' : Hp) (R : VK), ws[j]? = some x → ds[j]? = some d → Ext [] H1 H' → (∀ y H'', Ext [] H' H'' → Td K H'' y d → R y H'') → te ((wipe σ vs).set i (some x)) H' R)
    (hd : ∀ D ys H', H1 D = none → Ext [] H1 H' → H' D = some (.lst ys) → TdAll K H' ys ds → Q (.ref D) H') : LcB (Itt K p) (gName i) tYes te vs σ H1 Q := by
  refine lc_go walk_tup (fun D j ys H' => ys.length = j ∧ Ext [] H1 H' ∧ TdAll K H' ys (ds.take j)) (fun D hD => ⟨rfl, Ext.new hD, by rw [List.take_zero]; exact .nil⟩) (fun D j ys H' ⟨_, e, _⟩ => tupF_sq (tupF_ext e hp)) (fun D j x ys H' H'' hD hj ⟨hl, e, t⟩ _ hys y => ?_) fun D ys H' hD ⟨hl, e, t⟩ hys _ => ?_
  · obtain ⟨rfl, hx⟩ := y
    have hj' : j < ds.length := by omega
    have hdj : ds[j]? = some (ds[j]) := List.getElem?_eq_getElem hj'
    have hs1 : (100000 : Nat) < sizeLine := by decide
    refine ⟨hσ x, ?_⟩
    simp only [tYes, if_true]
    refine hte j x _ _ _ hx hdj e fun y H4 e4 hy => ⟨ys, e4.lst0 hys, by omega, ys ++ [y], by rw [List.length_append, hl]; exact Nat.le_refl _, upd_same, by rw [List.length_append, hl]; rfl, (e.trans e4).over hD (Ext.setL List.mem_cons_self (e4.lst0 hys)), ?_⟩
    rw [take_snoc hdj]
    have es : Ext [D] H4 (upd H4 D (.lst (ys ++ [y]))) := Ext.setL List.mem_cons_self (e4.lst0 hys)
    exact ((t.ext e4).ext es).snoc (hy.ext es)
  · refine hd D ys H' hD e hys ?_
    rw [← hlen, List.take_length] at t
    exact t
/-- a sum of ints, one for each item of a tuple -/
theorem gsum_map {P p : Addr} {ws : List V} {ns : List Int} {te : TE} {vs : List Nat} {σ : L2.St} {H1 : Hp} {Fin : Int → Hp → Prop} {i : Nat} (ht : GxR.TabG H1 P) (hp : tupF K H1 p = some ws) (hlen : ns.length = ws.length)
    (hσ : ∀ x, wipe ((wipe σ vs).set i (some x)) vs = wipe σ vs)
    (hb : ∀ j n, ns[j]? = some n → InLong n ∧ InLong ((ns.take j).sum + n))
    (hte : ∀ (j : Nat) (x : V) (n : Int) (H' : Hp) (R : VK), ws[j]? = some x → ns[j]? = some n → Ext [P] H1 H' → (∀ H'', Ext [P] H' H'' → R (.int n) H'') → te ((wipe σ vs).set i (some x)) H' R)
    (hd : ∀ H', Ext [P] H1 H' → Fin ns.sum H') : GB P (Itt K p) (gName i) tYes te vs (0 : Int) (fun t y H N => ∃ j, y = .int j ∧ (InLong j ∧ InLong (t + j)) ∧ N (t + j) H) Fin σ H1 := by
  refine gen_go walk_tup ht (fun j t H' => t = (ns.take j).sum ∧ Ext [P] H1 H') (fun H2 e => ⟨by rw [List.take_zero]; rfl, e⟩) (fun j t H' _ ⟨_, e⟩ => tupF_sq (tupF_ext e hp)) (fun j x t H' H'' hj ⟨hs, e⟩ y => ?_) fun t H' ⟨hs, e⟩ => ?_
  · obtain ⟨rfl, hx⟩ := y
    have hj' : j < ns.length := by omega
    have hnj : ns[j]? = some (ns[j]) := List.getElem?_eq_getElem hj'
    refine ⟨hσ x, ?_⟩
    simp only [tYes, if_true]
    obtain ⟨b1, b2⟩ := hb j _ hnj
    refine hte j x _ _ _ hx hnj e fun H4 e4 => ⟨_, rfl, ⟨b1, by rw [hs]; exact b2⟩, ?_, e.trans e4⟩
    rw [take_snoc hnj, hs, List.sum_append]
    simp
  · rw [← hlen, List.take_length] at hs
    rw [hs]
    exact hd H' e
theorem two_long {ns : List Int} (hl : ns.length ≤ 2) (hb : ∀ n ∈ ns, 0 ≤ n ∧ n ≤ 4194304) : ∀ j n, ns[j]? = some n → InLong n ∧ InLong ((ns.take j).sum + n) := by
  intro j n h
  have lo : ∀ x : Int, 0 ≤ x → x ≤ 8388608 → InLong x := fun x h1 h2 => by unfold InLong; omega
  match ns, hl, hb, j, h with
  | [x], _, hb, 0, h => cases h; have := hb n (by simp); exact ⟨lo _ (by omega) (by omega), lo _ (by simp; omega) (by simp; omega)⟩
  | [x, y], _, hb, 0, h => cases h; have := hb n (by simp); exact ⟨lo _ (by omega) (by omega), lo _ (by simp; omega) (by simp; omega)⟩
  | [x, y], _, hb, 1, h => cases h; have := hb n (by simp); have := hb x (by simp); exact ⟨lo _ (by omega) (by omega), lo _ (by simp; omega) (by simp; omega)⟩
theorem td_ints {H : Hp} : ∀ {ys : List V} {ns : List Int}, TdAll K H ys (ns.map PyData.int) → ys = ns.map V.int
  | _, [], .nil => rfl
  | _, _ :: _, .cons (.int _) r => by rw [td_ints r]; rfl
/-- any over the keys of a locked dict -/
theorem gany_keys {P d : Addr} {o : Obj} {kvs : List (Key × V)} {te : TE} {vs : List Nat} {σ : L2.St} {H1 : Hp} {Qt Qf : Hp → Prop} {i : Nat} (r : Nat → Bool) (ht : GxR.TabG H1 P) (hd : H1 d = some (.frz o (.dK kvs)))
    (hσ : ∀ x, wipe ((wipe σ vs).set i (some x)) vs = wipe σ vs)
    (hte : ∀ (j : Nat) (k : Key) (v : V) (H' : Hp) (R : VK), kvs[j]? = some (k, v) → Ext [P] H1 H' → (∀ H'', Ext [P] H' H'' → R (.bl (r j)) H'') → te ((wipe σ vs).set i (some (kV k))) H' R)
    (hT : ∀ H' j, j < kvs.length → r j = true → Ext [P] H1 H' → Qt H') (hF : ∀ H', (∀ j, j < kvs.length → r j = false) → Ext [P] H1 H' → Qf H') :
    GB P (Itk d o kvs) (gName i) tYes te vs () (fun _ y H N => ∃ b, y = .bl b ∧ if b = true then Qt H else N () H) (fun _ H => Qf H) σ H1 := by
  refine gen_go walk_keys ht (fun j _ H' => (∀ m, m < j → r m = false) ∧ Ext [P] H1 H') (fun H2 e => ⟨fun m hm => absurd hm (Nat.not_lt_zero _), e⟩) (fun j t H' _ ⟨_, e⟩ => e.frz _ _ _ hd) (fun j x t H' H'' hj ⟨hs, e⟩ y => ?_) fun t H' ⟨hs, e⟩ => hF H' hs e
  obtain ⟨rfl, k, v, hk, rfl⟩ := y
  refine ⟨hσ _, ?_⟩
  simp only [tYes, if_true]
  refine hte j k v _ _ hk e fun H4 e4 => ⟨_, rfl, ?_⟩
  cases hr : r j with
  | true => simp only [if_true]; exact hT H4 j hj hr (e.trans e4)
  | false =>
    simp only [Bool.false_eq_true, if_false]
    refine ⟨fun m hm => ?_, e.trans e4⟩
    by_cases q : m = j
    · rw [q]; exact hr
    · exact hs m (by omega)
theorem dctF_lock {H : Hp} {d p : Addr} {o : Obj} {k1 k2 : List (Key × V)} (h : dctF H p = some k1) (hd : H d = some (.dK k2)) : dctF (upd H d (.frz o (.dK k2))) p = some k1 := by
  by_cases e : p = d
  · subst e
    rw [dctF_dK hd] at h
    cases h
    exact dctF_frz upd_same
  · unfold dctF
    rw [upd_ne e]
    exact h
theorem valV_at : ∀ {kvs : List (Key × V)} {j : Nat} {k : Key} {v : V}, kvs[j]? = some (k, v) → ∃ v', valV kvs k = some v'
  | p :: r, 0, k, v, h => by cases h; exact ⟨v, valV_pos rfl⟩
  | p :: r, j + 1, k, v, h => by
    by_cases e : p.1 = k
    · exact ⟨_, valV_pos e⟩
    · rw [valV_neg e]; exact valV_at (by simpa using h)
theorem at_valV {kvs : List (Key × V)} {k : Key} {v : V} (h : valV kvs k = some v) : ∃ j : Nat, kvs[j]? = some (k, v) := by
  induction kvs with
  | nil => cases h
  | cons p r ih =>
    by_cases e : p.1 = k
    · rw [valV_pos e] at h
      cases h
      exact ⟨0, by rw [← e]; rfl⟩
    · rw [valV_neg e] at h
      obtain ⟨j, hj⟩ := ih h
      exact ⟨j + 1, by simpa using hj⟩
end
end Sq
set_option Elab.async false
set_option linter.all false
set_option maxRecDepth 100000
set_option maxHeartbeats 2000000
namespace Sq
open PySem PySem.Spec PyProof.Rows L2
/-! ### formulas: names, two constants, three joins -/
inductive Jn
  | to
  | both
  | either
deriving DecidableEq
def Jn.str : Jn → Str
  | to => "to"
  | both => "both"
  | either => "either"
theorem Jn.inj {j k : Jn} (h : j.str = k.str) : j = k := by
  revert h
  cases j <;> cases k <;> decide
inductive Fm
  | name (x : Str)
  | one
  | none
  | bin (j : Jn) (s t : Fm)
deriving DecidableEq
namespace Fm
def data : Fm → PyData
  | name x => .tuple [.str "name", .str x]
  | one => .tuple [.str "one"]
  | none => .tuple [.str "none"]
  | bin j t u => .tuple [.str j.str, t.data, u.data]
def dep : Fm → Nat
  | bin _ t u => max t.dep u.dep + 1
  | _ => 1
def sz : Fm → Nat
  | bin _ t u => t.sz + u.sz + 1
  | _ => 1
def names : Fm → List Str
  | name x => [x]
  | bin _ t u => t.names ++ u.names
  | _ => []
def isN : Fm → Bool
  | name _ => true
  | _ => false
def hd : Fm → Str
  | name _ => "name"
  | one => "one"
  | none => "none"
  | bin j _ _ => j.str
def args : Fm → List Fm
  | bin _ t u => [t, u]
  | _ => []
theorem dep_pos : ∀ t : Fm, 1 ≤ t.dep := fun t => by cases t <;> simp [dep]
theorem sz_pos : ∀ t : Fm, 1 ≤ t.sz := fun t => by cases t <;> simp [sz]
theorem arg_cases {t u : Fm} (h : u ∈ t.args) : ∃ j s r, t = bin j s r ∧ (u = s ∨ u = r) := by
  cases t with
  | bin j s r => exact ⟨j, s, r, rfl, by simpa [args] using h⟩
  | _ => cases h
theorem dep_arg {t u : Fm} (h : u ∈ t.args) : u.dep < t.dep := by
  obtain ⟨j, s, r, rfl, e | e⟩ := arg_cases h <;> (subst e; simp only [dep]; omega)
theorem sz_arg {t u : Fm} (h : u ∈ t.args) : u.sz < t.sz := by
  obtain ⟨j, s, r, rfl, e | e⟩ := arg_cases h <;> (subst e; simp only [sz]; omega)
theorem names_arg {t u : Fm} (h : u ∈ t.args) {x : Str} (hx : x ∈ u.names) : x ∈ t.names := by
  obtain ⟨j, s, r, rfl, e | e⟩ := arg_cases h <;> subst e
  · exact List.mem_append_left _ hx
  · exact List.mem_append_right _ hx
theorem names_args {t : Fm} (h : t.isN = false) {x : Str} : x ∈ t.names ↔ ∃ u ∈ t.args, x ∈ u.names := by
  cases t with
  | name x => cases h
  | one => simp [names, args]
  | none => simp [names, args]
  | bin j s r => simp [names, args]
theorem data_f {t : Fm} (h : t.isN = false) : t.data = .tuple (.str t.hd :: t.args.map data) := by
  cases t with
  | name x => cases h
  | _ => rfl
theorem hd_v {t : Fm} (h : t.isN = false) : t.hd ≠ "name" := by
  cases t with
  | name x => cases h
  | one => show ("one" : Str) ≠ "name"; decide
  | none => show ("none" : Str) ≠ "name"; decide
  | bin j s r => cases j <;> (simp only [hd, Jn.str]; decide)
theorem hd_iff {t : Fm} : t.hd = "name" ↔ t.isN = true := by
  cases e : t.isN with
  | true => cases t <;> first | (cases e; done) | simp [hd]
  | false => simpa using hd_v e
def isB : Fm → Bool
  | bin _ _ _ => true
  | _ => false
theorem hd_b {t : Fm} : (t.hd = "to" ∨ t.hd = "both" ∨ t.hd = "either") ↔ t.isB = true := by
  cases t with
  | name x => simp only [hd, isB]; exact ⟨fun h => by rcases h with h | h | h <;> exact absurd h (by decide), fun h => by cases h⟩
  | one => simp only [hd, isB]; exact ⟨fun h => by rcases h with h | h | h <;> exact absurd h (by decide), fun h => by cases h⟩
  | none => simp only [hd, isB]; exact ⟨fun h => by rcases h with h | h | h <;> exact absurd h (by decide), fun h => by cases h⟩
  | bin j s r => cases j <;> simp [hd, isB, Jn.str]
theorem eq_hd {s t : Fm} (hs : s.isN = false) (ht : t.isN = false) (h1 : s.hd = t.hd) (h2 : s.args = t.args) : s = t := by
  cases s with
  | name x => cases hs
  | one => cases t with
    | name x => cases ht
    | one => rfl
    | none => exact absurd h1 (by simp only [hd]; decide)
    | bin j a b => simp [args] at h2
  | none => cases t with
    | name x => cases ht
    | none => rfl
    | one => exact absurd h1 (by simp only [hd]; decide)
    | bin j a b => simp [args] at h2
  | bin j a b => cases t with
    | bin k c d =>
      simp [args] at h2
      rw [Jn.inj h1, h2.1, h2.2]
    | _ => simp [args] at h2
theorem args_eq {s t : Fm} (hs : s.isN = false) (ht : t.isN = false) (h1 : s.hd = t.hd) : s.args.length = t.args.length := by
  have key : ∀ {a b : Fm}, a.hd = b.hd → a.isB = b.isB := fun {a b} h => by
    have h1 := hd_b (t := a)
    have h2 := hd_b (t := b)
    rw [h] at h1
    cases ea : a.isB <;> cases eb : b.isB <;> simp_all
  have := key h1
  cases s <;> cases t <;> first | rfl | (cases this; done) | (cases hs; done) | (cases ht; done)
theorem args_len (t : Fm) : t.args.length ≤ 2 := by cases t <;> simp [args]
theorem eqvAll_cons (x y : PyData) (xs ys : List PyData) : PyData.eqvAll (x :: xs) (y :: ys) = (PyData.eqv x y && PyData.eqvAll xs ys) := by rw [PyData.eqvAll]
theorem eqv_str (x y : Str) : PyData.eqv (.str x) (.str y) = (x == y) := by rw [PyData.eqv]
theorem eqv_tup (xs ys : List PyData) : PyData.eqv (.tuple xs) (.tuple ys) = PyData.eqvAll xs ys := by rw [PyData.eqv]
theorem eqvAll_nil : PyData.eqvAll [] [] = true := by rw [PyData.eqvAll]
theorem eqvAll_nc (x : PyData) (xs : List PyData) : PyData.eqvAll [] (x :: xs) = false := by rw [PyData.eqvAll]
theorem eqvAll_cn (x : PyData) (xs : List PyData) : PyData.eqvAll (x :: xs) [] = false := by rw [PyData.eqvAll]
theorem eqv_data : ∀ t u : Fm, PyData.eqv t.data u.data = decide (t = u)
  | name x, name y => by simp only [data, eqv_tup, eqvAll_cons, eqv_str, eqvAll_nil, beq_self_eq_true, Bool.true_and, Bool.and_true, name.injEq]; exact Bool.beq_eq_decide_eq _ _
  | name x, one => rfl
  | name x, none => rfl
  | name x, bin j u w => by cases j <;> (simp only [data, Jn.str, eqv_tup, eqvAll_cons, eqv_str, reduceCtorEq, decide_false]; rfl)
  | one, name y => rfl
  | one, one => rfl
  | one, none => rfl
  | one, bin j u w => by cases j <;> rfl
  | none, name y => rfl
  | none, one => rfl
  | none, none => rfl
  | none, bin j u w => by cases j <;> rfl
  | bin j t u, name y => by cases j <;> (simp only [data, Jn.str, eqv_tup, eqvAll_cons, eqv_str, reduceCtorEq, decide_false]; rfl)
  | bin j t u, one => by cases j <;> rfl
  | bin j t u, none => by cases j <;> rfl
  | bin j s r, bin k u w => by
    simp only [data, eqv_tup, eqvAll_cons, eqv_str, eqv_data s u, eqv_data r w, eqvAll_nil, Bool.and_true, bin.injEq, Bool.decide_and]
    congr 1
    cases j <;> cases k <;> decide
theorem depth_data : ∀ t : Fm, t.data.depth = t.dep
  | name x => rfl
  | one => rfl
  | none => rfl
  | bin j t u => by simp [data, PyData.depth, PyData.depthAll, depth_data t, depth_data u, dep]
theorem lay_str (x : Str) : PyData.canLay0 (.str x) = PyData.strOk x := by rw [PyData.canLay0]
theorem lay_tup (xs : List PyData) : PyData.canLay0 (.tuple xs) = PyData.canLayAll0 xs := by rw [PyData.canLay0]
theorem lay_cons (x : PyData) (xs : List PyData) : PyData.canLayAll0 (x :: xs) = (PyData.canLay0 x && PyData.canLayAll0 xs) := by rw [PyData.canLayAll0]
theorem lay_nil : PyData.canLayAll0 [] = true := by rw [PyData.canLayAll0]
theorem ok_n : PyData.strOk "name" = true := by decide +kernel
theorem ok_o : PyData.strOk "one" = true := by decide +kernel
theorem ok_z : PyData.strOk "none" = true := by decide +kernel
theorem ok_j (j : Jn) : PyData.strOk j.str = true := by cases j <;> decide +kernel
theorem lay_data : ∀ t : Fm, (∀ x ∈ t.names, PyData.strOk x = true) → t.data.canLay0 = true
  | name x, h => by simp only [data, lay_tup, lay_cons, lay_str, lay_nil, ok_n, h x (by simp [names]), Bool.and_self]
  | one, _ => by simp only [data, lay_tup, lay_cons, lay_str, lay_nil, ok_o, Bool.and_self]
  | none, _ => by simp only [data, lay_tup, lay_cons, lay_str, lay_nil, ok_z, Bool.and_self]
  | bin j t u, h => by simp only [data, lay_tup, lay_cons, lay_str, lay_nil, ok_j, lay_data t (fun x q => h x (List.mem_append_left _ q)), lay_data u (fun x q => h x (List.mem_append_right _ q)), Bool.and_self]
theorem args_sz : ∀ t : Fm, (t.args.map sz).sum < t.sz
  | name _ => Nat.zero_lt_one
  | one => Nat.zero_lt_one
  | none => Nat.zero_lt_one
  | bin _ t u => by simp [args, sz]
theorem sz_le : ∀ t : Fm, t.sz + 1 ≤ 2 ^ t.dep
  | name _ => by simp [sz, dep]
  | one => by simp [sz, dep]
  | none => by simp [sz, dep]
  | bin _ t u => by
    have h1 := sz_le t
    have h2 := sz_le u
    have h3 : 2 ^ t.dep ≤ 2 ^ max t.dep u.dep := Nat.pow_le_pow_right (by omega) (Nat.le_max_left _ _)
    have h4 : 2 ^ u.dep ≤ 2 ^ max t.dep u.dep := Nat.pow_le_pow_right (by omega) (Nat.le_max_right _ _)
    simp only [sz, dep, Nat.pow_succ]; omega
end Fm
theorem Fm.shaped {NS : List Str} (n : NsOk NS) {t : Fm} (h : ∀ x ∈ t.names, x ∈ NS) (hd : t.dep ≤ 64) : SeqAt.shaped t.data = true := by
  unfold SeqAt.shaped
  rw [Fm.lay_data t fun x q => n.ok x (h x q), Fm.depth_data, decide_eq_true hd]
  rfl
section
variable {K : PySem.W.Frag} {H : Hp}
theorem fd_v {v : V} {x : Str} (h : Td K H v (Fm.name x).data) : ∃ p, v = .ref p ∧ tupF K H p = some [.str "name", .str x] := by
  cases h with
  | tup e r =>
    cases r with
    | cons h1 r =>
      cases r with
      | cons h2 r =>
        cases r
        cases h1
        cases h2
        exact ⟨_, rfl, e⟩
theorem fd_f {v : V} {t : Fm} (hv : t.isN = false) (h : Td K H v t.data) : ∃ p ws, v = .ref p ∧ tupF K H p = some (.str t.hd :: ws) ∧ TdAll K H ws (t.args.map Fm.data) := by
  rw [Fm.data_f hv] at h
  cases h with
  | tup e r =>
    cases r with
    | cons h1 r =>
      cases h1
      exact ⟨_, _, rfl, e, r⟩
theorem fd_hd {v : V} {t : Fm} (h : Td K H v t.data) : ∃ p ws, v = .ref p ∧ tupF K H p = some (.str t.hd :: ws) := by
  cases e : t.isN with
  | false => obtain ⟨p, ws, e, q, _⟩ := fd_f e h; exact ⟨p, ws, e, q⟩
  | true =>
    cases t with
    | name x => obtain ⟨p, e, q⟩ := fd_v h; exact ⟨p, _, e, q⟩
    | _ => cases e
theorem fd_b {v : V} {j : Jn} {s t : Fm} (h : Td K H v (Fm.bin j s t).data) : ∃ p x y, v = .ref p ∧ tupF K H p = some [.str j.str, x, y] ∧ Td K H x s.data ∧ Td K H y t.data := by
  cases h with
  | tup e r =>
    cases r with
    | cons h1 r =>
      cases r with
      | cons h2 r =>
        cases r with
        | cons h3 r =>
          cases r
          cases h1
          exact ⟨_, _, _, rfl, e, h2, h3⟩
theorem fd_arg {ws : List V} {t : Fm} (r : TdAll K H ws (t.args.map Fm.data)) {j : Nat} {w : V} (h : ws[j]? = some w) : ∃ u, t.args[j]? = some u ∧ u ∈ t.args ∧ Td K H w u.data := by
  obtain ⟨d, e, q⟩ := r.get h
  rw [List.getElem?_map] at e
  cases e2 : t.args[j]? with
  | none => rw [e2] at e; cases e
  | some u =>
    rw [e2] at e
    cases e
    exact ⟨u, rfl, List.mem_of_getElem? e2, q⟩
end
end Sq
set_option Elab.async false
set_option linter.all false
set_option maxRecDepth 100000
set_option maxHeartbeats 2000000
namespace Sq
open PySem PySem.Spec PyProof.Rows L2
/-! ### tables: names and their trees -/
def lk : List (Str × Fm) → Str → Option Fm
  | [], _ => none
  | (m, t) :: l, n => if m = n then some t else lk l n
def putL (l : List (Str × Fm)) (n : Str) (t : Fm) : List (Str × Fm) := if (lk l n).isSome then l.map (fun p => if p.1 = n then (p.1, t) else p) else l ++ [(n, t)]
inductive TabK (K : PySem.W.Frag) (H : Hp) : List (Key × V) → List (Str × Fm) → Prop
  | nil : TabK K H [] []
  | cons {n : Str} {v : V} {t : Fm} {kvs : List (Key × V)} {l : List (Str × Fm)} : Td K H v t.data → TabK K H kvs l → TabK K H ((Sum.inr n, v) :: kvs) ((n, t) :: l)
theorem TabK.ext {K : PySem.W.Frag} {S : List Addr} {H H' : Hp} (e : Ext S H H') : ∀ {kvs : List (Key × V)} {l : List (Str × Fm)}, TabK K H kvs l → TabK K H' kvs l
  | _, _, .nil => .nil
  | _, _, .cons h r => .cons (h.ext e) (r.ext e)
theorem TabK.length {K : PySem.W.Frag} {H : Hp} : ∀ {kvs : List (Key × V)} {l : List (Str × Fm)}, TabK K H kvs l → kvs.length = l.length
  | _, _, .nil => rfl
  | _, _, .cons _ r => congrArg Nat.succ r.length
theorem TabK.val {K : PySem.W.Frag} {H : Hp} (n : Str) : ∀ {kvs : List (Key × V)} {l : List (Str × Fm)}, TabK K H kvs l → (lk l n = none ∧ valV kvs (.inr n) = none) ∨ ∃ t v, lk l n = some t ∧ valV kvs (.inr n) = some v ∧ Td K H v t.data
  | _, _, .nil => .inl ⟨rfl, rfl⟩
  | _, _, .cons (n := m) (v := v) (t := t) h r => by
    by_cases e : m = n
    · exact .inr ⟨t, v, by simp [lk, e], by rw [valV_pos (by rw [e])], h⟩
    · rw [valV_neg (fun z => e (Sum.inr.inj z))]
      simp only [lk, if_neg e]
      exact r.val n
theorem TabK.get {K : PySem.W.Frag} {H : Hp} : ∀ {kvs : List (Key × V)} {l : List (Str × Fm)} {j : Nat} {k : Key} {v : V}, TabK K H kvs l → kvs[j]? = some (k, v) → ∃ n t, k = .inr n ∧ l[j]? = some (n, t) ∧ Td K H v t.data
  | _, _, 0, _, _, .cons h _, e => by cases e; exact ⟨_, _, rfl, rfl, h⟩
  | _, _, _ + 1, _, _, .cons _ r, e => r.get (by simpa using e)
theorem TabK.snoc {K : PySem.W.Frag} {H : Hp} {n : Str} {v : V} {t : Fm} (h : Td K H v t.data) : ∀ {kvs : List (Key × V)} {l : List (Str × Fm)}, TabK K H kvs l → TabK K H (kvs ++ [(.inr n, v)]) (l ++ [(n, t)])
  | _, _, .nil => .cons h .nil
  | _, _, .cons h' r => .cons h' (r.snoc h)
theorem TabK.over {K : PySem.W.Frag} {H : Hp} {n : Str} {v : V} {t : Fm} (h : Td K H v t.data) : ∀ {kvs : List (Key × V)} {l : List (Str × Fm)}, TabK K H kvs l → TabK K H (kvs.map fun kv => if kv.1 = Sum.inr n then (kv.1, v) else kv) (l.map fun p => if p.1 = n then (p.1, t) else p)
  | _, _, .nil => .nil
  | _, _, .cons (n := m) h' r => by
    rw [List.map_cons, List.map_cons]
    by_cases e : m = n
    · simp only [e, if_true]
      exact .cons h (r.over h)
    · simp only [if_neg e, if_neg (fun z => e (Sum.inr.inj z) : ¬ (Sum.inr m : Key) = Sum.inr n)]
      exact .cons h' (r.over h)
theorem TabK.put {K : PySem.W.Frag} {H : Hp} {n : Str} {v : V} {t : Fm} {kvs : List (Key × V)} {l : List (Str × Fm)} (r : TabK K H kvs l) (h : Td K H v t.data) : TabK K H (putK kvs (.inr n) v) (putL l n t) := by
  unfold putK putL
  rw [valV_any]
  rcases r.val n with ⟨h1, h2⟩ | ⟨t', v', h1, h2, _⟩
  · rw [h1, h2]
    exact r.snoc h
  · rw [h1, h2]
    exact r.over h
namespace Fm
/-- formulas put in names' places -/
def fill (s : Str → Option Fm) : Fm → Fm
  | name x => (s x).getD (name x)
  | one => one
  | none => none
  | bin j t u => bin j (t.fill s) (u.fill s)
theorem fill_nv {s : Str → Option Fm} {t : Fm} (h : t.isN = false) : (t.fill s).isN = false ∧ (t.fill s).hd = t.hd ∧ (t.fill s).args = t.args.map (fill s) := by
  cases t with
  | name x => cases h
  | _ => exact ⟨rfl, rfl, rfl⟩
theorem dep_fill_ge (s : Str → Option Fm) : ∀ t : Fm, t.dep ≤ (t.fill s).dep
  | name x => dep_pos _
  | one => Nat.le_refl _
  | none => Nat.le_refl _
  | bin j t u => by
    have h1 := dep_fill_ge s t
    have h2 := dep_fill_ge s u
    simp only [fill, dep]; omega
theorem dep_fill_le {s : Str → Option Fm} {B : Nat} (hB : 1 ≤ B) : ∀ {t : Fm}, (∀ x u, x ∈ t.names → s x = some u → u.dep ≤ B) → (t.fill s).dep + 1 ≤ t.dep + B
  | name x, h => by
    simp only [fill, dep]
    cases e : s x with
    | none => simp [dep]; omega
    | some u => have := h x u (by simp [names]) e; simp; omega
  | one, _ => by simp only [fill, dep]; omega
  | none, _ => by simp only [fill, dep]; omega
  | bin j t u, h => by
    have h1 := dep_fill_le hB (t := t) fun x w hx => h x w (List.mem_append_left _ hx)
    have h2 := dep_fill_le hB (t := u) fun x w hx => h x w (List.mem_append_right _ hx)
    simp only [fill, dep]; omega
theorem names_fill {s : Str → Option Fm} {x : Str} : ∀ {t : Fm}, x ∈ (t.fill s).names ↔ ∃ y ∈ t.names, x ∈ ((s y).getD (name y)).names
  | name y => by simp [fill, names]
  | one => by simp [fill, names]
  | none => by simp [fill, names]
  | bin j t u => by
    have h1 := names_fill (s := s) (x := x) (t := t)
    have h2 := names_fill (s := s) (x := x) (t := u)
    simp only [fill, names, List.mem_append, h1, h2]
    constructor
    · rintro (⟨y, a, b⟩ | ⟨y, a, b⟩)
      · exact ⟨y, .inl a, b⟩
      · exact ⟨y, .inr a, b⟩
    · rintro ⟨y, a | a, b⟩
      · exact .inl ⟨y, a, b⟩
      · exact .inr ⟨y, a, b⟩
theorem fill_fill (s1 s2 : Str → Option Fm) : ∀ t : Fm, (t.fill s1).fill s2 = t.fill fun y => some (((s1 y).getD (name y)).fill s2)
  | name x => rfl
  | one => rfl
  | none => rfl
  | bin j t u => by show bin _ _ _ = bin _ _ _; rw [fill_fill s1 s2 t, fill_fill s1 s2 u]
theorem fill_id {s : Str → Option Fm} : ∀ {t : Fm}, (∀ x ∈ t.names, s x = .none) → t.fill s = t
  | name x, h => by simp [fill, h x (by simp [names])]
  | one, _ => rfl
  | none, _ => rfl
  | bin j t u, h => by
    show bin _ _ _ = bin _ _ _
    rw [fill_id (t := t) fun x hx => h x (List.mem_append_left _ hx), fill_id (t := u) fun x hx => h x (List.mem_append_right _ hx)]
theorem fill_congr {s s' : Str → Option Fm} : ∀ {t : Fm}, (∀ x ∈ t.names, (s x).getD (.name x) = (s' x).getD (.name x)) → t.fill s = t.fill s'
  | name x, h => h x (by simp [names])
  | one, _ => rfl
  | none, _ => rfl
  | bin j t u, h => by
    show bin _ _ _ = bin _ _ _
    rw [fill_congr (t := t) fun x hx => h x (List.mem_append_left _ hx), fill_congr (t := u) fun x hx => h x (List.mem_append_right _ hx)]
/-- a name within a formula that is not the name is smaller, whatever is put in -/
theorem sz_in {s : Str → Option Fm} {x : Str} : ∀ {t : Fm}, x ∈ t.names → t ≠ name x → ((name x).fill s).sz < (t.fill s).sz
  | name y, h, n => by
    have e : x = y := by simpa [names] using h
    exact absurd (by rw [e]) n
  | one, h, _ => by cases h
  | none, h, _ => by cases h
  | bin j t u, h, _ => by
    rcases List.mem_append.mp h with h | h
    · have : ((name x).fill s).sz ≤ (t.fill s).sz := by
        by_cases e : t = name x
        · subst e; exact Nat.le_refl _
        · exact Nat.le_of_lt (sz_in (t := t) h e)
      simp only [fill, sz] at this ⊢; omega
    · have : ((name x).fill s).sz ≤ (u.fill s).sz := by
        by_cases e : u = name x
        · subst e; exact Nat.le_refl _
        · exact Nat.le_of_lt (sz_in (t := u) h e)
      simp only [fill, sz] at this ⊢; omega
end Fm
/-- a table's dict -/
def TabA (K : PySem.W.Frag) (H : Hp) (a : Addr) (l : List (Str × Fm)) : Prop := ∃ kvs, dctF H a = some kvs ∧ TabK K H kvs l
theorem TabA.ext {K : PySem.W.Frag} {S : List Addr} {H H' : Hp} {a : Addr} {l : List (Str × Fm)} (e : Ext S H H') (n : a ∉ S) : TabA K H a l → TabA K H' a l := fun ⟨kvs, h, r⟩ => ⟨kvs, dctF_ext e n h, r.ext e⟩
theorem TabA.ext0 {K : PySem.W.Frag} {H H' : Hp} {a : Addr} {l : List (Str × Fm)} (e : Ext [] H H') : TabA K H a l → TabA K H' a l := TabA.ext e (fun z => nomatch z)
abbrev Tab := List (Str × Fm)
theorem lk_map (g : Fm → Fm) (n : Str) : ∀ l : Tab, lk (l.map fun p => (p.1, g p.2)) n = (lk l n).map g
  | [] => rfl
  | (k, t) :: l => by
    show (if k = n then some (g t) else lk (l.map _) n) = (if k = n then some t else lk l n).map g
    by_cases e : k = n
    · simp [e]
    · simp only [if_neg e]; exact lk_map g n l
theorem lk_mem {l : Tab} {n : Str} {t : Fm} (h : lk l n = some t) : (n, t) ∈ l := by
  induction l with
  | nil => cases h
  | cons p l ih =>
    obtain ⟨k, u⟩ := p
    simp only [lk] at h
    split at h
    · rename_i e; cases h; subst e; exact List.mem_cons_self
    · exact List.mem_cons_of_mem _ (ih h)
theorem lk_none {l : Tab} {n : Str} : lk l n = none ↔ n ∉ l.map (·.1) := by
  induction l with
  | nil => simp [lk]
  | cons p l ih =>
    obtain ⟨k, u⟩ := p
    simp only [lk, List.map_cons, List.mem_cons, not_or]
    by_cases e : k = n
    · simp [e]
    · rw [if_neg e, ih]
      exact ⟨fun h => ⟨fun z => e z.symm, h⟩, fun h => h.2⟩
theorem lk_snoc {l : Tab} {n : Str} {t : Fm} (h : lk l n = none) (x : Str) : lk (l ++ [(n, t)]) x = if x = n then some t else lk l x := by
  induction l with
  | nil =>
    by_cases e : x = n
    · subst e; simp [lk]
    · have : ¬ n = x := fun z => e z.symm
      simp [lk, e, this]
  | cons p l ih =>
    obtain ⟨k, u⟩ := p
    simp only [lk] at h
    split at h
    · cases h
    · rename_i hk
      have ih := ih h
      simp only [List.cons_append, lk]
      by_cases e : k = x
      · have : ¬ x = n := fun z => hk (e.trans z)
        simp [e, this]
      · simp only [if_neg e]; exact ih
end Sq
set_option Elab.async false
set_option linter.all false
set_option maxRecDepth 100000
set_option maxHeartbeats 2000000
namespace Sq
open PySem PySem.Spec PyProof.Rows L2
/-! ### formulas made alike: fr, the names that are free -/
def Fm.isV (fr : List Str) : Fm → Bool
  | .name x => decide (x ∈ fr)
  | _ => false
/-- one name's formula -/
def one1 (x : Str) (o : Fm) : Str → Option Fm := lk [(x, o)]
def bindT (l : Tab) (x : Str) (o : Fm) : Tab := putL (l.map fun p => (p.1, p.2.fill (one1 x o))) x o
abbrev FP := List (Fm × Fm)
inductive Stp
  | out (r : Option Tab)
  | go (l : Tab) (rl : FP)
/-- a pair that is unlike, the free name ahead -/
def stepQ (fr : List Str) (l : Tab) (rest : FP) (p o : Fm) : Stp := match p with
  | .name x => if x ∈ fr then (if x ∈ o.names then .out none else .go (bindT l x o) rest) else .out none
  | .bin j s t => (match o with
    | .bin k s' t' => if j = k then .go l ((t, t') :: (s, s') :: rest) else .out none
    | _ => .out none)
  | _ => .out none
def stepP (fr : List Str) (l : Tab) (rest : FP) (t u : Fm) : Stp :=
  if t = u then .go l rest else if u.isV fr = true ∧ t.isV fr = false then stepQ fr l rest u t else stepQ fr l rest t u
/-- one turn; the pairs still left, the last first -/
def stepU (fr : List Str) (l : Tab) : FP → Stp
  | [] => .out (some l)
  | (t, u) :: rest => stepP fr l rest (t.fill (lk l)) (u.fill (lk l))
def runU (fr : List Str) : Nat → Tab → FP → Option (Option Tab)
  | 0, _, _ => none
  | n + 1, l, rl => match stepU fr l rl with
    | .out r => some r
    | .go l rl => runU fr n l rl
def EB (k : Nat) : Nat := 5 * 2 ^ k + 1
theorem EB_succ (k : Nat) : EB (k + 1) + 1 = 2 * EB k := by unfold EB; rw [Nat.pow_succ]; omega
theorem EB_le {k : Nat} (h : k ≤ 2) : EB k ≤ 21 := by
  unfold EB
  have : 2 ^ k ≤ 2 ^ 2 := Nat.pow_le_pow_right (by omega) h
  omega
structure UI (NS fr : List Str) (l : Tab) (rl : FP) : Prop where
  nd : (l.map (·.1)).Nodup
  keys : ∀ n ∈ l.map (·.1), n ∈ fr
  vals : ∀ n t, (n, t) ∈ l → (∀ x ∈ t.names, x ∈ NS ∧ lk l x = none) ∧ t.dep ≤ EB l.length
  prs : ∀ t u, (t, u) ∈ rl → ((∀ x ∈ t.names, x ∈ NS) ∧ (t.fill (lk l)).dep ≤ EB l.length) ∧ (∀ x ∈ u.names, x ∈ NS) ∧ (u.fill (lk l)).dep ≤ EB l.length
section
variable {NS fr : List Str}
theorem UI.fresh {l : Tab} {rl : FP} (h : UI NS fr l rl) {t : Fm} (ht : ∀ x ∈ t.names, x ∈ NS) : ∀ x ∈ (t.fill (lk l)).names, x ∈ NS ∧ lk l x = none := fun x hx => by
  obtain ⟨y, hy, hxy⟩ := Fm.names_fill.mp hx
  cases e : lk l y with
  | none =>
    rw [e] at hxy
    have : x = y := by simpa [Fm.names] using hxy
    subst this
    exact ⟨ht x hy, e⟩
  | some w =>
    rw [e] at hxy
    exact (h.vals y w (lk_mem e)).1 x hxy
theorem UI.len {l : Tab} {rl : FP} (h : UI NS fr l rl) : l.length ≤ fr.length := by
  have := nodup_sub h.nd h.keys
  rwa [List.length_map] at this
theorem one1_at {x y : Str} {o : Fm} : one1 x o y = if x = y then some o else none := rfl
theorem bindT_eq {l : Tab} {x : Str} {o : Fm} (h : lk l x = none) : bindT l x o = (l.map fun p => (p.1, p.2.fill (one1 x o))) ++ [(x, o)] := by
  unfold bindT putL
  rw [lk_map (fun t => t.fill (one1 x o)), h]
  rfl
theorem lk_bind {l : Tab} {x : Str} {o : Fm} (h : lk l x = none) (y : Str) : lk (bindT l x o) y = if y = x then some o else (lk l y).map (Fm.fill (one1 x o)) := by
  rw [bindT_eq h, lk_snoc (by rw [lk_map (fun t => t.fill (one1 x o)), h]; rfl), lk_map (fun t => t.fill (one1 x o))]
theorem fill_bind {l : Tab} {x : Str} {o : Fm} (h : lk l x = none) (t : Fm) : t.fill (lk (bindT l x o)) = (t.fill (lk l)).fill (one1 x o) := by
  rw [Fm.fill_fill]
  refine Fm.fill_congr fun y _ => ?_
  rw [lk_bind h]
  by_cases e : y = x
  · subst e
    rw [if_pos rfl, h]
    simp [Fm.fill, one1_at]
  · rw [if_neg e]
    cases lk l y with
    | none =>
      have : ¬ x = y := fun z => e z.symm
      simp [Fm.fill, one1_at, this]
    | some w => rfl
theorem dep_one {x : Str} {o t : Fm} : (t.fill (one1 x o)).dep + 1 ≤ t.dep + o.dep := Fm.dep_fill_le o.dep_pos fun y u _ h => by
  rw [one1_at] at h
  split at h
  · cases h; exact Nat.le_refl _
  · cases h
theorem UI.bind {l : Tab} {rl : FP} (h : UI NS fr l rl) {x : Str} {o : Fm} (hx : x ∈ fr) (hl : lk l x = none) (ho : ∀ y ∈ o.names, y ∈ NS ∧ lk l y = none) (hxo : x ∉ o.names) (hd : o.dep ≤ EB l.length) : UI NS fr (bindT l x o) rl := by
  have hlen : (bindT l x o).length = l.length + 1 := by rw [bindT_eq hl]; simp
  have hE := EB_succ l.length
  have mapfst : (bindT l x o).map (·.1) = l.map (·.1) ++ [x] := by
    rw [bindT_eq hl]
    simp
  have fresh : ∀ y, lk l y = none → y ≠ x → lk (bindT l x o) y = none := fun y h1 h2 => by rw [lk_bind hl, if_neg h2, h1]; rfl
  refine ⟨?_, fun n hn => ?_, fun n t hm => ?_, fun t u hm => ?_⟩
  · rw [mapfst]
    exact List.nodup_append.mpr ⟨h.nd, by simp, fun a ha b hb e => by
      have e' : b = x := by simpa using hb
      subst e' e
      exact (lk_none.mp hl) ha⟩
  · rw [mapfst] at hn
    rcases List.mem_append.mp hn with z | z
    · exact h.keys n z
    · have : n = x := by simpa using z
      rw [this]; exact hx
  · rw [hlen]
    rw [bindT_eq hl] at hm
    rcases List.mem_append.mp hm with z | z
    · obtain ⟨⟨n', w⟩, hw, e⟩ := List.mem_map.mp z
      cases e
      obtain ⟨h1, h2⟩ := h.vals n' w hw
      refine ⟨fun y hy => ?_, by have := dep_one (x := x) (o := o) (t := w); show (Fm.fill (one1 x o) w).dep ≤ _; omega⟩
      obtain ⟨z, hz, hyz⟩ := Fm.names_fill.mp hy
      rw [one1_at] at hyz
      by_cases e : x = z
      · rw [if_pos e] at hyz
        have hy' : y ∈ o.names := hyz
        obtain ⟨a, b⟩ := ho y hy'
        exact ⟨a, fresh y b fun e => hxo (e ▸ hy')⟩
      · rw [if_neg e] at hyz
        have e2 : y = z := by simpa [Fm.names] using hyz
        subst e2
        obtain ⟨a, b⟩ := h1 y hz
        exact ⟨a, fresh y b fun z => e z.symm⟩
    · have e : n = x ∧ t = o := by simpa using z
      obtain ⟨rfl, rfl⟩ := e
      exact ⟨fun y hy => let ⟨a, b⟩ := ho y hy; ⟨a, fresh y b fun e => hxo (e ▸ hy)⟩, by omega⟩
  · obtain ⟨⟨a1, a2⟩, b1, b2⟩ := h.prs t u hm
    rw [hlen, fill_bind hl, fill_bind hl]
    exact ⟨⟨a1, by have := dep_one (x := x) (o := o) (t := t.fill (lk l)); omega⟩, b1, by have := dep_one (x := x) (o := o) (t := u.fill (lk l)); omega⟩
def szP (l : Tab) (rl : FP) : Nat := (rl.map fun p => (p.1.fill (lk l)).sz + (p.2.fill (lk l)).sz).sum
theorem UI.tail {l : Tab} {p : Fm × Fm} {rl : FP} (h : UI NS fr l (p :: rl)) : UI NS fr l rl := ⟨h.nd, h.keys, h.vals, fun t u hm => h.prs t u (List.mem_cons_of_mem _ hm)⟩
theorem UI.split {l : Tab} {rl : FP} (h : UI NS fr l rl) {j k : Jn} {s t s' t' : Fm} (hp : ∀ y ∈ (Fm.bin j s t).names, y ∈ NS ∧ lk l y = none) (ho : ∀ y ∈ (Fm.bin k s' t').names, y ∈ NS ∧ lk l y = none) (dp : (Fm.bin j s t).dep ≤ EB l.length) (dO : (Fm.bin k s' t').dep ≤ EB l.length) : UI NS fr l ((t, t') :: (s, s') :: rl) := by
  have f : ∀ {r : Fm}, (∀ y ∈ r.names, y ∈ NS ∧ lk l y = none) → r.fill (lk l) = r := fun h => Fm.fill_id fun x hx => (h x hx).2
  have ps : ∀ y ∈ s.names, y ∈ NS ∧ lk l y = none := fun y hy => hp y (List.mem_append_left _ hy)
  have pt : ∀ y ∈ t.names, y ∈ NS ∧ lk l y = none := fun y hy => hp y (List.mem_append_right _ hy)
  have os : ∀ y ∈ s'.names, y ∈ NS ∧ lk l y = none := fun y hy => ho y (List.mem_append_left _ hy)
  have ot : ∀ y ∈ t'.names, y ∈ NS ∧ lk l y = none := fun y hy => ho y (List.mem_append_right _ hy)
  simp only [Fm.dep] at dp dO
  refine ⟨h.nd, h.keys, h.vals, fun a b hm => ?_⟩
  rcases List.mem_cons.mp hm with z | hm
  · cases z
    rw [f pt, f ot]
    exact ⟨⟨fun x hx => (pt x hx).1, by omega⟩, fun x hx => (ot x hx).1, by omega⟩
  · rcases List.mem_cons.mp hm with z | hm
    · cases z
      rw [f ps, f os]
      exact ⟨⟨fun x hx => (ps x hx).1, by omega⟩, fun x hx => (os x hx).1, by omega⟩
    · exact h.prs a b hm
theorem split_sz {l : Tab} {rl : FP} {j k : Jn} {s t s' t' : Fm} (hp : ∀ y ∈ (Fm.bin j s t).names, lk l y = none) (ho : ∀ y ∈ (Fm.bin k s' t').names, lk l y = none) : szP l ((t, t') :: (s, s') :: rl) < (Fm.bin j s t).sz + (Fm.bin k s' t').sz + szP l rl := by
  unfold szP
  simp only [List.map_cons, List.sum_cons]
  rw [Fm.fill_id fun x hx => hp x (List.mem_append_right _ hx), Fm.fill_id fun x hx => ho x (List.mem_append_right _ hx), Fm.fill_id fun x hx => hp x (List.mem_append_left _ hx), Fm.fill_id fun x hx => ho x (List.mem_append_left _ hx)]
  simp only [Fm.sz]
  omega
/-- one turn keeps what holds, and goes down -/
theorem step_ok {l : Tab} {rl : FP} (h : UI NS fr l rl) : match stepU fr l rl with
    | .out r => r = some l → rl = []
    | .go l' rl' => UI NS fr l' rl' ∧ (l'.length = l.length + 1 ∨ (l' = l ∧ szP l rl' < szP l rl)) := by
  cases rl with
  | nil => exact fun _ => rfl
  | cons pr rest =>
    obtain ⟨t, u⟩ := pr
    obtain ⟨⟨a1, a2⟩, b1, b2⟩ := h.prs t u List.mem_cons_self
    have ft := h.fresh a1
    have fu := h.fresh b1
    have hs : szP l ((t, u) :: rest) = (t.fill (lk l)).sz + (u.fill (lk l)).sz + szP l rest := by simp [szP]
    show match stepP fr l rest (t.fill (lk l)) (u.fill (lk l)) with
      | .out r => r = some l → (t, u) :: rest = []
      | .go l' rl' => UI NS fr l' rl' ∧ (l'.length = l.length + 1 ∨ (l' = l ∧ szP l rl' < szP l ((t, u) :: rest)))
    revert ft fu a2 b2 hs
    generalize t.fill (lk l) = t'
    generalize u.fill (lk l) = u'
    intro a2 b2 ft fu hs
    unfold stepP
    by_cases e : t' = u'
    · rw [if_pos e]
      refine ⟨h.tail, .inr ⟨rfl, ?_⟩⟩
      have := t'.sz_pos
      omega
    · rw [if_neg e]
      have key : ∀ p o : Fm, (∀ y ∈ p.names, y ∈ NS ∧ lk l y = none) → (∀ y ∈ o.names, y ∈ NS ∧ lk l y = none) → p.dep ≤ EB l.length → o.dep ≤ EB l.length → p.sz + o.sz + szP l rest = szP l ((t, u) :: rest) →
          (match stepQ fr l rest p o with
          | .out r => r = some l → (t, u) :: rest = []
          | .go l' rl' => UI NS fr l' rl' ∧ (l'.length = l.length + 1 ∨ (l' = l ∧ szP l rl' < szP l ((t, u) :: rest)))) := by
        intro p o hp ho dp dO hsz
        cases p with
        | name x =>
          obtain ⟨x1, x2⟩ := hp x (by simp [Fm.names])
          unfold stepQ
          by_cases xf : x ∈ fr
          · simp only [if_pos xf]
            by_cases z : x ∈ o.names
            · simp only [if_pos z]
              exact fun z => by cases z
            · simp only [if_neg z]
              exact ⟨h.tail.bind xf x2 ho z dO, .inl (by rw [bindT_eq x2]; simp)⟩
          · simp only [if_neg xf]
            exact fun z => by cases z
        | one => exact fun z => by cases z
        | none => exact fun z => by cases z
        | bin j s r =>
          cases o with
          | bin k s' r' =>
            unfold stepQ
            by_cases z : j = k
            · simp only [if_pos z]
              exact ⟨h.tail.split hp ho dp dO, .inr ⟨by trivial, by have := split_sz (rl := rest) (fun y hy => (hp y hy).2) (fun y hy => (ho y hy).2); omega⟩⟩
            · simp only [if_neg z]
              exact fun z => by cases z
          | _ => exact fun z => by cases z
      by_cases hv : u'.isV fr = true ∧ t'.isV fr = false
      · rw [if_pos hv]
        exact key u' t' fu ft b2 a2 (by omega)
      · rw [if_neg hv]
        exact key t' u' ft fu a2 b2 hs.symm
theorem run_ends (h4 : fr.length ≤ 2) : ∀ (f m : Nat) (l : Tab) (rl : FP), UI NS fr l rl → 2 - l.length ≤ f → szP l rl ≤ m → ∃ n r, runU fr n l rl = some r := by
  intro f
  induction f with
  | zero =>
    intro m
    induction m with
    | zero =>
      intro l rl h hf hm
      have hs := step_ok h
      cases e : stepU fr l rl with
      | out r => exact ⟨1, r, by simp [runU, e]⟩
      | go l' rl' =>
        rw [e] at hs
        obtain ⟨h', hd⟩ := hs
        have := h'.len
        have := h.len
        rcases hd with z | ⟨_, z⟩ <;> omega
    | succ m ih =>
      intro l rl h hf hm
      have hs := step_ok h
      cases e : stepU fr l rl with
      | out r => exact ⟨1, r, by simp [runU, e]⟩
      | go l' rl' =>
        rw [e] at hs
        obtain ⟨h', hd⟩ := hs
        have := h'.len
        have := h.len
        rcases hd with z | ⟨z1, z⟩
        · omega
        · subst z1
          obtain ⟨n, r, hr⟩ := ih l' rl' h' hf (by omega)
          exact ⟨n + 1, r, by simp [runU, e, hr]⟩
  | succ f ihf =>
    intro m
    induction m with
    | zero =>
      intro l rl h hf hm
      have hs := step_ok h
      cases e : stepU fr l rl with
      | out r => exact ⟨1, r, by simp [runU, e]⟩
      | go l' rl' =>
        rw [e] at hs
        obtain ⟨h', hd⟩ := hs
        rcases hd with z | ⟨_, z⟩
        · obtain ⟨n, r, hr⟩ := ihf _ l' rl' h' (by omega) (Nat.le_refl _)
          exact ⟨n + 1, r, by simp [runU, e, hr]⟩
        · omega
    | succ m ih =>
      intro l rl h hf hm
      have hs := step_ok h
      cases e : stepU fr l rl with
      | out r => exact ⟨1, r, by simp [runU, e]⟩
      | go l' rl' =>
        rw [e] at hs
        obtain ⟨h', hd⟩ := hs
        rcases hd with z | ⟨z1, z⟩
        · obtain ⟨n, r, hr⟩ := ihf _ l' rl' h' (by omega) (Nat.le_refl _)
          exact ⟨n + 1, r, by simp [runU, e, hr]⟩
        · subst z1
          obtain ⟨n, r, hr⟩ := ih l' rl' h' hf (by omega)
          exact ⟨n + 1, r, by simp [runU, e, hr]⟩
/-! ### what it tells -/
theorem fill_theta {th : Str → Option Fm} {l : Tab} (h : ∀ n t, (n, t) ∈ l → (Fm.name n).fill th = t.fill th) (t : Fm) : (t.fill (lk l)).fill th = t.fill th := by
  rw [Fm.fill_fill]
  refine Fm.fill_congr fun y _ => ?_
  show ((lk l y).getD (.name y)).fill th = (Fm.name y).fill th
  cases e : lk l y with
  | none => rfl
  | some w => exact (h y w (lk_mem e)).symm
theorem fill_one {th : Str → Option Fm} {x : Str} {o : Fm} (h : (Fm.name x).fill th = o.fill th) (t : Fm) : (t.fill (one1 x o)).fill th = t.fill th :=
  fill_theta (l := [(x, o)]) (fun n t hm => by
    have e : n = x ∧ t = o := by simpa using hm
    obtain ⟨rfl, rfl⟩ := e
    exact h) t
/-- a way: formulas for free names alone -/
def Way (fr : List Str) (th : Str → Option Fm) : Prop := ∀ x, x ∉ fr → th x = none
theorem way_hd {th : Str → Option Fm} (w : Way fr th) {p o : Fm} (hp : p.isV fr = false) (ho : o.isV fr = false) (h : p.fill th = o.fill th) : (∃ x, p = .name x ∧ o = .name x) ∨ (p.isN = false ∧ o.isN = false) := by
  have nm : ∀ {q : Fm}, q.isV fr = false → ∀ x, q = .name x → q.fill th = .name x := fun {q} hq x e => by
    subst e
    have : x ∉ fr := by simpa [Fm.isV] using hq
    show (th x).getD _ = _
    rw [w x this]; rfl
  cases p with
  | name x =>
    rw [nm hp x rfl] at h
    cases o with
    | name y =>
      rw [nm ho y rfl] at h
      exact .inl ⟨x, rfl, h.symm⟩
    | _ => cases h
  | _ =>
    cases o with
    | name y => rw [nm ho y rfl] at h; cases h
    | _ => exact .inr ⟨rfl, rfl⟩
/-- what can be made alike is made alike; and each way is a case of what is told -/
theorem run_tells {th : Str → Option Fm} (w : Way fr th) : ∀ (n : Nat) (l : Tab) (rl : FP), UI NS fr l rl → (∀ t u, (t, u) ∈ rl → t.fill th = u.fill th) → (∀ n t, (n, t) ∈ l → (Fm.name n).fill th = t.fill th) →
    runU fr n l rl ≠ some none ∧ ∀ l', runU fr n l rl = some (some l') → ∀ n t, (n, t) ∈ l' → (Fm.name n).fill th = t.fill th
  | 0, _, _, _, _, _ => ⟨(fun h => by cases h), (fun _ h => by cases h)⟩
  | n + 1, l, [], hU, hp, hl => by
    have e : runU fr (n + 1) l [] = some (some l) := rfl
    rw [e]
    exact ⟨by simp, fun l' h => by cases h; exact hl⟩
  | n + 1, l, (t, u) :: rest, hU, hp, hl => by
    have e0 : runU fr (n + 1) l ((t, u) :: rest) = (match stepP fr l rest (t.fill (lk l)) (u.fill (lk l)) with | .out r => some r | .go l rl => runU fr n l rl) := rfl
    rw [e0]
    clear e0
    obtain ⟨⟨a1, a2⟩, b1, b2⟩ := hU.prs t u List.mem_cons_self
    have ft := hU.fresh a1
    have fu := hU.fresh b1
    have eq : (t.fill (lk l)).fill th = (u.fill (lk l)).fill th := by rw [fill_theta hl, fill_theta hl]; exact hp t u List.mem_cons_self
    have hrest : ∀ t u, (t, u) ∈ rest → t.fill th = u.fill th := fun t u hm => hp t u (List.mem_cons_of_mem _ hm)
    revert ft fu a2 b2 eq
    generalize t.fill (lk l) = t'
    generalize u.fill (lk l) = u'
    intro a2 b2 ft fu eq
    have key : ∀ p o : Fm, p ≠ o → (p.isV fr = false → o.isV fr = false) → (∀ y ∈ p.names, y ∈ NS ∧ lk l y = none) → (∀ y ∈ o.names, y ∈ NS ∧ lk l y = none) → p.dep ≤ EB l.length → o.dep ≤ EB l.length → p.fill th = o.fill th →
        (match stepQ fr l rest p o with | .out r => some r | .go l rl => runU fr n l rl) ≠ some none ∧ ∀ l', (match stepQ fr l rest p o with | .out r => some r | .go l rl => runU fr n l rl) = some (some l') → ∀ n t, (n, t) ∈ l' → (Fm.name n).fill th = t.fill th := by
      intro p o hne hno hpn hon dp dO hpo
      by_cases hpv : p.isV fr = true
      · cases p with
        | name x =>
          have xf : x ∈ fr := by simpa [Fm.isV] using hpv
          obtain ⟨x1, x2⟩ := hpn x (by simp [Fm.names])
          unfold stepQ
          simp only [if_pos xf]
          by_cases z : x ∈ o.names
          · have := Fm.sz_in (s := th) z (fun e => hne e.symm)
            rw [hpo] at this
            omega
          · simp only [if_neg z]
            refine run_tells w n _ rest (hU.tail.bind xf x2 hon z dO) hrest (fun n' t' hm' => ?_)
            rw [bindT_eq x2] at hm'
            rcases List.mem_append.mp hm' with w | w
            · obtain ⟨⟨n0, t0⟩, h0, e⟩ := List.mem_map.mp w
              cases e
              show _ = (t0.fill (one1 x o)).fill th
              rw [fill_one hpo]
              exact hl n0 t0 h0
            · have e : n' = x ∧ t' = o := by simpa using w
              obtain ⟨rfl, rfl⟩ := e
              exact hpo
        | _ => cases hpv
      · have hpv : p.isV fr = false := by simpa using hpv
        rcases way_hd w hpv (hno hpv) hpo with ⟨x, e1, e2⟩ | ⟨n1, n2⟩
        · exact absurd (e1.trans e2.symm) hne
        · cases p with
          | name x => cases n1
          | one => cases o with
            | one => exact absurd rfl hne
            | name y => cases n2
            | _ => cases hpo
          | none => cases o with
            | none => exact absurd rfl hne
            | name y => cases n2
            | _ => cases hpo
          | bin j s r => cases o with
            | name y => cases n2
            | one => cases hpo
            | none => cases hpo
            | bin k s' r' =>
              have hpo' : Fm.bin j (s.fill th) (r.fill th) = Fm.bin k (s'.fill th) (r'.fill th) := hpo
              injection hpo' with e1 e2 e3
              unfold stepQ
              simp only [if_pos e1]
              refine run_tells w n l _ (hU.tail.split hpn hon dp dO) (fun a b hm => ?_) hl
              rcases List.mem_cons.mp hm with z | hm
              · cases z; exact e3
              · rcases List.mem_cons.mp hm with z | hm
                · cases z; exact e2
                · exact hrest a b hm
    unfold stepP
    by_cases e : t' = u'
    · rw [if_pos e]
      exact run_tells w n l rest hU.tail hrest hl
    · rw [if_neg e]
      by_cases hv : u'.isV fr = true ∧ t'.isV fr = false
      · rw [if_pos hv]
        exact key u' t' (fun z => e z.symm) (fun z => by rw [hv.1] at z; cases z) fu ft b2 a2 eq.symm
      · rw [if_neg hv]
        exact key t' u' e (fun z => by
          cases hx : u'.isV fr with
          | false => rfl
          | true => exact absurd ⟨hx, z⟩ hv) ft fu a2 b2 eq
/-- it makes the pairs alike -/
theorem run_alike : ∀ (n : Nat) (l : Tab) (rl : FP) (l' : Tab), UI NS fr l rl → runU fr n l rl = some (some l') →
    (∀ t : Fm, (t.fill (lk l)).fill (lk l') = t.fill (lk l')) ∧ (∀ t u, (t, u) ∈ rl → t.fill (lk l') = u.fill (lk l'))
  | 0, _, _, _, _, h => by cases h
  | n + 1, l, [], l', hU, h => by
    have e : runU fr (n + 1) l [] = some (some l) := rfl
    rw [e] at h
    cases h
    refine ⟨fun t => ?_, (fun t u z => by cases z)⟩
    refine Fm.fill_id fun x hx => ?_
    obtain ⟨y, hy, hxy⟩ := Fm.names_fill.mp hx
    cases e : lk l y with
    | none =>
      rw [e] at hxy
      have : x = y := by simpa [Fm.names] using hxy
      subst this
      exact e
    | some w =>
      rw [e] at hxy
      exact ((hU.vals y w (lk_mem e)).1 x hxy).2
  | n + 1, l, (t, u) :: rest, l', hU, h => by
    have hm : (match stepP fr l rest (t.fill (lk l)) (u.fill (lk l)) with | .out r => some r | .go l rl => runU fr n l rl) = some (some l') := h
    obtain ⟨⟨a1, a2⟩, b1, b2⟩ := hU.prs t u List.mem_cons_self
    have ft := hU.fresh a1
    have fu := hU.fresh b1
    suffices key : (∀ t : Fm, (t.fill (lk l)).fill (lk l') = t.fill (lk l')) ∧ ((t.fill (lk l)).fill (lk l') = (u.fill (lk l)).fill (lk l')) ∧ (∀ t u, (t, u) ∈ rest → t.fill (lk l') = u.fill (lk l')) by
      obtain ⟨k1, k2, k3⟩ := key
      refine ⟨k1, fun t' u' hm' => ?_⟩
      rcases List.mem_cons.mp hm' with z | z
      · cases z; exact (k1 _).symm.trans (k2.trans (k1 _))
      · exact k3 t' u' z
    revert hm ft fu a2 b2
    generalize t.fill (lk l) = t'
    generalize u.fill (lk l) = u'
    intro hm a2 b2 ft fu
    unfold stepP at hm
    have key : ∀ p o : Fm, (∀ y ∈ p.names, y ∈ NS ∧ lk l y = none) → (∀ y ∈ o.names, y ∈ NS ∧ lk l y = none) → p.dep ≤ EB l.length → o.dep ≤ EB l.length →
        (match stepQ fr l rest p o with | .out r => some r | .go l rl => runU fr n l rl) = some (some l') →
        (∀ t : Fm, (t.fill (lk l)).fill (lk l') = t.fill (lk l')) ∧ (p.fill (lk l') = o.fill (lk l')) ∧ (∀ t u, (t, u) ∈ rest → t.fill (lk l') = u.fill (lk l')) := by
      intro p o hpn hon dp dO hmq
      cases p with
      | name x =>
        obtain ⟨x1, x2⟩ := hpn x (by simp [Fm.names])
        unfold stepQ at hmq
        by_cases xf : x ∈ fr
        · simp only [if_pos xf] at hmq
          by_cases z : x ∈ o.names
          · simp only [if_pos z] at hmq
            cases hmq
          · simp only [if_neg z] at hmq
            obtain ⟨r1, r2⟩ := run_alike n _ rest l' (hU.tail.bind xf x2 hon z dO) hmq
            have h3 : (Fm.name x).fill (one1 x o) = o := by show (one1 x o x).getD _ = o; rw [one1_at, if_pos rfl]; rfl
            have one : ∀ w : Fm, (w.fill (one1 x o)).fill (lk l') = w.fill (lk l') := fun w => by
              refine fill_one ?_ w
              have h1 := r1 (.name x)
              rw [fill_bind x2] at h1
              have h2 : ((Fm.name x).fill (lk l)) = .name x := Fm.fill_id fun y hy => by
                have : y = x := by simpa [Fm.names] using hy
                rw [this]; exact x2
              rw [h2, h3] at h1
              exact h1.symm
            refine ⟨fun w => ?_, ?_, r2⟩
            · have h1 := r1 w
              rw [fill_bind x2, one] at h1
              exact h1
            · have := one (.name x)
              rw [h3] at this
              exact this.symm
        · simp only [if_neg xf] at hmq
          cases hmq
      | one => cases hmq
      | none => cases hmq
      | bin j s r =>
        cases o with
        | bin k s' r' =>
          unfold stepQ at hmq
          by_cases e1 : j = k
          · simp only [if_pos e1] at hmq
            obtain ⟨r1, r2⟩ := run_alike n l _ l' (hU.tail.split hpn hon dp dO) hmq
            refine ⟨r1, ?_, fun t u z => r2 t u (List.mem_cons_of_mem _ (List.mem_cons_of_mem _ z))⟩
            show Fm.bin _ _ _ = Fm.bin _ _ _
            rw [e1, r2 r r' List.mem_cons_self, r2 s s' (List.mem_cons_of_mem _ List.mem_cons_self)]
          · simp only [if_neg e1] at hmq
            cases hmq
        | _ => cases hmq
    by_cases e : t' = u'
    · rw [if_pos e] at hm
      obtain ⟨r1, r2⟩ := run_alike n l rest l' hU.tail hm
      exact ⟨r1, by rw [e], r2⟩
    · rw [if_neg e] at hm
      by_cases hv : u'.isV fr = true ∧ t'.isV fr = false
      · rw [if_pos hv] at hm
        obtain ⟨k1, k2, k3⟩ := key u' t' fu ft b2 a2 hm
        exact ⟨k1, k2.symm, k3⟩
      · rw [if_neg hv] at hm
        exact key t' u' ft fu a2 b2 hm
end
end Sq
set_option Elab.async false
set_option linter.all false
set_option maxRecDepth 100000
set_option maxHeartbeats 2000000
namespace Sq
open PySem PySem.Spec PyProof.Rows L2
/-! ### how many pairs wait -/
/-- how many pairs are left at most -/
def SB : Nat → Nat
  | 0 => 2
  | k + 1 => SB k + EB k
def Stair (l : Tab) (D : Nat) : List (Fm × Fm) → Prop
  | [] => True
  | p :: A => ((p.1.fill (lk l)).dep + A.length ≤ D ∧ (p.2.fill (lk l)).dep + A.length ≤ D) ∧ Stair l D A
def LenI (l : Tab) (rl : List (Fm × Fm)) : Prop := ∃ A B, rl = A ++ B ∧ B.length ≤ SB l.length ∧ Stair l (EB l.length) A
theorem Stair.len {l : Tab} {D : Nat} : ∀ {A : List (Fm × Fm)}, Stair l D A → A.length ≤ D
  | [], _ => Nat.zero_le _
  | p :: A, ⟨⟨h, _⟩, _⟩ => by have := (p.1.fill (lk l)).dep_pos; rw [List.length_cons]; omega
theorem LenI.le {l : Tab} {rl : List (Fm × Fm)} (h : LenI l rl) (hl : l.length ≤ 2) : rl.length ≤ 200 := by
  obtain ⟨A, B, rfl, h1, h2⟩ := h
  have h3 := h2.len
  have h4 := EB_le hl
  have h5 : SB l.length ≤ SB 2 := by
    match l.length, hl with
    | 0, _ => decide
    | 1, _ => decide
    | 2, _ => decide
  have h6 : SB 2 = 19 := by decide
  rw [List.length_append]; omega
theorem LenI.tail {l : Tab} {p : Fm × Fm} {rest : List (Fm × Fm)} (h : LenI l (p :: rest)) : LenI l rest := by
  obtain ⟨A, B, e, h1, h2⟩ := h
  cases A with
  | nil =>
    rw [List.nil_append] at e
    subst e
    exact ⟨[], rest, rfl, by rw [List.length_cons] at h1; omega, trivial⟩
  | cons a A =>
    cases e
    exact ⟨A, B, rfl, h1, h2.2⟩
theorem LenI.bind {l l' : Tab} {rest : List (Fm × Fm)} (h : LenI l rest) (hl : l'.length = l.length + 1) : LenI l' rest := by
  obtain ⟨A, B, e, h1, h2⟩ := h
  refine ⟨[], rest, rfl, ?_, trivial⟩
  have := h2.len
  rw [hl, e, List.length_append]
  show _ ≤ SB l.length + EB l.length
  omega
theorem stair_push {l : Tab} {D : Nat} {A : List (Fm × Fm)} (h : Stair l D A) : ∀ {zs : List (Fm × Fm)}, zs.length ≤ 2 → (∀ z ∈ zs, (z.1.fill (lk l)).dep + A.length + 1 ≤ D ∧ (z.2.fill (lk l)).dep + A.length + 1 ≤ D) → Stair l D (zs ++ A)
  | [], _, _ => h
  | [z], _, f => by
    obtain ⟨a, b⟩ := f z (by simp)
    exact ⟨⟨by show _ + A.length ≤ D; omega, by show _ + A.length ≤ D; omega⟩, h⟩
  | [z, z'], _, f => by
    obtain ⟨a, b⟩ := f z (by simp)
    obtain ⟨a', b'⟩ := f z' (by simp)
    refine ⟨⟨?_, ?_⟩, ⟨by show _ + A.length ≤ D; omega, by show _ + A.length ≤ D; omega⟩, h⟩
    · show _ + (A.length + 1) ≤ D; omega
    · show _ + (A.length + 1) ≤ D; omega
theorem LenI.split {l : Tab} {t u : Fm} {rest zs : List (Fm × Fm)} {d : Nat} (h : LenI l ((t, u) :: rest)) (hz : zs.length ≤ 2) (ht : (t.fill (lk l)).dep ≤ EB l.length) (hu : (u.fill (lk l)).dep ≤ EB l.length)
    (hd : d = max (t.fill (lk l)).dep (u.fill (lk l)).dep) (f : ∀ z ∈ zs, (z.1.fill (lk l)).dep + 1 ≤ d ∧ (z.2.fill (lk l)).dep + 1 ≤ d) : LenI l (zs ++ rest) := by
  obtain ⟨A, B, e, h1, h2⟩ := h
  cases A with
  | nil =>
    rw [List.nil_append] at e
    subst e
    exact ⟨zs, rest, rfl, by rw [List.length_cons] at h1; omega, by
      have := stair_push (l := l) (D := EB l.length) (A := []) trivial hz fun z hz' => by
        obtain ⟨a, b⟩ := f z hz'
        simp only [List.length_nil]; omega
      rwa [List.append_nil] at this⟩
  | cons a A =>
    cases e
    obtain ⟨⟨a1, a2⟩, h3⟩ := h2
    refine ⟨zs ++ A, B, (List.append_assoc _ _ _).symm, h1, stair_push h3 hz fun z hz' => ?_⟩
    obtain ⟨a, b⟩ := f z hz'
    simp only at a1 a2
    omega
theorem LenI.args {l : Tab} {t u p o : Fm} {rest : List (Fm × Fm)} (h : LenI l ((t, u) :: rest)) (ht : (t.fill (lk l)).dep ≤ EB l.length) (hu : (u.fill (lk l)).dep ≤ EB l.length) (hp : ∀ y ∈ p.names, lk l y = none) (ho : ∀ y ∈ o.names, lk l y = none)
    (hpd : p.dep ≤ max (t.fill (lk l)).dep (u.fill (lk l)).dep) (hod : o.dep ≤ max (t.fill (lk l)).dep (u.fill (lk l)).dep) : LenI l ((p.args.zip o.args).reverse ++ rest) := by
  refine h.split (by rw [List.length_reverse, List.length_zip]; have := p.args_len; omega) ht hu rfl fun z hz => ?_
  obtain ⟨a, b⟩ := List.of_mem_zip (List.mem_reverse.mp hz)
  rw [Fm.fill_id fun x hx => hp x (Fm.names_arg a hx), Fm.fill_id fun x hx => ho x (Fm.names_arg b hx)]
  have := Fm.dep_arg a
  have := Fm.dep_arg b
  omega
theorem stepQ_ok {NS fr : List Str} {l : Tab} {t u p o : Fm} {rest : List (Fm × Fm)} {m : Nat} {r : Option Tab} (hU : UI NS fr l ((t, u) :: rest)) (h : LenI l ((t, u) :: rest)) (hp : ∀ y ∈ p.names, y ∈ NS ∧ lk l y = none) (ho : ∀ y ∈ o.names, y ∈ NS ∧ lk l y = none)
    (hpd : p.dep ≤ max (t.fill (lk l)).dep (u.fill (lk l)).dep) (hod : o.dep ≤ max (t.fill (lk l)).dep (u.fill (lk l)).dep) (hm : (match stepQ fr l rest p o with | .out r => some r | .go l rl => runU fr m l rl) = some r) :
    match stepQ fr l rest p o with | .out r' => r = r' | .go l' rl' => runU fr m l' rl' = some r ∧ UI NS fr l' rl' ∧ LenI l' rl' := by
  obtain ⟨⟨a1, a2⟩, b1, b2⟩ := hU.prs t u List.mem_cons_self
  have dO : o.dep ≤ EB l.length := by omega
  have dp : p.dep ≤ EB l.length := by omega
  cases p with
  | name x =>
    obtain ⟨x1, x2⟩ := hp x (by simp [Fm.names])
    unfold stepQ at hm ⊢
    by_cases xf : x ∈ fr
    · simp only [if_pos xf] at hm ⊢
      by_cases z : x ∈ o.names
      · simp only [if_pos z] at hm ⊢
        exact (Option.some.inj hm).symm
      · simp only [if_neg z] at hm ⊢
        exact ⟨hm, hU.tail.bind xf x2 ho z dO, h.tail.bind (by rw [bindT_eq x2]; simp)⟩
    · simp only [if_neg xf] at hm ⊢
      exact (Option.some.inj hm).symm
  | one => exact (Option.some.inj hm).symm
  | none => exact (Option.some.inj hm).symm
  | bin j s r' =>
    cases o with
    | bin k s' r'' =>
      unfold stepQ at hm ⊢
      by_cases z : j = k
      · simp only [if_pos z] at hm ⊢
        exact ⟨hm, hU.tail.split hp ho dp dO, h.args a2 b2 (fun y hy => (hp y hy).2) (fun y hy => (ho y hy).2) hpd hod⟩
      · simp only [if_neg z] at hm ⊢
        exact (Option.some.inj hm).symm
    | name y => exact (Option.some.inj hm).symm
    | one => exact (Option.some.inj hm).symm
    | none => exact (Option.some.inj hm).symm
def pairD (p : Fm × Fm) : PyData := .tuple [p.1.data, p.2.data]
theorem TdAll.unsnoc {K : PySem.W.Frag} {H : Hp} {d : PyData} : ∀ {ds : List PyData} {vs : List V}, TdAll K H vs (ds ++ [d]) → ∃ vs' v, vs = vs' ++ [v] ∧ TdAll K H vs' ds ∧ Td K H v d
  | [], _, .cons h .nil => ⟨[], _, rfl, .nil, h⟩
  | _ :: _, _, .cons h r => by
    obtain ⟨vs', v, rfl, r', h'⟩ := r.unsnoc
    exact ⟨_ :: vs', v, rfl, .cons h r', h'⟩
theorem pair_shaped {NS : List Str} (n : NsOk NS) : ∀ {ps : List (Fm × Fm)}, (∀ p ∈ ps, (∀ x ∈ p.1.names, x ∈ NS) ∧ (∀ x ∈ p.2.names, x ∈ NS) ∧ p.1.dep ≤ 60 ∧ p.2.dep ≤ 60) → PyData.canLayAll0 (ps.map pairD) = true ∧ PyData.depthAll (ps.map pairD) ≤ 61
  | [], _ => ⟨by rw [List.map_nil, PyData.canLayAll0], by rw [List.map_nil, PyData.depthAll]; omega⟩
  | p :: ps, h => by
    obtain ⟨h1, h2, h3, h4⟩ := h p List.mem_cons_self
    obtain ⟨i1, i2⟩ := pair_shaped n (ps := ps) fun q hq => h q (List.mem_cons_of_mem _ hq)
    constructor
    · rw [List.map_cons, PyData.canLayAll0, i1]
      simp only [pairD, Fm.lay_tup, Fm.lay_cons, Fm.lay_nil, Fm.lay_data p.1 fun x q => n.ok x (h1 x q), Fm.lay_data p.2 fun x q => n.ok x (h2 x q), Bool.and_self]
    · rw [List.map_cons, PyData.depthAll]
      have : (pairD p).depth = max p.1.dep p.2.dep + 1 := by simp [pairD, PyData.depth, PyData.depthAll, Fm.depth_data]
      omega
theorem putL_fresh {l : Tab} {n : Str} {t : Fm} (h : lk l n = none) : putL l n t = l ++ [(n, t)] := by unfold putL; rw [h]; rfl
theorem lk_take {l : Tab} (nd : (l.map (·.1)).Nodup) (g : Fm → Fm) {j : Nat} {n : Str} {t : Fm} (h : l[j]? = some (n, t)) : lk ((l.take j).map fun p => (p.1, g p.2)) n = none := by
  refine lk_none.mpr fun hm => ?_
  rw [List.map_map] at hm
  obtain ⟨⟨n', t'⟩, hm', e⟩ := List.mem_map.mp hm
  have e' : n' = n := e
  subst e'
  obtain ⟨i, hi, hit⟩ := List.mem_iff_getElem.mp hm'
  rw [List.length_take] at hi
  rw [List.getElem_take] at hit
  obtain ⟨hj, hjt⟩ := List.getElem?_eq_some_iff.mp h
  have := List.pairwise_iff_getElem.mp nd i j (by rw [List.length_map]; omega) (by rw [List.length_map]; exact hj) (by omega)
  rw [List.getElem_map, List.getElem_map, hit, hjt] at this
  exact this rfl
mutual
theorem Td.mapH {K : PySem.W.Frag} {H H' : Hp} (f : ∀ b xs, tupF K H b = some xs → tupF K H' b = some xs) {v : V} {d : PyData} : Td K H v d → Td K H' v d
  | .non => .non
  | .bl b => .bl b
  | .int i => .int i
  | .str x => .str x
  | .tup h r => .tup (f _ _ h) (TdAll.mapH f r)
theorem TdAll.mapH {K : PySem.W.Frag} {H H' : Hp} (f : ∀ b xs, tupF K H b = some xs → tupF K H' b = some xs) {vs : List V} {ds : List PyData} : TdAll K H vs ds → TdAll K H' vs ds
  | .nil => .nil
  | .cons h r => .cons (Td.mapH f h) (TdAll.mapH f r)
end
theorem TabK.mapH {K : PySem.W.Frag} {H H' : Hp} (f : ∀ b xs, tupF K H b = some xs → tupF K H' b = some xs) : ∀ {kvs : List (Key × V)} {l : Tab}, TabK K H kvs l → TabK K H' kvs l
  | _, _, .nil => .nil
  | _, _, .cons h r => .cons (Td.mapH f h) (r.mapH f)
theorem tupF_unlock {K : PySem.W.Frag} {H : Hp} {d : Addr} {o : Obj} {kvs ks : List (Key × V)} (hd : H d = some (.frz o (.dK kvs))) (b : Addr) (xs : List V) (h : tupF K H b = some xs) : tupF K (upd H d (.dK ks)) b = some xs := by
  unfold tupF at h ⊢
  split at h
  · rename_i hx; rw [dif_pos hx]; exact h
  · rename_i hx
    rw [dif_neg hx]
    by_cases e : b = d
    · subst e
      rw [hd] at h
      cases h
    · rw [upd_ne e]; exact h

end Sq
set_option Elab.async false
set_option linter.all false
set_option maxRecDepth 100000
set_option maxHeartbeats 2000000
namespace Sq
open PySem PySem.Spec PyProof.Rows L2
/-! ### formulas made alike, any number of free names: bounded by a way that makes them alike -/
structure UG (NS fr : List Str) (l : Tab) (rl : FP) : Prop where
  nd : (l.map (·.1)).Nodup
  keys : ∀ n ∈ l.map (·.1), n ∈ fr
  vals : ∀ n t, (n, t) ∈ l → ∀ x ∈ t.names, x ∈ NS ∧ lk l x = none
  prs : ∀ t u, (t, u) ∈ rl → (∀ x ∈ t.names, x ∈ NS) ∧ ∀ x ∈ u.names, x ∈ NS
/-- what the walk wants to know of a state -/
structure UW (NS fr : List Str) (l : Tab) (rl : FP) : Prop where
  g : UG NS fr l rl
  vd : ∀ n t, (n, t) ∈ l → t.dep ≤ 40
  pd : ∀ t u, (t, u) ∈ rl → (t.fill (lk l)).dep ≤ 40 ∧ (u.fill (lk l)).dep ≤ 40
  cnt : rl.length ≤ 50000
def SafeU (NS fr : List Str) : Nat → Tab → FP → Prop
  | 0, _, _ => True
  | n + 1, l, rl => UW NS fr l rl ∧ match stepU fr l rl with
    | .out _ => True
    | .go l' rl' => SafeU NS fr n l' rl'
section
variable {NS fr : List Str}
theorem UG.fresh {l : Tab} {rl : FP} (h : UG NS fr l rl) {t : Fm} (ht : ∀ x ∈ t.names, x ∈ NS) : ∀ x ∈ (t.fill (lk l)).names, x ∈ NS ∧ lk l x = none := fun x hx => by
  obtain ⟨y, hy, hxy⟩ := Fm.names_fill.mp hx
  cases e : lk l y with
  | none =>
    rw [e] at hxy
    have : x = y := by simpa [Fm.names] using hxy
    subst this
    exact ⟨ht x hy, e⟩
  | some w =>
    rw [e] at hxy
    exact h.vals y w (lk_mem e) x hxy
theorem UG.len {l : Tab} {rl : FP} (h : UG NS fr l rl) : l.length ≤ fr.length := by
  have := nodup_sub h.nd h.keys
  rwa [List.length_map] at this
theorem UG.tail {l : Tab} {p : Fm × Fm} {rl : FP} (h : UG NS fr l (p :: rl)) : UG NS fr l rl := ⟨h.nd, h.keys, h.vals, fun t u hm => h.prs t u (List.mem_cons_of_mem _ hm)⟩
theorem UG.bind {l : Tab} {rl : FP} (h : UG NS fr l rl) {x : Str} {o : Fm} (hx : x ∈ fr) (hl : lk l x = none) (ho : ∀ y ∈ o.names, y ∈ NS ∧ lk l y = none) (hxo : x ∉ o.names) : UG NS fr (bindT l x o) rl := by
  have mapfst : (bindT l x o).map (·.1) = l.map (·.1) ++ [x] := by
    rw [bindT_eq hl]
    simp
  have fresh : ∀ y, lk l y = none → y ≠ x → lk (bindT l x o) y = none := fun y h1 h2 => by rw [lk_bind hl, if_neg h2, h1]; rfl
  refine ⟨?_, fun n hn => ?_, fun n t hm => ?_, h.prs⟩
  · rw [mapfst]
    exact List.nodup_append.mpr ⟨h.nd, by simp, fun a ha b hb e => by
      have e' : b = x := by simpa using hb
      subst e' e
      exact (lk_none.mp hl) ha⟩
  · rw [mapfst] at hn
    rcases List.mem_append.mp hn with z | z
    · exact h.keys n z
    · have : n = x := by simpa using z
      rw [this]; exact hx
  · rw [bindT_eq hl] at hm
    rcases List.mem_append.mp hm with z | z
    · obtain ⟨⟨n', w⟩, hw, e⟩ := List.mem_map.mp z
      cases e
      have h1 := h.vals n' w hw
      intro y hy
      obtain ⟨z, hz, hyz⟩ := Fm.names_fill.mp hy
      rw [one1_at] at hyz
      by_cases e : x = z
      · rw [if_pos e] at hyz
        have hy' : y ∈ o.names := hyz
        obtain ⟨a, b⟩ := ho y hy'
        exact ⟨a, fresh y b fun e => hxo (e ▸ hy')⟩
      · rw [if_neg e] at hyz
        have e2 : y = z := by simpa [Fm.names] using hyz
        subst e2
        obtain ⟨a, b⟩ := h1 y hz
        exact ⟨a, fresh y b fun z => e z.symm⟩
    · have e : n = x ∧ t = o := by simpa using z
      obtain ⟨rfl, rfl⟩ := e
      exact fun y hy => let ⟨a, b⟩ := ho y hy; ⟨a, fresh y b fun e => hxo (e ▸ hy)⟩
theorem UG.split {l : Tab} {rl : FP} (h : UG NS fr l rl) {j k : Jn} {s t s' t' : Fm} (hp : ∀ y ∈ (Fm.bin j s t).names, y ∈ NS ∧ lk l y = none) (ho : ∀ y ∈ (Fm.bin k s' t').names, y ∈ NS ∧ lk l y = none) : UG NS fr l ((t, t') :: (s, s') :: rl) := by
  refine ⟨h.nd, h.keys, h.vals, fun a b hm => ?_⟩
  rcases List.mem_cons.mp hm with z | hm
  · cases z
    exact ⟨fun y hy => (hp y (List.mem_append_right _ hy)).1, fun y hy => (ho y (List.mem_append_right _ hy)).1⟩
  · rcases List.mem_cons.mp hm with z | hm
    · cases z
      exact ⟨fun y hy => (hp y (List.mem_append_left _ hy)).1, fun y hy => (ho y (List.mem_append_left _ hy)).1⟩
    · exact h.prs a b hm
theorem run_mono {r : Option Tab} : ∀ (n k : Nat) (l : Tab) (rl : FP), runU fr n l rl = some r → runU fr (n + k) l rl = some r
  | 0, _, _, _, h => by cases h
  | n + 1, k, l, rl, h => by
    rw [show n + 1 + k = (n + k) + 1 by omega]
    unfold runU at h ⊢
    cases e : stepU fr l rl with
    | out r' => rw [e] at h; exact h
    | go l' rl' => rw [e] at h; exact run_mono n k l' rl' h
theorem run_det {n m : Nat} {l : Tab} {rl : FP} {r r' : Option Tab} (h : runU fr n l rl = some r) (h' : runU fr m l rl = some r') : r = r' := by
  have a := run_mono n m l rl h
  have b := run_mono m n l rl h'
  rw [Nat.add_comm, b] at a
  exact (Option.some.inj a).symm
/-- the sum of the sizes of what waits, a way put through -/
def wtU (th : Str → Option Fm) (rl : FP) : Nat := (rl.map fun p => (p.1.fill th).sz).sum
theorem wtU_len {th : Str → Option Fm} : ∀ rl : FP, rl.length ≤ wtU th rl
  | [] => Nat.zero_le _
  | p :: rl => by
    have := wtU_len (th := th) rl
    have := (p.1.fill th).sz_pos
    simp only [wtU, List.map_cons, List.sum_cons, List.length_cons] at *
    omega
/-- consistent pairs are made alike; each way is a case of what is told -/
theorem run_solves {th : Str → Option Fm} {D : Nat} (w : Way fr th) (hD : D ≤ 40) (hfr : ∀ x ∈ fr, ((Fm.name x).fill th).dep ≤ D) : ∀ (M : Nat) (l : Tab) (rl : FP), UG NS fr l rl → (∀ t u, (t, u) ∈ rl → t.fill th = u.fill th ∧ (t.fill th).dep ≤ D) → (∀ n t, (n, t) ∈ l → (Fm.name n).fill th = t.fill th) → wtU th rl ≤ M → M ≤ 50000 →
    ∃ n l', runU fr n l rl = some (some l') ∧ SafeU NS fr n l rl ∧ ∀ n t, (n, t) ∈ l' → (Fm.name n).fill th = t.fill th := by
  have hW : ∀ (l : Tab) (rl : FP) (M : Nat), UG NS fr l rl → (∀ t u, (t, u) ∈ rl → t.fill th = u.fill th ∧ (t.fill th).dep ≤ D) → (∀ n t, (n, t) ∈ l → (Fm.name n).fill th = t.fill th) → wtU th rl ≤ M → M ≤ 50000 → UW NS fr l rl := fun l rl M hU hp hl hw hM => by
    refine ⟨hU, fun n t hm => ?_, fun t u hm => ?_, by have := wtU_len (th := th) rl; omega⟩
    · have h1 := hl n t hm
      have h2 := hfr n (hU.keys n (List.mem_map.mpr ⟨_, hm, rfl⟩))
      rw [h1] at h2
      have := Fm.dep_fill_ge th t
      omega
    · obtain ⟨h1, h2⟩ := hp t u hm
      have e1 := fill_theta hl t
      have e2 := fill_theta hl u
      have h3 := Fm.dep_fill_ge th (t.fill (lk l))
      have h4 := Fm.dep_fill_ge th (u.fill (lk l))
      rw [e1] at h3
      rw [e2, ← h1] at h4
      omega
  intro M
  induction M with
  | zero =>
    intro l rl hU hp hl hw hM
    cases rl with
    | nil => exact ⟨1, l, rfl, ⟨hW l [] 0 hU hp hl hw hM, trivial⟩, hl⟩
    | cons p rl => have := wtU_len (th := th) (p :: rl); rw [List.length_cons] at this; omega
  | succ M ih =>
    intro l rl hU hp hl hw hM
    have hWU := hW l rl (M + 1) hU hp hl hw hM
    cases rl with
    | nil => exact ⟨1, l, rfl, ⟨hWU, trivial⟩, hl⟩
    | cons pr rest =>
      obtain ⟨t, u⟩ := pr
      suffices key : ∃ n l', (match stepU fr l ((t, u) :: rest) with | .out r => some r | .go l rl => runU fr n l rl) = some (some l') ∧ (match stepU fr l ((t, u) :: rest) with | .out _ => True | .go l' rl' => SafeU NS fr n l' rl') ∧ ∀ n t, (n, t) ∈ l' → (Fm.name n).fill th = t.fill th by
        obtain ⟨n, l', h1, h2, h3⟩ := key
        exact ⟨n + 1, l', by unfold runU; exact h1, ⟨hWU, h2⟩, h3⟩
      show ∃ n l', (match stepP fr l rest (t.fill (lk l)) (u.fill (lk l)) with | .out r => some r | .go l rl => runU fr n l rl) = some (some l') ∧ (match stepP fr l rest (t.fill (lk l)) (u.fill (lk l)) with | .out _ => True | .go l' rl' => SafeU NS fr n l' rl') ∧ ∀ n t, (n, t) ∈ l' → (Fm.name n).fill th = t.fill th
      obtain ⟨a1, b1⟩ := hU.prs t u List.mem_cons_self
      have ft := hU.fresh a1
      have fu := hU.fresh b1
      obtain ⟨hpe, hpd⟩ := hp t u List.mem_cons_self
      have eq : (t.fill (lk l)).fill th = (u.fill (lk l)).fill th := by rw [fill_theta hl, fill_theta hl]; exact hpe
      have hdt : ((t.fill (lk l)).fill th).dep ≤ D := by rw [fill_theta hl]; exact hpd
      have hrest : ∀ t u, (t, u) ∈ rest → t.fill th = u.fill th ∧ (t.fill th).dep ≤ D := fun t u hm => hp t u (List.mem_cons_of_mem _ hm)
      have hw2 : ((t.fill (lk l)).fill th).sz + wtU th rest ≤ M + 1 := by
        rw [fill_theta hl]
        simpa only [wtU, List.map_cons, List.sum_cons] using hw
      revert ft fu eq hdt hw2
      generalize t.fill (lk l) = t'
      generalize u.fill (lk l) = u'
      intro ft fu eq hdt hw2
      have keyQ : ∀ p o : Fm, p ≠ o → (p.isV fr = false → o.isV fr = false) → (∀ y ∈ p.names, y ∈ NS ∧ lk l y = none) → (∀ y ∈ o.names, y ∈ NS ∧ lk l y = none) → p.fill th = o.fill th → (p.fill th).dep ≤ D → (p.fill th).sz + wtU th rest ≤ M + 1 →
          ∃ n l', (match stepQ fr l rest p o with | .out r => some r | .go l rl => runU fr n l rl) = some (some l') ∧ (match stepQ fr l rest p o with | .out _ => True | .go l' rl' => SafeU NS fr n l' rl') ∧ ∀ n t, (n, t) ∈ l' → (Fm.name n).fill th = t.fill th := by
        intro p o hne hno hpn hon hpo hdp hwp
        have hs0 := (p.fill th).sz_pos
        by_cases hpv : p.isV fr = true
        · cases p with
          | name x =>
            have xf : x ∈ fr := by simpa [Fm.isV] using hpv
            obtain ⟨x1, x2⟩ := hpn x (by simp [Fm.names])
            unfold stepQ
            simp only [if_pos xf]
            by_cases z : x ∈ o.names
            · have := Fm.sz_in (s := th) z (fun e => hne e.symm)
              rw [hpo] at this
              omega
            · simp only [if_neg z]
              refine ih _ rest (hU.tail.bind xf x2 hon z) hrest (fun n' t' hm' => ?_) (by omega) (by omega)
              rw [bindT_eq x2] at hm'
              rcases List.mem_append.mp hm' with w | w
              · obtain ⟨⟨n0, t0⟩, h0, e⟩ := List.mem_map.mp w
                cases e
                show _ = (t0.fill (one1 x o)).fill th
                rw [fill_one hpo]
                exact hl n0 t0 h0
              · have e : n' = x ∧ t' = o := by simpa using w
                obtain ⟨rfl, rfl⟩ := e
                exact hpo
          | _ => cases hpv
        · have hpv : p.isV fr = false := by simpa using hpv
          rcases way_hd w hpv (hno hpv) hpo with ⟨x, e1, e2⟩ | ⟨n1, n2⟩
          · exact absurd (e1.trans e2.symm) hne
          · cases p with
            | name x => cases n1
            | one => cases o with
              | one => exact absurd rfl hne
              | name y => cases n2
              | _ => cases hpo
            | none => cases o with
              | none => exact absurd rfl hne
              | name y => cases n2
              | _ => cases hpo
            | bin j s r => cases o with
              | name y => cases n2
              | one => cases hpo
              | none => cases hpo
              | bin k s' r' =>
                have hpo' : Fm.bin j (s.fill th) (r.fill th) = Fm.bin k (s'.fill th) (r'.fill th) := hpo
                injection hpo' with e1 e2 e3
                unfold stepQ
                simp only [if_pos e1]
                have hd2 : (Fm.bin j (s.fill th) (r.fill th)).dep ≤ D := hdp
                have hw3 : (Fm.bin j (s.fill th) (r.fill th)).sz + wtU th rest ≤ M + 1 := hwp
                simp only [Fm.dep] at hd2
                simp only [Fm.sz] at hw3
                refine ih l _ (hU.tail.split hpn hon) (fun a b hm => ?_) hl ?_ (by omega)
                · rcases List.mem_cons.mp hm with z | hm
                  · cases z; exact ⟨e3, by omega⟩
                  · rcases List.mem_cons.mp hm with z | hm
                    · cases z; exact ⟨e2, by omega⟩
                    · exact hrest a b hm
                · simp only [wtU, List.map_cons, List.sum_cons] at hw3 ⊢
                  omega
      unfold stepP
      by_cases e : t' = u'
      · rw [if_pos e]
        have := (t'.fill th).sz_pos
        exact ih l rest hU.tail hrest hl (by omega) (by omega)
      · rw [if_neg e]
        by_cases hv : u'.isV fr = true ∧ t'.isV fr = false
        · rw [if_pos hv]
          exact keyQ u' t' (fun z => e z.symm) (fun z => by rw [hv.1] at z; cases z) fu ft eq.symm (by rw [← eq]; exact hdt) (by rw [← eq]; exact hw2)
        · rw [if_neg hv]
          exact keyQ t' u' e (fun z => by
            cases hx : u'.isV fr with
            | false => rfl
            | true => exact absurd ⟨hx, z⟩ hv) ft fu eq hdt hw2
theorem stepQ_safe {l : Tab} {t u p o : Fm} {rest : FP} {m : Nat} {r : Option Tab} (hS : SafeU NS fr (m + 1) l ((t, u) :: rest)) (hs : stepU fr l ((t, u) :: rest) = stepQ fr l rest p o) (hm : (match stepQ fr l rest p o with | .out r => some r | .go l rl => runU fr m l rl) = some r) :
    match stepQ fr l rest p o with | .out r' => r = r' | .go l' rl' => runU fr m l' rl' = some r ∧ SafeU NS fr m l' rl' := by
  obtain ⟨_, h2⟩ := hS
  rw [hs] at h2
  cases e : stepQ fr l rest p o with
  | out r' => rw [e] at hm; exact (Option.some.inj hm).symm
  | go l' rl' => rw [e] at hm h2; exact ⟨hm, h2⟩
end
end Sq
set_option Elab.async false
set_option linter.all false
set_option maxRecDepth 100000
set_option maxHeartbeats 2000000
namespace Sq
open PySem PySem.Spec PyProof.Rows L2
/-! ### bare terms, and the formulas guessed of them -/
def LET : List Str := (List.range 26).map fun i => ⟨#[97 + i]⟩
theorem let_ok : NsOk LET := ⟨by decide +kernel, by decide +kernel⟩
theorem let_nd : LET.Nodup := by decide +kernel
theorem let_len : LET.length = 26 := by decide +kernel
inductive Bt
  | var (x : Str)
  | fn (x : Str) (t : Bt)
  | app (t u : Bt)
  | pair (t u : Bt)
  | fst (t : Bt)
  | snd (t : Bt)
deriving DecidableEq
namespace Bt
def data : Bt → PyData
  | var x => .tuple [.str "var", .str x]
  | fn x t => .tuple [.str "fun", .str x, t.data]
  | app t u => .tuple [.str "app", t.data, u.data]
  | pair t u => .tuple [.str "pair", t.data, u.data]
  | fst t => .tuple [.str "first", t.data]
  | snd t => .tuple [.str "second", t.data]
def dep : Bt → Nat
  | var _ => 1
  | fn _ t => t.dep + 1
  | app t u => max t.dep u.dep + 1
  | pair t u => max t.dep u.dep + 1
  | fst t => t.dep + 1
  | snd t => t.dep + 1
/-- how many formulas are guessed -/
def cnt : Bt → Nat
  | var _ => 0
  | fn _ t => t.cnt + 1
  | app t u => t.cnt + u.cnt + 1
  | pair t u => t.cnt + u.cnt
  | fst t => t.cnt + 2
  | snd t => t.cnt + 2
theorem dep_pos : ∀ t : Bt, 1 ≤ t.dep := fun t => by cases t <;> simp [dep]
end Bt
def ltr (n : Nat) : Str := LET.getD n ""
def mk (n : Nat) : Fm := .name (ltr n)
/-- a guessed formula, how many are guessed, the pairs; none where it is refused -/
def gs : Bt → Tab → Nat → Option (Fm × Nat × FP)
  | .var x, l, n => match lk l x with
    | some f => some (f, n, [])
    | none => none
  | .fn x t, l, n => if n < 26 then (match gs t (putL l x (mk n)) (n + 1) with
    | some (g, m, ps) => some (.bin .to (mk n) g, m, ps)
    | none => none) else none
  | .pair t u, l, n => match gs t l n with
    | some (a, n1, p1) => (match gs u l n1 with
      | some (b, n2, p2) => some (.bin .both a b, n2, p1 ++ p2)
      | none => none)
    | none => none
  | .app t u, l, n => match gs t l n with
    | some (a, n1, p1) => (match gs u l n1 with
      | some (b, n2, p2) => if n2 < 26 then some (mk n2, n2 + 1, p1 ++ p2 ++ [(a, .bin .to b (mk n2))]) else none
      | none => none)
    | none => none
  | .fst t, l, n => match gs t l n with
    | some (a, n1, p1) => if n1 + 1 < 26 then some (mk n1, n1 + 2, p1 ++ [(a, .bin .both (mk n1) (mk (n1 + 1)))]) else none
    | none => none
  | .snd t, l, n => match gs t l n with
    | some (a, n1, p1) => if n1 + 1 < 26 then some (mk (n1 + 1), n1 + 2, p1 ++ [(a, .bin .both (mk n1) (mk (n1 + 1)))]) else none
    | none => none
end Sq
set_option Elab.async false
set_option linter.all false
set_option maxRecDepth 100000
set_option maxHeartbeats 2000000
namespace Sq
open PySem PySem.Spec PyProof.Rows L2
/-! ### a pattern put over a formula -/
def mt : Tab → Fm → Fm → Tab × Bool
  | l, .name x, u => match lk l x with
    | some o => (l, decide (o = u))
    | .none => (putL l x u, true)
  | l, .one, u => (l, decide (u = .one))
  | l, .none, u => (l, decide (u = .none))
  | l, .bin j s r, u => match u with
    | .bin k s' r' => if j = k then (if (mt l s s').2 = true then mt (mt l s s').1 r r' else mt l s s') else (l, false)
    | _ => (l, false)
structure TbI (NS : List Str) (l : Tab) : Prop where
  nd : (l.map (·.1)).Nodup
  keys : ∀ n ∈ l.map (·.1), n ∈ NS
  vals : ∀ n w, (n, w) ∈ l → (∀ x ∈ w.names, x ∈ NS) ∧ w.dep ≤ 40
theorem TbI.nil {NS : List Str} : TbI NS [] := ⟨List.nodup_nil, (fun n hn => by cases hn), fun n t hn => by cases hn⟩
theorem TbI.len {NS : List Str} {l : Tab} (h : TbI NS l) : l.length ≤ NS.length := by
  have := nodup_sub h.nd h.keys
  rwa [List.length_map] at this
theorem mt_ti {NS : List Str} : ∀ (s t : Fm) (l : Tab), TbI NS l → (∀ x ∈ s.names, x ∈ NS) → (∀ x ∈ t.names, x ∈ NS) → t.dep ≤ 40 → TbI NS (mt l s t).1
  | .name x, u, l, h, hs, ht, hd => by
    unfold mt
    cases e : lk l x with
    | some o => exact h
    | none =>
      show TbI NS (putL l x u)
      rw [putL_fresh e]
      refine ⟨?_, fun n hn => ?_, fun n w hm => ?_⟩
      · rw [List.map_append]
        exact List.nodup_append.mpr ⟨h.nd, by simp, fun a ha b hb e2 => by
          have e3 : b = x := by simpa using hb
          subst e3 e2
          exact lk_none.mp e ha⟩
      · rw [List.map_append] at hn
        rcases List.mem_append.mp hn with z | z
        · exact h.keys n z
        · have : n = x := by simpa using z
          rw [this]; exact hs x (by simp [Fm.names])
      · rcases List.mem_append.mp hm with z | z
        · exact h.vals n w z
        · have : n = x ∧ w = u := by simpa using z
          rw [this.2]; exact ⟨ht, hd⟩
  | .one, u, l, h, _, _, _ => h
  | .none, u, l, h, _, _, _ => h
  | .bin j s r, u, l, h, hs, ht, hd => by
    cases u with
    | bin k s' r' =>
      simp only [Fm.dep] at hd
      have h1 := mt_ti s s' l h (fun x hx => hs x (List.mem_append_left _ hx)) (fun x hx => ht x (List.mem_append_left _ hx)) (by omega)
      have h2 := mt_ti r r' _ h1 (fun x hx => hs x (List.mem_append_right _ hx)) (fun x hx => ht x (List.mem_append_right _ hx)) (by omega)
      show TbI NS (if j = k then (if (mt l s s').2 = true then mt (mt l s s').1 r r' else mt l s s') else (l, false)).1
      split
      · split
        · exact h2
        · exact h1
      · exact h
    | name x => exact h
    | one => exact h
    | none => exact h
theorem mt_keep {n : Str} {w : Fm} : ∀ (s t : Fm) (l : Tab), lk l n = some w → lk (mt l s t).1 n = some w
  | .name x, u, l, h => by
    unfold mt
    cases e : lk l x with
    | some o => exact h
    | none =>
      show lk (putL l x u) n = some w
      rw [putL_fresh e, lk_snoc e]
      by_cases z : n = x
      · rw [z, e] at h; cases h
      · rw [if_neg z]; exact h
  | .one, u, l, h => h
  | .none, u, l, h => h
  | .bin j s r, u, l, h => by
    cases u with
    | bin k s' r' =>
      show lk (if j = k then (if (mt l s s').2 = true then mt (mt l s s').1 r r' else mt l s s') else (l, false)).1 n = _
      split
      · split
        · exact mt_keep r r' _ (mt_keep s s' l h)
        · exact mt_keep s s' l h
      · exact h
    | name x => exact h
    | one => exact h
    | none => exact h
theorem mt_up {l' : Tab} : ∀ (s t : Fm) (l : Tab), (mt l s t).2 = true → (∀ n w, lk (mt l s t).1 n = some w → lk l' n = some w) → s.fill (lk l') = t
  | .name x, u, l, h, k => by
    show (lk l' x).getD _ = u
    unfold mt at h k
    cases e : lk l x with
    | some o =>
      rw [e] at h k
      have : o = u := of_decide_eq_true h
      rw [k x o e, this]; rfl
    | none =>
      rw [e] at h k
      have := k x u (by show lk (putL l x u) x = _; rw [putL_fresh e, lk_snoc e, if_pos rfl])
      rw [this]; rfl
  | .one, u, l, h, k => (of_decide_eq_true h : u = .one).symm
  | .none, u, l, h, k => (of_decide_eq_true h : u = .none).symm
  | .bin j s r, u, l, h, k => by
    cases u with
    | bin k2 s' r' =>
      have h : (if j = k2 then (if (mt l s s').2 = true then mt (mt l s s').1 r r' else mt l s s') else (l, false)).2 = true := h
      have k : ∀ n w, lk (if j = k2 then (if (mt l s s').2 = true then mt (mt l s s').1 r r' else mt l s s') else (l, false)).1 n = some w → lk l' n = some w := k
      by_cases e : j = k2
      · rw [if_pos e] at h k
        by_cases e2 : (mt l s s').2 = true
        · rw [if_pos e2] at h k
          show Fm.bin _ _ _ = _
          rw [e, mt_up r r' _ h k, mt_up s s' l e2 fun n w q => k n w (mt_keep r r' _ q)]
        · rw [if_neg e2] at h; exact absurd h e2
      · rw [if_neg e] at h; cases h
    | name x => cases h
    | one => cases h
    | none => cases h
theorem mt_dn {th : Str → Option Fm} : ∀ (s t : Fm) (l : Tab), s.fill th = t → (∀ n w, lk l n = some w → (Fm.name n).fill th = w) → (mt l s t).2 = true ∧ ∀ n w, lk (mt l s t).1 n = some w → (Fm.name n).fill th = w
  | .name x, u, l, h, k => by
    unfold mt
    cases e : lk l x with
    | some o => exact ⟨decide_eq_true ((k x o e).symm.trans h), k⟩
    | none =>
      refine ⟨rfl, fun n w hn => ?_⟩
      have hn : lk (putL l x u) n = some w := hn
      rw [putL_fresh e, lk_snoc e] at hn
      by_cases z : n = x
      · rw [if_pos z] at hn
        rw [z, ← Option.some.inj hn]; exact h
      · rw [if_neg z] at hn; exact k n w hn
  | .one, u, l, h, k => ⟨decide_eq_true h.symm, k⟩
  | .none, u, l, h, k => ⟨decide_eq_true h.symm, k⟩
  | .bin j s r, u, l, h, k => by
    cases u with
    | bin k2 s' r' =>
      have h : Fm.bin j (s.fill th) (r.fill th) = .bin k2 s' r' := h
      injection h with e1 e2 e3
      obtain ⟨a1, a2⟩ := mt_dn s s' l e2 k
      have : mt l (.bin j s r) (.bin k2 s' r') = mt (mt l s s').1 r r' := by
        show (if j = k2 then (if (mt l s s').2 = true then mt (mt l s s').1 r r' else mt l s s') else (l, false)) = _
        rw [if_pos e1, if_pos a1]
      rw [this]
      exact mt_dn r r' _ e3 a2
    | name x => cases h
    | one => cases h
    | none => cases h
theorem mt_done {s t : Fm} (h : (mt [] s t).2 = true) : s.fill (lk (mt [] s t).1) = t := mt_up s t [] h fun _ _ e => e
theorem mt_finds {s : Fm} {th : Str → Option Fm} : (mt [] s (s.fill th)).2 = true := (mt_dn s _ [] rfl fun n w h => by cases h).1
/-- parts, one by one -/
def mtF (p : Tab × Bool) (z : Fm × Fm) : Tab × Bool := if p.2 = true then mt p.1 z.1 z.2 else p
def mtS (l : Tab) (zs : List (Fm × Fm)) : Tab × Bool := zs.foldl mtF (l, true)
theorem mt_args {s t : Fm} {l : Tab} (h : s.isN = false) (hh : s.hd = t.hd) : mt l s t = mtS l (s.args.zip t.args) := by
  cases s with
  | name x => cases h
  | one =>
    cases t with
    | one => rfl
    | name x => exact absurd hh (by simp only [Fm.hd]; decide)
    | none => exact absurd hh (by simp only [Fm.hd]; decide)
    | bin j a b => cases j <;> exact absurd hh (by simp only [Fm.hd, Jn.str]; decide)
  | none =>
    cases t with
    | none => rfl
    | name x => exact absurd hh (by simp only [Fm.hd]; decide)
    | one => exact absurd hh (by simp only [Fm.hd]; decide)
    | bin j a b => cases j <;> exact absurd hh (by simp only [Fm.hd, Jn.str]; decide)
  | bin j a b =>
    cases t with
    | bin k c d =>
      have e : j = k := Jn.inj hh
      show (if j = k then (if (mt l a c).2 = true then mt (mt l a c).1 b d else mt l a c) else (l, false)) = _
      rw [if_pos e]
      rfl
    | name x => exact absurd hh.symm (fun z => Fm.hd_v (t := .bin j a b) rfl z.symm)
    | one => cases j <;> exact absurd hh (by simp only [Fm.hd, Jn.str]; decide)
    | none => cases j <;> exact absurd hh (by simp only [Fm.hd, Jn.str]; decide)
theorem mt_hd {s t : Fm} {l : Tab} (h : s.isN = false) (hh : s.hd ≠ t.hd) : mt l s t = (l, false) := by
  cases s with
  | name x => cases h
  | one =>
    cases t with
    | one => exact absurd rfl hh
    | _ => rfl
  | none =>
    cases t with
    | none => exact absurd rfl hh
    | _ => rfl
  | bin j a b =>
    cases t with
    | bin k c d =>
      have e : ¬ j = k := fun z => hh (congrArg Jn.str z)
      show (if j = k then (if (mt l a c).2 = true then mt (mt l a c).1 b d else mt l a c) else (l, false)) = _
      rw [if_neg e]
    | _ => rfl
theorem mtF_no : ∀ (zs : List (Fm × Fm)) (p : Tab × Bool), p.2 = false → zs.foldl mtF p = p
  | [], p, h => rfl
  | z :: zs, p, h => by
    have e : mtF p z = p := by unfold mtF; rw [if_neg (by rw [h]; decide)]
    rw [List.foldl_cons, e]
    exact mtF_no zs p h
theorem mtS_stuck {l : Tab} {zs : List (Fm × Fm)} {j : Nat} (h : (mtS l (zs.take j)).2 = false) : mtS l zs = mtS l (zs.take j) := by
  have : mtS l zs = (zs.drop j).foldl mtF (mtS l (zs.take j)) := by
    show zs.foldl mtF (l, true) = (zs.drop j).foldl mtF ((zs.take j).foldl mtF (l, true))
    rw [← List.foldl_append, List.take_append_drop]
  rw [this, mtF_no _ _ h]
theorem mtS_next {l : Tab} {zs : List (Fm × Fm)} {j : Nat} {z : Fm × Fm} (h : (mtS l (zs.take j)).2 = true) (hz : zs[j]? = some z) : mtS l (zs.take (j + 1)) = mt (mtS l (zs.take j)).1 z.1 z.2 := by
  have : mtS l (zs.take (j + 1)) = mtF (mtS l (zs.take j)) z := by
    rw [take_snoc hz]
    unfold mtS
    rw [List.foldl_append]; rfl
  rw [this]
  unfold mtF
  rw [if_pos h]
theorem mtS_ti {NS : List Str} {l : Tab} (h : TbI NS l) : ∀ {zs : List (Fm × Fm)}, (∀ z ∈ zs, (∀ x ∈ z.1.names, x ∈ NS) ∧ (∀ x ∈ z.2.names, x ∈ NS) ∧ z.2.dep ≤ 40) → TbI NS (mtS l zs).1 := by
  intro zs hz
  unfold mtS
  have : ∀ (zs : List (Fm × Fm)) (p : Tab × Bool), TbI NS p.1 → (∀ z ∈ zs, (∀ x ∈ z.1.names, x ∈ NS) ∧ (∀ x ∈ z.2.names, x ∈ NS) ∧ z.2.dep ≤ 40) → TbI NS (zs.foldl mtF p).1 := by
    intro zs
    induction zs with
    | nil => exact fun p h _ => h
    | cons z zs ih =>
      intro p h hz
      rw [List.foldl_cons]
      refine ih _ ?_ fun z' hm => hz z' (List.mem_cons_of_mem _ hm)
      unfold mtF
      obtain ⟨h1, h2, h3⟩ := hz z List.mem_cons_self
      split
      · exact mt_ti z.1 z.2 _ h h1 h2 h3
      · exact h
  exact this zs _ h hz
end Sq
set_option Elab.async false
set_option linter.all false
set_option maxRecDepth 100000
set_option maxHeartbeats 2000000
namespace Sq
open PySem PySem.Spec PyProof.Rows L2
/-! ### a typed term's bare one: what is guessed can be made alike -/
def inL (n : Nat) (f : Fm) : Prop := ∀ x ∈ f.names, x ∈ LET.take n
theorem ltr_get {n : Nat} (h : n < 26) : LET[n]? = some (ltr n) := by
  unfold ltr
  rw [List.getD_eq_getElem?_getD, List.getElem?_eq_getElem (by rw [let_len]; exact h)]; rfl
theorem take_succ {n : Nat} (h : n < 26) : LET.take (n + 1) = LET.take n ++ [ltr n] := by
  rw [List.take_add_one, ltr_get h]; rfl
theorem ltr_mem {n : Nat} (h : n < 26) : ltr n ∈ LET.take (n + 1) := by rw [take_succ h]; simp
theorem ltr_new {n : Nat} (h : n < 26) : ltr n ∉ LET.take n := by
  have nd : (LET.take (n + 1)).Nodup := let_nd.sublist (List.take_sublist _ _)
  rw [take_succ h, List.nodup_append] at nd
  exact fun z => nd.2.2 _ z _ (by simp) rfl
theorem take_up {n m : Nat} (h : n ≤ m) {x : Str} (hx : x ∈ LET.take n) : x ∈ LET.take m := List.take_subset_take_left LET h hx
theorem inL.up {n m : Nat} {f : Fm} (h : inL n f) (k : n ≤ m) : inL m f := fun x hx => take_up k (h x hx)
theorem inL_mk {n : Nat} (h : n < 26) : inL (n + 1) (mk n) := fun x hx => by
  have : x = ltr n := by simpa [mk, Fm.names] using hx
  rw [this]; exact ltr_mem h
theorem inL_bin {n : Nat} {j : Jn} {a b : Fm} (h : inL n a) (k : inL n b) : inL n (.bin j a b) := fun x hx => (List.mem_append.mp hx).elim (h x) (k x)
end Sq
set_option Elab.async false
set_option linter.all false
set_option maxRecDepth 100000
set_option maxHeartbeats 4000000
namespace Sq
open PySem PySem.Spec PyProof.Rows L2
/-! ### bare terms told in letters, their formulas -/
/-- the thing of a bare term -/
def ofB : Bt → Cg
  | .var x => .v x
  | .app t u => .ap (ofB t) (ofB u)
  | .fn x t => (ofB t).wo x
  | _ => .l .I
/-- a letter's formula with names from n on -/
def tyL (k : Lt) (n : Nat) : Fm :=
  let a := mk (n % 26); let b := mk ((n + 1) % 26); let c := mk ((n + 2) % 26)
  match k with
  | .I => .bin .to a a
  | .K => .bin .to a (.bin .to b a)
  | .S => .bin .to (.bin .to a (.bin .to b c)) (.bin .to (.bin .to a b) (.bin .to a c))
  | .B => .bin .to (.bin .to b c) (.bin .to (.bin .to a b) (.bin .to a c))
  | .C => .bin .to (.bin .to a (.bin .to b c)) (.bin .to b (.bin .to a c))
/-- what is guessed of a thing without names: the formula, the count behind, the pairs -/
def gsC : Cg → Nat → Option (Fm × Nat × FP)
  | .l k, n => some (tyL k n, n + 3, [])
  | .v _, _ => none
  | .ap f a, n => match gsC f n with
    | some (p, n1, ps1) => (match gsC a n1 with
      | some (q, n2, ps2) => some (mk (n2 % 26), n2 + 1, ps1 ++ ps2 ++ [(p, .bin .to q (mk (n2 % 26)))])
      | none => none)
    | none => none
/-- the run of what waits, small all the way -/
def runS (fr : List Str) : Nat → Tab → FP → Option (Option Tab)
  | 0, _, _ => none
  | n + 1, l, rl =>
    if l.all (fun p => decide (p.2.dep ≤ 40)) && rl.all (fun p => decide ((p.1.fill (lk l)).dep ≤ 40) && decide ((p.2.fill (lk l)).dep ≤ 40)) && decide (rl.length ≤ 1000) then
      match stepU fr l rl with
      | .out r => some r
      | .go l' rl' => runS fr n l' rl'
    else none
def bares : Nat → List Str → List Bt
  | 0, bd => bd.map .var
  | d + 1, bd =>
    let x : Str := "x" ++ Str.ofString (toString (bd.length : Int))
    bd.map .var ++ ((bares d (x :: bd)).map (.fn x) ++ (bares d bd).flatMap fun t => (bares d bd).map fun u => .app t u)
/-- all names are letters -/
def prsB (ps : FP) : Bool := ps.all fun p => (p.1.names.all fun x => decide (x ∈ LET)) && p.2.names.all fun x => decide (x ∈ LET)
/-- type_of's answer: none if the run isn't small; some none: too large -/
def tyR (c : Cg) : Option (Option (Option Fm)) := match gsC c 0 with
  | none => none
  | some (h, k, qs) => if h.dep ≤ 40 ∧ prsB qs = true then (if 26 < k then some none else match runS LET 200 [] qs.reverse with
    | none => none
    | some none => some (some none)
    | some (some l) => if (h.fill (lk l)).dep ≤ 30 ∧ ((h.fill (lk l)).names.all fun x => decide (x ∈ LET)) = true then some (some (some (h.fill (lk l)))) else none) else none
/-- principal's answer -/
def prR (b : Bt) : Option (Option Fm) := match gs b [] 0 with
  | none => some none
  | some (g, m, ps) => if g.dep ≤ 40 ∧ prsB ps = true then (match runS (LET.take m) 200 [] ps.reverse with
    | none => none
    | some none => some none
    | some (some l) => if (g.fill (lk l)).dep ≤ 40 ∧ ((g.fill (lk l)).names.all fun x => decide (x ∈ LET)) = true then some (some (g.fill (lk l))) else none) else none
def fine15 (b : Bt) : Bool := match prR b, tyR (ofB b) with
  | some best, some t2 => (match best, t2 with
    | some g, some (some f) => (mt [] f g).2
    | some _, some none => false
    | _, _ => true)
  | _, _ => false
theorem fine_3 : (bares 3 []).all fine15 = true := by decide +kernel
theorem bares_len : (bares 4 []).length = 3377 := by decide +kernel
end Sq
set_option Elab.async false
set_option linter.all false
set_option maxRecDepth 100000
set_option maxHeartbeats 2000000
namespace Sq
open PySem PySem.Spec PyProof.Rows L2 RZ
/-! ### the text of a tuple of data, where nothing is being told -/
def rStrT (K : PySem.W.Frag) : List V → Hp → VK → Prop := fun xs H Q => ∃ (v : V) (ds : List PyData), xs = [v] ∧ Td K H v (.tuple ds) ∧ SeqAt.shaped (.tuple ds) = true ∧ (PyData.tuple ds).showable = true ∧ (PyData.tuple ds).shown.length ≤ sizeLine ∧ Q (.str (PyData.tuple ds).shown) H
theorem call_strT {X : Cx} (K : PySem.W.Frag) (hg : X.A.guards = some []) (hu : X.A.units + 90 < cLine) (hK : X.K = K := by rfl) : CallR X (.type "str") (rStrT K) := by
  subst hK
  intro pins s σ H xs us Q I r h
  obtain ⟨v, ds, rfl, hd, sh, sw, sz, q⟩ := h
  obtain ⟨u, rfl, rx⟩ := vals1 r
  obtain ⟨as, r1⟩ := Dp.reads I _ v u hd.dp rx
  cases hd with
  | tup h1 h2 =>
    cases rx
    have hdep := SeqAt.depth_of_shaped sh
    have hlay := SeqAt.canLay_of_shaped sh
    refine str_of_reads r1 sw (PyData.noDict_hsm (PyData.hasDict_of_canLay _ hlay)) hg (by omega) (fun b o e => e) (fun h' u tk hk => ⟨.str _, H, I.kept hk, ⟨_, rfl⟩, q⟩) sz
/-! ### isinstance -/
def isTupD : PyData → Bool | .tuple _ => true | _ => false
def isStrD : PyData → Bool | .str _ => true | _ => false
theorem td_tyx {K : PySem.W.Frag} {H : Hp} {v : V} {d : PyData} (h : Td K H v d) : ∃ n, TyX K H v (.type n) ∧ PySem.W.kitOne K (.type n) (.type "tuple") = some (isTupD d) ∧ PySem.W.kitOne K (.type n) (.type "str") = some (isStrD d) := by
  cases h with
  | non => exact ⟨_, .base .non, kit_ty (by decide +kernel), kit_ty (by decide +kernel)⟩
  | bl b => exact ⟨_, .base (.bl b), kit_ty (by show kitB "bool" "tuple" = some false; decide +kernel), kit_ty (by show kitB "bool" "str" = some false; decide +kernel)⟩
  | int i => exact ⟨_, .base (.int i), kit_ty (by show kitB "int" "tuple" = some false; decide +kernel), kit_ty (by show kitB "int" "str" = some false; decide +kernel)⟩
  | str x => exact ⟨_, .base (.str x), kit_ty (by show kitB "str" "tuple" = some false; decide +kernel), kit_ty (by show kitB "str" "str" = some true; decide +kernel)⟩
  | tup e r =>
    refine ⟨"tuple", ?_, kit_ty (by show kitB "tuple" "tuple" = some true; decide +kernel), kit_ty (by show kitB "tuple" "str" = some false; decide +kernel)⟩
    rcases tupF_sq e with (e | ⟨o, e⟩) | ⟨o, its, n, e, c, _⟩
    · exact .base (.tup e)
    · exact .fTuple e
    · exact .kTuple e c
/-- isinstance(x, tuple): data of tuples, or a list -/
def rIsTup (K : PySem.W.Frag) : List V → Hp → VK → Prop := fun xs H Q => ∃ v : V, xs = [v, .ty "tuple"] ∧ ((∃ d, Td K H v d ∧ Q (.bl (isTupD d)) H) ∨ ∃ a ys, v = .ref a ∧ H a = some (.lst ys) ∧ Q (.bl false) H)
def rIsStr (K : PySem.W.Frag) : List V → Hp → VK → Prop := fun xs H Q => ∃ (v : V) (d : PyData), xs = [v, .ty "str"] ∧ Td K H v d ∧ Q (.bl (isStrD d)) H
theorem call_isTup {X : Cx} (K : PySem.W.Frag) (hK : X.K = K := by rfl) : CallR X (.builtin "isinstance") (rIsTup K) := by
  subst hK
  intro pins s σ H xs us Q I r ⟨v, e, h⟩
  subst e
  rcases h with ⟨d, hd, q⟩ | ⟨a, ys, rfl, ha, q⟩
  · obtain ⟨n, ty, k1, _⟩ := td_tyx hd
    exact call_isi pins s σ H _ us Q I r ⟨v, _, _, _, _, rfl, .ty "tuple", ty, k1, q⟩
  · exact call_isi pins s σ H _ us Q I r ⟨.ref a, _, .type "list", _, _, rfl, .ty "tuple", .base (.lst ha), kit_ty (by decide +kernel), q⟩
theorem call_isStr {X : Cx} (K : PySem.W.Frag) (hK : X.K = K := by rfl) : CallR X (.builtin "isinstance") (rIsStr K) := by
  subst hK
  intro pins s σ H xs us Q I r ⟨v, d, e, hd, q⟩
  subst e
  obtain ⟨n, ty, _, k1⟩ := td_tyx hd
  exact call_isi pins s σ H _ us Q I r ⟨v, _, _, _, _, rfl, .ty "str", ty, k1, q⟩
/-! ### lists of data: in, not in, index -/
def rInL (K : PySem.W.Frag) (neg : Bool) : R2 := fun x y H Q => ∃ d a ws ds, Td K H x d ∧ y = .ref a ∧ H a = some (.lst ws) ∧ TdAll K H ws ds ∧ SeqAt.shaped d = true ∧ SeqAt.shaped (.list ds) = true ∧ Q (.bl (if neg then !ds.any fun z => PyData.eqv z d else ds.any fun z => PyData.eqv z d)) H
theorem op_inLK {X : Cx} (K : PySem.W.Frag) (hu : X.A.units + 65 < cLine) (hK : X.K = K := by rfl) : OpR X (compareOp .In) (rInL K false) := by
  subst hK
  intro pins s σ H x y v u Q I rx ry ⟨d, a, ws, ds, hd, e, ha, t, s1, s2, q⟩
  subst e
  exact op_inD hu pins s σ H x _ v u Q I rx ry ⟨d, ds, hd.dp, .lst (SqL.of ha) t.dp, s1, s2, q⟩
theorem op_ninLK {X : Cx} (K : PySem.W.Frag) (hu : X.A.units + 65 < cLine) (hK : X.K = K := by rfl) : OpR X (compareOp .NotIn) (rInL K true) := by
  subst hK
  intro pins s σ H x y v u Q I rx ry ⟨d, a, ws, ds, hd, e, ha, t, s1, s2, q⟩
  subst e
  exact op_notInD hu pins s σ H x _ v u Q I rx ry ⟨d, ds, hd.dp, .lst (SqL.of ha) t.dp, s1, s2, q⟩
def rIndexL (K : PySem.W.Frag) : V → List V → Hp → VK → Prop := fun x xs H Q => ∃ (a : Addr) (y : V) (d : PyData) (ws : List V) (ds : List PyData) (j : Nat) (z : PyData), x = .ref a ∧ xs = [y] ∧ H a = some (.lst ws) ∧ TdAll K H ws ds ∧ Td K H y d ∧ SeqAt.shaped (.list ds) = true ∧ SeqAt.shaped d = true ∧ ds[j]? = some z ∧ PyData.eqv z d = true ∧
  (∀ (m : Nat) (z' : PyData), m < j → ds[m]? = some z' → PyData.eqv z' d = false) ∧ Q (.int (j : Nat)) H
theorem mt_indexLK {X : Cx} (K : PySem.W.Frag) (hu : X.A.units + 65 < cLine) (hK : X.K = K := by rfl) : MtR X "list.index" (rIndexL K) := by
  subst hK
  intro pins s σ H x xs v us Q I rx rv ⟨a, y, d, ws, ds, j, z, e1, e2, ha, t, hy, s1, s2, hz, h1, h2, q⟩
  subst e1 e2
  exact mt_indexD hu pins s σ H _ _ v us Q I rx rv ⟨a, y, d, ds, j, z, rfl, rfl, .lst (SqL.of ha) t.dp, hy.dp, s1, s2, hz, h1, h2, q⟩
end Sq
set_option Elab.async false
set_option linter.all false
set_option maxRecDepth 100000
set_option maxHeartbeats 2000000
namespace Sq
open PySem PySem.Spec PyProof.Rows L2
/-! ### terms -/
inductive Tm
  | var (n : Str)
  | fn (n : Str) (f : Fm) (t : Tm)
  | app (t u : Tm)
  | pair (t u : Tm)
  | fst (t : Tm)
  | snd (t : Tm)
  | lft (t : Tm) (f : Fm)
  | rgt (f : Fm) (t : Tm)
  | cs (t : Tm) (n : Str) (u : Tm) (m : Str) (v : Tm)
  | unit
  | absd (t : Tm) (f : Fm)
deriving DecidableEq
/-- a part of a term: a name, a formula, a term -/
inductive Pt
  | n (s : Str)
  | f (g : Fm)
  | t (u : Tm)
namespace Tm
def kind : Tm → Str
  | var _ => "var"
  | fn _ _ _ => "fun"
  | app _ _ => "app"
  | pair _ _ => "pair"
  | fst _ => "first"
  | snd _ => "second"
  | lft _ _ => "left"
  | rgt _ _ => "right"
  | cs _ _ _ _ _ => "case"
  | unit => "unit"
  | absd _ _ => "absurd"
def parts : Tm → List Pt
  | var s => [.n s]
  | fn s f t => [.n s, .f f, .t t]
  | app t u => [.t t, .t u]
  | pair t u => [.t t, .t u]
  | fst t => [.t t]
  | snd t => [.t t]
  | lft t f => [.t t, .f f]
  | rgt f t => [.f f, .t t]
  | cs t s u r v => [.t t, .n s, .t u, .n r, .t v]
  | unit => []
  | absd t f => [.t t, .f f]
def data : Tm → PyData
  | var s => .tuple [.str "var", .str s]
  | fn s f t => .tuple [.str "fun", .str s, f.data, t.data]
  | app t u => .tuple [.str "app", t.data, u.data]
  | pair t u => .tuple [.str "pair", t.data, u.data]
  | fst t => .tuple [.str "first", t.data]
  | snd t => .tuple [.str "second", t.data]
  | lft t f => .tuple [.str "left", t.data, f.data]
  | rgt f t => .tuple [.str "right", f.data, t.data]
  | cs t s u r v => .tuple [.str "case", t.data, .str s, u.data, .str r, v.data]
  | unit => .tuple [.str "unit"]
  | absd t f => .tuple [.str "absurd", t.data, f.data]
def dep : Tm → Nat
  | var _ => 1
  | fn _ f t => max f.dep t.dep + 1
  | app t u => max t.dep u.dep + 1
  | pair t u => max t.dep u.dep + 1
  | fst t => t.dep + 1
  | snd t => t.dep + 1
  | lft t f => max t.dep f.dep + 1
  | rgt f t => max f.dep t.dep + 1
  | cs t _ u _ v => max t.dep (max u.dep v.dep) + 1
  | unit => 1
  | absd t f => max t.dep f.dep + 1
def sz : Tm → Nat
  | var _ => 1
  | fn _ _ t => t.sz + 1
  | app t u => t.sz + u.sz + 1
  | pair t u => t.sz + u.sz + 1
  | fst t => t.sz + 1
  | snd t => t.sz + 1
  | lft t _ => t.sz + 1
  | rgt _ t => t.sz + 1
  | cs t _ u _ v => t.sz + u.sz + v.sz + 1
  | unit => 1
  | absd t _ => t.sz + 1
/-- the terms within, one step down -/
def subs : Tm → List Tm
  | var _ => []
  | fn _ _ t => [t]
  | app t u => [t, u]
  | pair t u => [t, u]
  | fst t => [t]
  | snd t => [t]
  | lft t _ => [t]
  | rgt _ t => [t]
  | cs t _ u _ v => [t, u, v]
  | unit => []
  | absd t _ => [t]
/-- the names that bind in them -/
def bnds : Tm → List (List Str)
  | fn s _ _ => [[s]]
  | cs _ s _ r _ => [[], [s], [r]]
  | t => t.subs.map fun _ => []
/-- all names in it -/
def nms : Tm → List Str
  | var s => [s]
  | fn s _ t => s :: t.nms
  | app t u => t.nms ++ u.nms
  | pair t u => t.nms ++ u.nms
  | fst t => t.nms
  | snd t => t.nms
  | lft t _ => t.nms
  | rgt _ t => t.nms
  | cs t s u r v => t.nms ++ (s :: u.nms) ++ (r :: v.nms)
  | unit => []
  | absd t _ => t.nms
/-- all formulas in it -/
def fms : Tm → List Fm
  | var _ => []
  | fn _ f t => f :: t.fms
  | app t u => t.fms ++ u.fms
  | pair t u => t.fms ++ u.fms
  | fst t => t.fms
  | snd t => t.fms
  | lft t f => f :: t.fms
  | rgt f t => f :: t.fms
  | cs t _ u _ v => t.fms ++ u.fms ++ v.fms
  | unit => []
  | absd t f => f :: t.fms
theorem dep_pos : ∀ t : Tm, 1 ≤ t.dep := fun t => by cases t <;> simp [dep]
theorem sz_pos : ∀ t : Tm, 1 ≤ t.sz := fun t => by cases t <;> simp [sz]
theorem dep_sub {t u : Tm} (h : u ∈ t.subs) : u.dep < t.dep := by
  cases t <;> simp only [subs, List.mem_cons, List.not_mem_nil, or_false] at h <;> (try exact h.elim)
  all_goals (simp only [dep]; first | (subst h; omega) | (rcases h with h | h <;> subst h <;> omega) | (rcases h with h | h | h <;> subst h <;> omega))
theorem sz_subs : ∀ t : Tm, t.sz = (t.subs.map sz).sum + 1 := fun t => by cases t <;> simp [sz, subs]; omega
theorem nms_sub {t u : Tm} (h : u ∈ t.subs) {x : Str} (hx : x ∈ u.nms) : x ∈ t.nms := by
  cases t <;> simp only [subs, List.mem_cons, List.not_mem_nil, or_false] at h <;> (try exact h.elim)
  all_goals (simp only [nms, List.mem_append, List.mem_cons]; first | (subst h; simp [hx]) | (rcases h with h | h <;> subst h <;> simp [hx]) | (rcases h with h | h | h <;> subst h <;> simp [hx]))
theorem fms_sub {t u : Tm} (h : u ∈ t.subs) {f : Fm} (hf : f ∈ u.fms) : f ∈ t.fms := by
  cases t <;> simp only [subs, List.mem_cons, List.not_mem_nil, or_false] at h <;> (try exact h.elim)
  all_goals (simp only [fms, List.mem_append, List.mem_cons]; first | (subst h; simp [hf]) | (rcases h with h | h <;> subst h <;> simp [hf]) | (rcases h with h | h | h <;> subst h <;> simp [hf]))
theorem bnds_len (t : Tm) : t.bnds.length = t.subs.length := by cases t <;> rfl
theorem data_k (t : Tm) : ∃ ds, t.data = .tuple (.str t.kind :: ds) := by cases t <;> exact ⟨_, rfl⟩
theorem depth_data : ∀ t : Tm, t.data.depth = t.dep
  | var _ => rfl
  | fn _ f t => by simp [data, PyData.depth, PyData.depthAll, depth_data t, Fm.depth_data f, dep]
  | app t u => by simp [data, PyData.depth, PyData.depthAll, depth_data t, depth_data u, dep]
  | pair t u => by simp [data, PyData.depth, PyData.depthAll, depth_data t, depth_data u, dep]
  | fst t => by simp [data, PyData.depth, PyData.depthAll, depth_data t, dep]
  | snd t => by simp [data, PyData.depth, PyData.depthAll, depth_data t, dep]
  | lft t f => by simp [data, PyData.depth, PyData.depthAll, depth_data t, Fm.depth_data f, dep]
  | rgt f t => by simp [data, PyData.depth, PyData.depthAll, depth_data t, Fm.depth_data f, dep]
  | cs t _ u _ v => by simp [data, PyData.depth, PyData.depthAll, depth_data t, depth_data u, depth_data v, dep]
  | unit => rfl
  | absd t f => by simp [data, PyData.depth, PyData.depthAll, depth_data t, Fm.depth_data f, dep]
theorem ok_kind (t : Tm) : PyData.strOk t.kind = true := by cases t <;> (simp only [kind]; decide +kernel)
theorem lay_data : ∀ t : Tm, (∀ x ∈ t.nms, PyData.strOk x = true) → (∀ f ∈ t.fms, f.data.canLay0 = true) → t.data.canLay0 = true
  | var s, h, _ => by have := ok_kind (var s); simp only [kind] at this; simp only [data, Fm.lay_tup, Fm.lay_cons, Fm.lay_str, Fm.lay_nil, this, h s (by simp [nms]), Bool.and_self]
  | fn s f t, h, k => by have := ok_kind (fn s f t); simp only [kind] at this; simp only [data, Fm.lay_tup, Fm.lay_cons, Fm.lay_str, Fm.lay_nil, this, h s (by simp [nms]), k f (by simp [fms]), lay_data t (fun x q => h x (by simp [nms, q])) (fun g q => k g (by simp [fms, q])), Bool.and_self]
  | app t u, h, k => by have := ok_kind (app t u); simp only [kind] at this; simp only [data, Fm.lay_tup, Fm.lay_cons, Fm.lay_str, Fm.lay_nil, this, lay_data t (fun x q => h x (by simp [nms, q])) (fun g q => k g (by simp [fms, q])), lay_data u (fun x q => h x (by simp [nms, q])) (fun g q => k g (by simp [fms, q])), Bool.and_self]
  | pair t u, h, k => by have := ok_kind (pair t u); simp only [kind] at this; simp only [data, Fm.lay_tup, Fm.lay_cons, Fm.lay_str, Fm.lay_nil, this, lay_data t (fun x q => h x (by simp [nms, q])) (fun g q => k g (by simp [fms, q])), lay_data u (fun x q => h x (by simp [nms, q])) (fun g q => k g (by simp [fms, q])), Bool.and_self]
  | fst t, h, k => by have := ok_kind (fst t); simp only [kind] at this; simp only [data, Fm.lay_tup, Fm.lay_cons, Fm.lay_str, Fm.lay_nil, this, lay_data t (fun x q => h x (by simp [nms, q])) (fun g q => k g (by simp [fms, q])), Bool.and_self]
  | snd t, h, k => by have := ok_kind (snd t); simp only [kind] at this; simp only [data, Fm.lay_tup, Fm.lay_cons, Fm.lay_str, Fm.lay_nil, this, lay_data t (fun x q => h x (by simp [nms, q])) (fun g q => k g (by simp [fms, q])), Bool.and_self]
  | lft t f, h, k => by have := ok_kind (lft t f); simp only [kind] at this; simp only [data, Fm.lay_tup, Fm.lay_cons, Fm.lay_str, Fm.lay_nil, this, k f (by simp [fms]), lay_data t (fun x q => h x (by simp [nms, q])) (fun g q => k g (by simp [fms, q])), Bool.and_self]
  | rgt f t, h, k => by have := ok_kind (rgt f t); simp only [kind] at this; simp only [data, Fm.lay_tup, Fm.lay_cons, Fm.lay_str, Fm.lay_nil, this, k f (by simp [fms]), lay_data t (fun x q => h x (by simp [nms, q])) (fun g q => k g (by simp [fms, q])), Bool.and_self]
  | cs t s u r v, h, k => by have := ok_kind (cs t s u r v); simp only [kind] at this; simp only [data, Fm.lay_tup, Fm.lay_cons, Fm.lay_str, Fm.lay_nil, this, h s (by simp [nms]), h r (by simp [nms]), lay_data t (fun x q => h x (by simp [nms, q])) (fun g q => k g (by simp [fms, q])), lay_data u (fun x q => h x (by simp [nms, q])) (fun g q => k g (by simp [fms, q])), lay_data v (fun x q => h x (by simp [nms, q])) (fun g q => k g (by simp [fms, q])), Bool.and_self]
  | unit, _, _ => by have := ok_kind unit; simp only [kind] at this; simp only [data, Fm.lay_tup, Fm.lay_cons, Fm.lay_str, Fm.lay_nil, this, Bool.and_self]
  | absd t f, h, k => by have := ok_kind (absd t f); simp only [kind] at this; simp only [data, Fm.lay_tup, Fm.lay_cons, Fm.lay_str, Fm.lay_nil, this, k f (by simp [fms]), lay_data t (fun x q => h x (by simp [nms, q])) (fun g q => k g (by simp [fms, q])), Bool.and_self]
end Tm
end Sq
set_option Elab.async false
set_option linter.all false
set_option maxRecDepth 100000
set_option maxHeartbeats 2000000
namespace Sq
open PySem PySem.Spec PyProof.Rows L2
/-! ### data of texts and tuples alone: == tells whether it is one -/
mutual
inductive Pl : PyData → Prop
  | str (x : Str) : Pl (.str x)
  | tup {ds : List PyData} : PlAll ds → Pl (.tuple ds)
inductive PlAll : List PyData → Prop
  | nil : PlAll []
  | cons {d : PyData} {ds : List PyData} : Pl d → PlAll ds → PlAll (d :: ds)
end
mutual
theorem eqv_pl : ∀ {x y : PyData}, Pl x → Pl y → (PyData.eqv x y = true ↔ x = y)
  | _, _, .str a, .str b => by rw [Fm.eqv_str]; simp
  | _, _, .str a, .tup _ => ⟨fun h => by rw [PyData.eqv] at h <;> simp at h, fun h => by cases h⟩
  | _, _, .tup _, .str b => ⟨fun h => by rw [PyData.eqv] at h <;> simp at h, fun h => by cases h⟩
  | _, _, .tup h, .tup k => by
    rw [Fm.eqv_tup, eqv_plAll h k]
    exact ⟨fun e => by rw [e], fun e => by cases e; rfl⟩
theorem eqv_plAll : ∀ {xs ys : List PyData}, PlAll xs → PlAll ys → (PyData.eqvAll xs ys = true ↔ xs = ys)
  | _, _, .nil, .nil => by rw [Fm.eqvAll_nil]; simp
  | _, _, .nil, .cons _ _ => by rw [Fm.eqvAll_nc]; simp
  | _, _, .cons _ _, .nil => by rw [Fm.eqvAll_cn]; simp
  | _, _, .cons h r, .cons k q => by
    rw [Fm.eqvAll_cons, Bool.and_eq_true, eqv_pl h k, eqv_plAll r q]
    exact ⟨fun e => by rw [e.1, e.2], fun e => by cases e; exact ⟨rfl, rfl⟩⟩
end
theorem Fm.pl_data : ∀ f : Fm, Pl f.data
  | .name x => .tup (.cons (.str _) (.cons (.str _) .nil))
  | .one => .tup (.cons (.str _) .nil)
  | .none => .tup (.cons (.str _) .nil)
  | .bin j s t => .tup (.cons (.str _) (.cons (Fm.pl_data s) (.cons (Fm.pl_data t) .nil)))
theorem Fm.data_inj {f g : Fm} (h : f.data = g.data) : f = g := by
  have := Fm.eqv_data f g
  rw [(eqv_pl f.pl_data g.pl_data).mpr h] at this
  exact of_decide_eq_true this.symm
namespace Tm
theorem pl_data : ∀ t : Tm, Pl t.data
  | var _ => .tup (.cons (.str _) (.cons (.str _) .nil))
  | fn _ f t => .tup (.cons (.str _) (.cons (.str _) (.cons f.pl_data (.cons (pl_data t) .nil))))
  | app t u => .tup (.cons (.str _) (.cons (pl_data t) (.cons (pl_data u) .nil)))
  | pair t u => .tup (.cons (.str _) (.cons (pl_data t) (.cons (pl_data u) .nil)))
  | fst t => .tup (.cons (.str _) (.cons (pl_data t) .nil))
  | snd t => .tup (.cons (.str _) (.cons (pl_data t) .nil))
  | lft t f => .tup (.cons (.str _) (.cons (pl_data t) (.cons f.pl_data .nil)))
  | rgt f t => .tup (.cons (.str _) (.cons f.pl_data (.cons (pl_data t) .nil)))
  | cs t _ u _ v => .tup (.cons (.str _) (.cons (pl_data t) (.cons (.str _) (.cons (pl_data u) (.cons (.str _) (.cons (pl_data v) .nil))))))
  | unit => .tup (.cons (.str _) .nil)
  | absd t f => .tup (.cons (.str _) (.cons (pl_data t) (.cons f.pl_data .nil)))
theorem kind_tag {t u : Tm} (h : t.data = u.data) : t.kind = u.kind := by
  obtain ⟨a, ha⟩ := data_k t
  obtain ⟨b, hb⟩ := data_k u
  rw [ha, hb] at h
  injection h with h
  injection h with h _
  injection h
theorem tup_inj {a b : List PyData} (h : PyData.tuple a = .tuple b) : a = b := by injection h
theorem data_inj : ∀ {t u : Tm}, t.data = u.data → t = u
  | var s, u, h => by cases u <;> first | (simp only [data, PyData.tuple.injEq, List.cons.injEq, PyData.str.injEq] at h; rw [h.2.1]; done) | exact absurd (kind_tag h) (by simp only [kind]; decide)
  | fn s f t, u, h => by cases u <;> first | exact absurd (kind_tag h) (by simp only [kind]; decide) | (simp only [data, PyData.tuple.injEq, List.cons.injEq, PyData.str.injEq] at h; rw [h.2.1, Fm.data_inj h.2.2.1, data_inj h.2.2.2.1])
  | app t u, w, h => by cases w <;> first | exact absurd (kind_tag h) (by simp only [kind]; decide) | (simp only [data, PyData.tuple.injEq, List.cons.injEq, PyData.str.injEq] at h; rw [data_inj h.2.1, data_inj h.2.2.1])
  | pair t u, w, h => by cases w <;> first | exact absurd (kind_tag h) (by simp only [kind]; decide) | (simp only [data, PyData.tuple.injEq, List.cons.injEq, PyData.str.injEq] at h; rw [data_inj h.2.1, data_inj h.2.2.1])
  | fst t, w, h => by cases w <;> first | exact absurd (kind_tag h) (by simp only [kind]; decide) | (simp only [data, PyData.tuple.injEq, List.cons.injEq, PyData.str.injEq] at h; rw [data_inj h.2.1])
  | snd t, w, h => by cases w <;> first | exact absurd (kind_tag h) (by simp only [kind]; decide) | (simp only [data, PyData.tuple.injEq, List.cons.injEq, PyData.str.injEq] at h; rw [data_inj h.2.1])
  | lft t f, w, h => by cases w <;> first | exact absurd (kind_tag h) (by simp only [kind]; decide) | (simp only [data, PyData.tuple.injEq, List.cons.injEq, PyData.str.injEq] at h; rw [data_inj h.2.1, Fm.data_inj h.2.2.1])
  | rgt f t, w, h => by cases w <;> first | exact absurd (kind_tag h) (by simp only [kind]; decide) | (simp only [data, PyData.tuple.injEq, List.cons.injEq, PyData.str.injEq] at h; rw [Fm.data_inj h.2.1, data_inj h.2.2.1])
  | cs t s u r v, w, h => by cases w <;> first | exact absurd (kind_tag h) (by simp only [kind]; decide) | (simp only [data, PyData.tuple.injEq, List.cons.injEq, PyData.str.injEq] at h; rw [data_inj h.2.1, h.2.2.1, data_inj h.2.2.2.1, h.2.2.2.2.1, data_inj h.2.2.2.2.2.1])
  | unit, w, h => by cases w <;> first | rfl | exact absurd (kind_tag h) (by simp only [kind]; decide)
  | absd t f, w, h => by cases w <;> first | exact absurd (kind_tag h) (by simp only [kind]; decide) | (simp only [data, PyData.tuple.injEq, List.cons.injEq, PyData.str.injEq] at h; rw [data_inj h.2.1, Fm.data_inj h.2.2.1])
theorem eqv_data (t u : Tm) : PyData.eqv t.data u.data = decide (t = u) := by
  have := eqv_pl t.pl_data u.pl_data
  cases e : PyData.eqv t.data u.data with
  | true => exact (decide_eq_true (data_inj (this.mp e))).symm
  | false => exact (decide_eq_false fun z => by rw [z] at e; rw [(eqv_pl u.pl_data u.pl_data).mpr rfl] at e; cases e).symm
end Tm
end Sq
set_option Elab.async false
set_option linter.all false
set_option maxRecDepth 100000
set_option maxHeartbeats 2000000
namespace Sq
open PySem PySem.Spec PyProof.Rows L2
/-! ### the text of a formula, and how it is read -/
def Jn.lev : Jn → Nat
  | .to => 0
  | .either => 1
  | .both => 2
def Jn.sign : Jn → Nat
  | .to => 62
  | .either => 124
  | .both => 38
def Jn.ll : Jn → Nat
  | .to => 1
  | .either => 1
  | .both => 2
def Jn.rl : Jn → Nat
  | .to => 0
  | .either => 2
  | .both => 3
def Fm.tell : Nat → Fm → List Nat
  | _, .name x => x.cps.toList
  | _, .one => [49]
  | _, .none => [48]
  | l, .bin j s t => if j.lev < l then [40] ++ (Fm.tell j.ll s ++ ([j.sign] ++ (Fm.tell j.rl t ++ [41]))) else Fm.tell j.ll s ++ ([j.sign] ++ Fm.tell j.rl t)
/-- names that are one small letter -/
def Let (x : Str) : Prop := ∃ c, x = ⟨#[c]⟩ ∧ 97 ≤ c ∧ c ≤ 122
inductive Md
  | to
  | row (l : Nat)
  | one
  | loop (l : Nat) (f : Fm)
def opJ : Nat → Jn
  | 0 => .either
  | _ => .both
def nxM : Nat → Md
  | 0 => .row 1
  | _ => .one
/-- how a text is read: what is told, and what is left -/
inductive Rd : Md → List Nat → Fm × List Nat → Prop
  | to1 {ts r s : List Nat} {f g : Fm} : Rd (.row 0) ts (f, 62 :: r) → Rd .to r (g, s) → Rd .to ts (.bin .to f g, s)
  | to0 {ts r : List Nat} {f : Fm} : Rd (.row 0) ts (f, r) → r.head? ≠ some 62 → Rd .to ts (f, r)
  | row {l : Nat} {ts r : List Nat} {f : Fm} {x : Fm × List Nat} : Rd (nxM l) ts (f, r) → Rd (.loop l f) r x → Rd (.row l) ts x
  | loop1 {l : Nat} {r s : List Nat} {f g : Fm} {x : Fm × List Nat} : Rd (nxM l) r (g, s) → Rd (.loop l (.bin (opJ l) f g)) s x → Rd (.loop l f) ((opJ l).sign :: r) x
  | loop0 {l : Nat} {ts : List Nat} {f : Fm} : ts.head? ≠ some (opJ l).sign → Rd (.loop l f) ts (f, ts)
  | par {r s : List Nat} {f : Fm} : Rd .to r (f, 41 :: s) → Rd .one (40 :: r) (f, s)
  | one {r : List Nat} : Rd .one (49 :: r) (.one, r)
  | zero {r : List Nat} : Rd .one (48 :: r) (.none, r)
  | name {c : Nat} {r : List Nat} : 97 ≤ c → c ≤ 122 → Rd .one (c :: r) (.name ⟨#[c]⟩, r)
theorem Rd.det {m : Md} {ts : List Nat} {x : Fm × List Nat} (h : Rd m ts x) : ∀ {y : Fm × List Nat}, Rd m ts y → x = y := by
  induction h with
  | to1 _ _ ih1 ih2 =>
    intro y k
    cases k with
    | to1 k1 k2 =>
      have := ih1 k1
      simp only [Prod.mk.injEq, List.cons.injEq, true_and] at this
      obtain ⟨e1, e2⟩ := this
      subst e1 e2
      have := ih2 k2
      simp only [Prod.mk.injEq] at this
      rw [this.1, this.2]
    | to0 k1 k2 =>
      have := ih1 k1
      simp only [Prod.mk.injEq] at this
      rw [← this.2] at k2
      exact absurd rfl k2
  | to0 _ hn ih =>
    intro y k
    cases k with
    | to1 k1 k2 =>
      have := ih k1
      simp only [Prod.mk.injEq] at this
      rw [this.2] at hn
      exact absurd rfl hn
    | to0 k1 k2 => exact ih k1
  | row _ _ ih1 ih2 =>
    intro y k
    cases k with
    | row k1 k2 =>
      have := ih1 k1
      simp only [Prod.mk.injEq] at this
      obtain ⟨e1, e2⟩ := this
      subst e1 e2
      exact ih2 k2
  | loop1 _ _ ih1 ih2 =>
    intro y k
    cases k with
    | loop1 k1 k2 =>
      have := ih1 k1
      simp only [Prod.mk.injEq] at this
      obtain ⟨e1, e2⟩ := this
      subst e1 e2
      exact ih2 k2
    | loop0 k1 => exact absurd rfl k1
  | loop0 hn =>
    intro y k
    cases k with
    | loop1 k1 k2 => exact absurd rfl hn
    | loop0 _ => rfl
  | par _ ih =>
    intro y k
    cases k with
    | par k1 =>
      have := ih k1
      simp only [Prod.mk.injEq, List.cons.injEq, true_and] at this
      rw [this.1, this.2]
    | name a b => omega
  | one =>
    intro y k
    cases k with
    | one => rfl
    | name a b => omega
  | zero =>
    intro y k
    cases k with
    | zero => rfl
    | name a b => omega
  | name a b =>
    intro y k
    cases k with
    | par _ => omega
    | one => omega
    | zero => omega
    | name _ _ => rfl
theorem up1 {w r : List Nat} {f : Fm} {x : Fm × List Nat} (h : ∀ r x, Rd (.loop 1 f) r x → Rd (.row 1) (w ++ r) x) (hr : r.head? ≠ some 38) (k : Rd (.loop 0 f) r x) : Rd (.row 0) (w ++ r) x := .row (h r (f, r) (.loop0 hr)) k
theorem up0 {w r : List Nat} {f : Fm} (h : ∀ r x, r.head? ≠ some 38 → Rd (.loop 0 f) r x → Rd (.row 0) (w ++ r) x) (h1 : r.head? ≠ some 38) (h2 : r.head? ≠ some 124) (h3 : r.head? ≠ some 62) : Rd .to (w ++ r) (f, r) := .to0 (h r (f, r) h1 (.loop0 h2)) h3
/-- all four levels of a formula's text -/
structure TL4 (f : Fm) : Prop where
  l3 : ∀ r, Rd .one (f.tell 3 ++ r) (f, r)
  l2 : ∀ r x, Rd (.loop 1 f) r x → Rd (.row 1) (f.tell 2 ++ r) x
  l1 : ∀ r x, r.head? ≠ some 38 → Rd (.loop 0 f) r x → Rd (.row 0) (f.tell 1 ++ r) x
  l0 : ∀ r, r.head? ≠ some 38 → r.head? ≠ some 124 → r.head? ≠ some 62 → Rd .to (f.tell 0 ++ r) (f, r)
theorem tl_atom {f : Fm} (h : ∀ l, f.tell l = f.tell 3) (k : ∀ r, Rd .one (f.tell 3 ++ r) (f, r)) : TL4 f := by
  have a2 : ∀ r x, Rd (.loop 1 f) r x → Rd (.row 1) (f.tell 3 ++ r) x := fun r x q => .row (k r) q
  have a1 : ∀ r x, r.head? ≠ some 38 → Rd (.loop 0 f) r x → Rd (.row 0) (f.tell 3 ++ r) x := fun r x h1 q => up1 a2 h1 q
  exact ⟨k, by rw [h 2]; exact a2, by rw [h 1]; exact a1, by rw [h 0]; exact fun r h1 h2 h3 => up0 a1 h1 h2 h3⟩
theorem tl_par {f : Fm} {w : List Nat} (h0 : ∀ r, r.head? ≠ some 38 → r.head? ≠ some 124 → r.head? ≠ some 62 → Rd .to (w ++ r) (f, r)) (r : List Nat) : Rd .one (([40] ++ (w ++ [41])) ++ r) (f, r) := by
  have : ([40] ++ (w ++ [41])) ++ r = 40 :: (w ++ (41 :: r)) := by simp
  rw [this]
  exact .par (h0 (41 :: r) (by simp) (by simp) (by simp))
theorem tells : ∀ f : Fm, (∀ x ∈ f.names, Let x) → TL4 f
  | .name x, h => by
    obtain ⟨c, rfl, c1, c2⟩ := h x (by simp [Fm.names])
    exact tl_atom (fun l => by rw [Fm.tell, Fm.tell]) fun r => .name c1 c2
  | .one, _ => tl_atom (fun l => by rw [Fm.tell, Fm.tell]) fun r => .one
  | .none, _ => tl_atom (fun l => by rw [Fm.tell, Fm.tell]) fun r => .zero
  | .bin j s t, h => by
    have hs := tells s fun x hx => h x (List.mem_append_left _ hx)
    have ht := tells t fun x hx => h x (List.mem_append_right _ hx)
    cases j with
    | both =>
      have w2 : (Fm.bin .both s t).tell 2 = s.tell 2 ++ ([38] ++ t.tell 3) := by rw [Fm.tell, if_neg (by decide)]; rfl
      have w1 : (Fm.bin .both s t).tell 1 = s.tell 2 ++ ([38] ++ t.tell 3) := by rw [Fm.tell, if_neg (by decide)]; rfl
      have w0 : (Fm.bin .both s t).tell 0 = s.tell 2 ++ ([38] ++ t.tell 3) := by rw [Fm.tell, if_neg (by decide)]; rfl
      have w3 : (Fm.bin .both s t).tell 3 = [40] ++ ((s.tell 2 ++ ([38] ++ t.tell 3)) ++ [41]) := by rw [Fm.tell, if_pos (by decide)]; simp [Jn.ll, Jn.rl, Jn.sign]
      have a2 : ∀ r x, Rd (.loop 1 (.bin .both s t)) r x → Rd (.row 1) ((s.tell 2 ++ ([38] ++ t.tell 3)) ++ r) x := fun r x q => by
        have : (s.tell 2 ++ ([38] ++ t.tell 3)) ++ r = s.tell 2 ++ (38 :: (t.tell 3 ++ r)) := by simp
        rw [this]
        exact hs.l2 _ _ (.loop1 (l := 1) (ht.l3 r) q)
      have a1 : ∀ r x, r.head? ≠ some 38 → Rd (.loop 0 (.bin .both s t)) r x → Rd (.row 0) ((s.tell 2 ++ ([38] ++ t.tell 3)) ++ r) x := fun r x h1 q => up1 a2 h1 q
      have a0 := fun r h1 h2 h3 => up0 (r := r) a1 h1 h2 h3
      exact ⟨by rw [w3]; exact tl_par a0, by rw [w2]; exact a2, by rw [w1]; exact a1, by rw [w0]; exact a0⟩
    | either =>
      have w1 : (Fm.bin .either s t).tell 1 = s.tell 1 ++ ([124] ++ t.tell 2) := by rw [Fm.tell, if_neg (by decide)]; rfl
      have w0 : (Fm.bin .either s t).tell 0 = s.tell 1 ++ ([124] ++ t.tell 2) := by rw [Fm.tell, if_neg (by decide)]; rfl
      have w2 : (Fm.bin .either s t).tell 2 = [40] ++ ((s.tell 1 ++ ([124] ++ t.tell 2)) ++ [41]) := by rw [Fm.tell, if_pos (by decide)]; simp [Jn.ll, Jn.rl, Jn.sign]
      have w3 : (Fm.bin .either s t).tell 3 = [40] ++ ((s.tell 1 ++ ([124] ++ t.tell 2)) ++ [41]) := by rw [Fm.tell, if_pos (by decide)]; simp [Jn.ll, Jn.rl, Jn.sign]
      have a1 : ∀ r x, r.head? ≠ some 38 → Rd (.loop 0 (.bin .either s t)) r x → Rd (.row 0) ((s.tell 1 ++ ([124] ++ t.tell 2)) ++ r) x := fun r x h1 q => by
        have : (s.tell 1 ++ ([124] ++ t.tell 2)) ++ r = s.tell 1 ++ (124 :: (t.tell 2 ++ r)) := by simp
        rw [this]
        exact hs.l1 _ _ (by simp) (.loop1 (l := 0) (ht.l2 _ _ (.loop0 h1)) q)
      have a0 := fun r h1 h2 h3 => up0 (r := r) a1 h1 h2 h3
      have a3 := tl_par a0
      have a2 : ∀ r x, Rd (.loop 1 (.bin .either s t)) r x → Rd (.row 1) (([40] ++ ((s.tell 1 ++ ([124] ++ t.tell 2)) ++ [41])) ++ r) x := fun r x q => .row (a3 r) q
      exact ⟨by rw [w3]; exact a3, by rw [w2]; exact a2, by rw [w1]; exact a1, by rw [w0]; exact a0⟩
    | to =>
      have w0 : (Fm.bin .to s t).tell 0 = s.tell 1 ++ ([62] ++ t.tell 0) := by rw [Fm.tell, if_neg (by decide)]; rfl
      have w1 : (Fm.bin .to s t).tell 1 = [40] ++ ((s.tell 1 ++ ([62] ++ t.tell 0)) ++ [41]) := by rw [Fm.tell, if_pos (by decide)]; simp [Jn.ll, Jn.rl, Jn.sign]
      have w2 : (Fm.bin .to s t).tell 2 = [40] ++ ((s.tell 1 ++ ([62] ++ t.tell 0)) ++ [41]) := by rw [Fm.tell, if_pos (by decide)]; simp [Jn.ll, Jn.rl, Jn.sign]
      have w3 : (Fm.bin .to s t).tell 3 = [40] ++ ((s.tell 1 ++ ([62] ++ t.tell 0)) ++ [41]) := by rw [Fm.tell, if_pos (by decide)]; simp [Jn.ll, Jn.rl, Jn.sign]
      have a0 : ∀ r : List Nat, r.head? ≠ some 38 → r.head? ≠ some 124 → r.head? ≠ some 62 → Rd .to ((s.tell 1 ++ ([62] ++ t.tell 0)) ++ r) (.bin .to s t, r) := fun r h1 h2 h3 => by
        have : (s.tell 1 ++ ([62] ++ t.tell 0)) ++ r = s.tell 1 ++ (62 :: (t.tell 0 ++ r)) := by simp
        rw [this]
        exact .to1 (hs.l1 _ _ (by simp) (.loop0 (by simp [opJ, Jn.sign]))) (ht.l0 r h1 h2 h3)
      have a3 := tl_par a0
      have a2 : ∀ r x, Rd (.loop 1 (.bin .to s t)) r x → Rd (.row 1) (([40] ++ ((s.tell 1 ++ ([62] ++ t.tell 0)) ++ [41])) ++ r) x := fun r x q => .row (a3 r) q
      have a1 : ∀ r x, r.head? ≠ some 38 → Rd (.loop 0 (.bin .to s t)) r x → Rd (.row 0) (([40] ++ ((s.tell 1 ++ ([62] ++ t.tell 0)) ++ [41])) ++ r) x := fun r x h1 q => up1 a2 h1 q
      exact ⟨by rw [w3]; exact a3, by rw [w2]; exact a2, by rw [w1]; exact a1, by rw [w0]; exact a0⟩
/-- formulas' texts read apart -/
theorem tell_apart {f g : Fm} {r s : List Nat} (hf : ∀ x ∈ f.names, Let x) (hg : ∀ x ∈ g.names, Let x) (h1 : r.head? ≠ some 38 ∧ r.head? ≠ some 124 ∧ r.head? ≠ some 62) (h2 : s.head? ≠ some 38 ∧ s.head? ≠ some 124 ∧ s.head? ≠ some 62) (e : f.tell 0 ++ r = g.tell 0 ++ s) : f = g ∧ r = s := by
  have a := (tells f hf).l0 r h1.1 h1.2.1 h1.2.2
  have b := (tells g hg).l0 s h2.1 h2.2.1 h2.2.2
  rw [e] at a
  have := a.det b
  simpa using this
end Sq
set_option Elab.async false
set_option linter.all false
set_option maxRecDepth 100000
set_option maxHeartbeats 2000000
namespace Sq
open PySem PySem.Spec PyProof.Rows L2
namespace Tm
/-! ### places in terms -/
/-- other terms within, as many as there are -/
def withS : Tm → List Tm → Tm
  | fn s f _, [t] => fn s f t
  | app _ _, [t, u] => app t u
  | pair _ _, [t, u] => pair t u
  | fst _, [t] => fst t
  | snd _, [t] => snd t
  | lft _ f, [t] => lft t f
  | rgt f _, [t] => rgt f t
  | cs _ s _ r _, [t, u, v] => cs t s u r v
  | absd _ f, [t] => absd t f
  | t, _ => t
theorem withS_subs (t : Tm) : t.withS t.subs = t := by cases t <;> rfl
theorem subs_withS {t : Tm} {us : List Tm} (h : us.length = t.subs.length) : (t.withS us).subs = us := by
  cases t <;> simp only [subs, List.length_cons, List.length_nil] at h
  all_goals (first
    | (match us, h with | [], _ => rfl)
    | (match us, h with | [a], _ => rfl)
    | (match us, h with | [a, b], _ => rfl)
    | (match us, h with | [a, b, c], _ => rfl))
theorem subs_le (t : Tm) : t.subs.length ≤ 3 := by cases t <;> simp [subs]
def sub? (t : Tm) (k : Nat) : Option Tm := t.subs[k]?
def at? : Tm → List Nat → Option Tm
  | t, [] => some t
  | t, k :: p => match t.subs[k]? with
    | some u => at? u p
    | .none => none
def lay? : Tm → List Nat → Tm → Option Tm
  | _, [], o => some o
  | t, k :: p, o => match t.subs[k]? with
    | some u => (lay? u p o).map fun w => t.withS (t.subs.set k w)
    | .none => none
theorem at_app : ∀ (t : Tm) (p q : List Nat), at? t (p ++ q) = (at? t p).bind fun u => at? u q
  | t, [], q => rfl
  | t, k :: p, q => by
    show (match t.subs[k]? with | some u => at? u (p ++ q) | .none => none) = (match t.subs[k]? with | some u => at? u p | .none => none).bind _
    cases t.subs[k]? with
    | none => rfl
    | some u => exact at_app u p q
theorem lay_same : ∀ (t : Tm) (p : List Nat) (u : Tm), at? t p = some u → lay? t p u = some t
  | t, [], u, h => by cases h; rfl
  | t, k :: p, u, h => by
    have h : (match t.subs[k]? with | some w => at? w p | .none => none) = some u := h
    show (match t.subs[k]? with | some w => (lay? w p u).map fun w => t.withS (t.subs.set k w) | .none => none) = _
    cases e : t.subs[k]? with
    | none => rw [e] at h; cases h
    | some w =>
      rw [e] at h
      obtain ⟨hk, hw⟩ := List.getElem?_eq_some_iff.mp e
      show (lay? w p u).map _ = _
      rw [lay_same w p u h]
      have : t.subs.set k w = t.subs := by rw [← hw, List.set_getElem_self]
      show some (t.withS (t.subs.set k w)) = _
      rw [this, withS_subs]
theorem at_lay : ∀ (t : Tm) (p : List Nat) (o r : Tm), lay? t p o = some r → at? r p = some o
  | t, [], o, r, h => by cases h; rfl
  | t, k :: p, o, r, h => by
    have h : (match t.subs[k]? with | some w => (lay? w p o).map fun w => t.withS (t.subs.set k w) | .none => none) = some r := h
    cases e : t.subs[k]? with
    | none => rw [e] at h; cases h
    | some w =>
      rw [e] at h
      have h : (lay? w p o).map (fun w => t.withS (t.subs.set k w)) = some r := h
      cases e2 : lay? w p o with
      | none => rw [e2] at h; cases h
      | some w' =>
        rw [e2] at h
        cases h
        obtain ⟨hk, _⟩ := List.getElem?_eq_some_iff.mp e
        show (match (t.withS (t.subs.set k w')).subs[k]? with | some u => at? u p | .none => none) = _
        rw [subs_withS (by rw [List.length_set]), List.getElem?_set_self hk]
        exact at_lay w p o w' e2
theorem lay_some : ∀ (t : Tm) (p : List Nat) (u o : Tm), at? t p = some u → ∃ r, lay? t p o = some r
  | t, [], u, o, _ => ⟨o, rfl⟩
  | t, k :: p, u, o, h => by
    have h : (match t.subs[k]? with | some w => at? w p | .none => none) = some u := h
    show ∃ r, (match t.subs[k]? with | some w => (lay? w p o).map fun w => t.withS (t.subs.set k w) | .none => none) = some r
    cases e : t.subs[k]? with
    | none => rw [e] at h; cases h
    | some w =>
      rw [e] at h
      obtain ⟨r, hr⟩ := lay_some w p u o h
      exact ⟨_, by show (lay? w p o).map _ = _; rw [hr]; rfl⟩
end Tm
end Sq
set_option Elab.async false
set_option linter.all false
set_option maxRecDepth 100000
set_option maxHeartbeats 4000000
namespace Sq
open PySem PySem.Spec PyProof.Rows L2
/-! ### the text of a term; terms' texts read apart -/
/-- names: q, and x with a sign behind it -/
def NmX (n : Str) : Prop := n = ⟨#[113]⟩ ∨ ∃ d, n = ⟨#[120, d]⟩
namespace Tm
def text : Tm → List Nat
  | var n => n.cps.toList
  | fn n f t => 40 :: (n.cps.toList ++ 58 :: (f.tell 0 ++ 46 :: (text t ++ [41])))
  | app t u => 40 :: (text t ++ 32 :: (text u ++ [41]))
  | pair t u => 60 :: (text t ++ 44 :: (text u ++ [62]))
  | fst t => 102 :: 105 :: 114 :: 115 :: 116 :: 32 :: text t
  | snd t => 115 :: 101 :: 99 :: 111 :: 110 :: 100 :: 32 :: text t
  | lft t f => 108 :: 101 :: 102 :: 116 :: 91 :: (f.tell 0 ++ 93 :: 32 :: text t)
  | rgt f t => 114 :: 105 :: 103 :: 104 :: 116 :: 91 :: (f.tell 0 ++ 93 :: 32 :: text t)
  | cs t n u m v => 123 :: (text t ++ 124 :: (n.cps.toList ++ 46 :: (text u ++ 124 :: (m.cps.toList ++ 46 :: (text v ++ [125])))))
  | unit => [40, 41]
  | absd t f => 97 :: 98 :: 115 :: 117 :: 114 :: 100 :: 91 :: (f.tell 0 ++ 93 :: 32 :: text t)
/-- names and formulas are plain -/
structure Fine (t : Tm) : Prop where
  n : ∀ x ∈ t.nms, NmX x
  f : ∀ g ∈ t.fms, ∀ x ∈ g.names, Let x
theorem Fine.sub {t u : Tm} (h : t.Fine) (k : u ∈ t.subs) : u.Fine := ⟨fun x q => h.n x (nms_sub k q), fun g q => h.f g (fms_sub k q)⟩
theorem nm_apart {n m : Str} (hn : NmX n) (hm : NmX m) {r s : List Nat} (e : n.cps.toList ++ r = m.cps.toList ++ s) : n = m ∧ r = s := by
  rcases hn with rfl | ⟨d, rfl⟩ <;> rcases hm with rfl | ⟨c, rfl⟩
  · exact ⟨rfl, by simpa using e⟩
  · simp at e
  · simp at e
  · simp at e; exact ⟨by rw [e.1], e.2⟩
theorem nm_hd {n : Str} (hn : NmX n) : ∃ c l, n.cps.toList = c :: l ∧ (c = 113 ∨ c = 120) := by
  rcases hn with rfl | ⟨d, rfl⟩
  · exact ⟨113, [], rfl, .inl rfl⟩
  · exact ⟨120, [d], rfl, .inr rfl⟩
def sign : Tm → Nat
  | var _ => 113
  | fn _ _ _ => 40
  | app _ _ => 40
  | pair _ _ => 60
  | fst _ => 102
  | snd _ => 115
  | lft _ _ => 108
  | rgt _ _ => 114
  | cs _ _ _ _ _ => 123
  | unit => 40
  | absd _ _ => 97
/-- the first sign -/
theorem text_hd {t : Tm} (h : t.Fine) : ∃ c l, t.text = c :: l ∧ (c = t.sign ∨ c = 120 ∧ t.sign = 113) := by
  cases t with
  | var n =>
    obtain ⟨c, l, e, q⟩ := nm_hd (h.n n (by simp [nms]))
    exact ⟨c, l, e, q.imp id fun z => ⟨z, rfl⟩⟩
  | _ => exact ⟨_, _, rfl, .inl rfl⟩
theorem hd_apart {t u : Tm} (ht : t.Fine) (hu : u.Fine) {r s : List Nat} (e : t.text ++ r = u.text ++ s) : t.sign = u.sign := by
  obtain ⟨c, l, e1, q1⟩ := text_hd ht
  obtain ⟨d, m, e2, q2⟩ := text_hd hu
  rw [e1, e2] at e
  simp only [List.cons_append, List.cons.injEq] at e
  have e := e.1
  subst e
  have n1 : t.sign ≠ 120 := by cases t <;> simp [sign]
  have n2 : u.sign ≠ 120 := by cases u <;> simp [sign]
  omega
theorem f_apart {f g : Fm} {r s : List Nat} {c d : Nat} (hf : ∀ x ∈ f.names, Let x) (hg : ∀ x ∈ g.names, Let x) (hc : c = 46 ∨ c = 93) (hd : d = 46 ∨ d = 93) (e : f.tell 0 ++ c :: r = g.tell 0 ++ d :: s) : f = g ∧ r = s := by
  have h1 : (c :: r).head? ≠ some 38 ∧ (c :: r).head? ≠ some 124 ∧ (c :: r).head? ≠ some 62 := by rcases hc with rfl | rfl <;> simp
  have h2 : (d :: s).head? ≠ some 38 ∧ (d :: s).head? ≠ some 124 ∧ (d :: s).head? ≠ some 62 := by rcases hd with rfl | rfl <;> simp
  have := tell_apart hf hg h1 h2 e
  exact ⟨this.1, by simpa using (List.cons.inj this.2).2⟩
theorem text_apart : ∀ {t u : Tm} {r s : List Nat}, t.Fine → u.Fine → t.text ++ r = u.text ++ s → t = u ∧ r = s
  | var n, u, r, s, ht, hu, e => by
    have hs := hd_apart ht hu e
    cases u <;> simp only [sign] at hs <;> first | (exfalso; omega) | skip
    rename_i m
    have := nm_apart (ht.n n (by simp [nms])) (hu.n m (by simp [nms])) e
    exact ⟨by rw [this.1], this.2⟩
  | fn n f t, u, r, s, ht, hu, e => by
    have hs := hd_apart ht hu e
    have hn := ht.n n (by simp [nms])
    cases u <;> simp only [sign] at hs <;> first | (exfalso; omega) | skip
    case fn m g u =>
      simp only [text, List.cons_append, List.append_assoc, List.cons.injEq, true_and] at e
      have h1 := nm_apart hn (hu.n m (by simp [nms])) e
      have h2 := f_apart (ht.f f (by simp [fms])) (hu.f g (by simp [fms])) (.inl rfl) (.inl rfl) (List.cons.inj h1.2).2
      have h3 := text_apart (ht.sub (by simp [subs])) (hu.sub (by simp [subs])) h2.2
      exact ⟨by rw [h1.1, h2.1, h3.1], by simpa using h3.2⟩
    case app u v =>
      simp only [text, List.cons_append, List.append_assoc, List.cons.injEq, true_and] at e
      exfalso
      obtain ⟨c, l, e1, q1⟩ := text_hd (hu.sub (u := u) (by simp [subs]))
      obtain ⟨d, m, e2, q2⟩ := nm_hd hn
      cases u <;> simp only [sign] at q1
      case var k =>
        have := nm_apart hn (hu.n k (by simp [nms])) e
        simp at this
      all_goals
        rw [e1, e2] at e
        simp only [List.cons_append, List.cons.injEq] at e
        have := e.1
        omega
    case unit =>
      simp only [text, List.cons_append, List.append_assoc, List.cons.injEq, true_and] at e
      obtain ⟨d, m, e2, q2⟩ := nm_hd hn
      rw [e2] at e
      simp only [List.cons_append, List.cons.injEq] at e
      have := e.1
      omega
  | app t t2, u, r, s, ht, hu, e => by
    have hs := hd_apart ht hu e
    cases u <;> simp only [sign] at hs <;> first | (exfalso; omega) | skip
    case fn m g u =>
      simp only [text, List.cons_append, List.append_assoc, List.cons.injEq, true_and] at e
      exfalso
      have hm := hu.n m (by simp [nms])
      obtain ⟨c, l, e1, q1⟩ := text_hd (ht.sub (u := t) (by simp [subs]))
      obtain ⟨d, m', e2, q2⟩ := nm_hd hm
      cases t <;> simp only [sign] at q1
      case var k =>
        have := nm_apart (ht.n k (by simp [nms])) hm e
        simp at this
      all_goals
        rw [e1, e2] at e
        simp only [List.cons_append, List.cons.injEq] at e
        have := e.1
        omega
    case app u v =>
      simp only [text, List.cons_append, List.append_assoc, List.cons.injEq, true_and] at e
      have h1 := text_apart (ht.sub (by simp [subs])) (hu.sub (by simp [subs])) e
      have h2 := text_apart (ht.sub (by simp [subs])) (hu.sub (by simp [subs])) (List.cons.inj h1.2).2
      exact ⟨by rw [h1.1, h2.1], by simpa using h2.2⟩
    case unit =>
      simp only [text, List.cons_append, List.append_assoc, List.cons.injEq, true_and] at e
      obtain ⟨c, l, e1, q1⟩ := text_hd (ht.sub (u := t) (by simp [subs]))
      rw [e1] at e
      simp only [List.cons_append, List.cons.injEq] at e
      have := e.1
      exfalso
      cases t <;> simp only [sign] at q1 <;> omega
  | pair t t2, u, r, s, ht, hu, e => by
    have hs := hd_apart ht hu e
    cases u <;> simp only [sign] at hs <;> first | (exfalso; omega) | skip
    case pair u v =>
      simp only [text, List.cons_append, List.append_assoc, List.cons.injEq, true_and] at e
      have h1 := text_apart (ht.sub (by simp [subs])) (hu.sub (by simp [subs])) e
      have h2 := text_apart (ht.sub (by simp [subs])) (hu.sub (by simp [subs])) (List.cons.inj h1.2).2
      exact ⟨by rw [h1.1, h2.1], by simpa using h2.2⟩
  | fst t, u, r, s, ht, hu, e => by
    have hs := hd_apart ht hu e
    cases u <;> simp only [sign] at hs <;> first | (exfalso; omega) | skip
    case fst u =>
      simp only [text, List.cons_append, List.append_assoc, List.cons.injEq, true_and] at e
      have h1 := text_apart (ht.sub (by simp [subs])) (hu.sub (by simp [subs])) e
      exact ⟨by rw [h1.1], h1.2⟩
  | snd t, u, r, s, ht, hu, e => by
    have hs := hd_apart ht hu e
    cases u <;> simp only [sign] at hs <;> first | (exfalso; omega) | skip
    case snd u =>
      simp only [text, List.cons_append, List.append_assoc, List.cons.injEq, true_and] at e
      have h1 := text_apart (ht.sub (by simp [subs])) (hu.sub (by simp [subs])) e
      exact ⟨by rw [h1.1], h1.2⟩
  | lft t f, u, r, s, ht, hu, e => by
    have hs := hd_apart ht hu e
    cases u <;> simp only [sign] at hs <;> first | (exfalso; omega) | skip
    case lft u g =>
      simp only [text, List.cons_append, List.append_assoc, List.cons.injEq, true_and] at e
      have h1 := f_apart (ht.f f (by simp [fms])) (hu.f g (by simp [fms])) (.inr rfl) (.inr rfl) e
      have h2 := text_apart (ht.sub (by simp [subs])) (hu.sub (by simp [subs])) (List.cons.inj h1.2).2
      exact ⟨by rw [h1.1, h2.1], h2.2⟩
  | rgt f t, u, r, s, ht, hu, e => by
    have hs := hd_apart ht hu e
    cases u <;> simp only [sign] at hs <;> first | (exfalso; omega) | skip
    case rgt g u =>
      simp only [text, List.cons_append, List.append_assoc, List.cons.injEq, true_and] at e
      have h1 := f_apart (ht.f f (by simp [fms])) (hu.f g (by simp [fms])) (.inr rfl) (.inr rfl) e
      have h2 := text_apart (ht.sub (by simp [subs])) (hu.sub (by simp [subs])) (List.cons.inj h1.2).2
      exact ⟨by rw [h1.1, h2.1], h2.2⟩
  | cs t n t2 m t3, u, r, s, ht, hu, e => by
    have hs := hd_apart ht hu e
    cases u <;> simp only [sign] at hs <;> first | (exfalso; omega) | skip
    case cs u n2 v m2 v2 =>
      simp only [text, List.cons_append, List.append_assoc, List.cons.injEq, true_and] at e
      have h1 := text_apart (ht.sub (by simp [subs])) (hu.sub (by simp [subs])) e
      have h2 := nm_apart (ht.n n (by simp [nms])) (hu.n n2 (by simp [nms])) (List.cons.inj h1.2).2
      have h3 := text_apart (ht.sub (by simp [subs])) (hu.sub (by simp [subs])) (List.cons.inj h2.2).2
      have h4 := nm_apart (ht.n m (by simp [nms])) (hu.n m2 (by simp [nms])) (List.cons.inj h3.2).2
      have h5 := text_apart (ht.sub (by simp [subs])) (hu.sub (by simp [subs])) (List.cons.inj h4.2).2
      exact ⟨by rw [h1.1, h2.1, h3.1, h4.1, h5.1], by simpa using h5.2⟩
  | unit, u, r, s, ht, hu, e => by
    have hs := hd_apart ht hu e
    cases u <;> simp only [sign] at hs <;> first | (exfalso; omega) | skip
    case fn m g u =>
      simp only [text, List.cons_append, List.append_assoc, List.cons.injEq, true_and] at e
      obtain ⟨d, m', e2, q2⟩ := nm_hd (hu.n m (by simp [nms]))
      rw [e2] at e
      simp only [List.cons_append, List.cons.injEq] at e
      have := e.1
      omega
    case app u v =>
      simp only [text, List.cons_append, List.append_assoc, List.cons.injEq, true_and] at e
      obtain ⟨c, l, e1, q1⟩ := text_hd (hu.sub (u := u) (by simp [subs]))
      rw [e1] at e
      simp only [List.cons_append, List.cons.injEq] at e
      have := e.1
      exfalso
      cases u <;> simp only [sign] at q1 <;> omega
    case unit =>
      simp only [text, List.cons_append, List.append_assoc, List.cons.injEq, true_and] at e
      exact ⟨rfl, by simpa using e⟩
  | absd t f, u, r, s, ht, hu, e => by
    have hs := hd_apart ht hu e
    cases u <;> simp only [sign] at hs <;> first | (exfalso; omega) | skip
    case absd u g =>
      simp only [text, List.cons_append, List.append_assoc, List.cons.injEq, true_and] at e
      have h1 := f_apart (ht.f f (by simp [fms])) (hu.f g (by simp [fms])) (.inr rfl) (.inr rfl) e
      have h2 := text_apart (ht.sub (by simp [subs])) (hu.sub (by simp [subs])) (List.cons.inj h1.2).2
      exact ⟨by rw [h1.1, h2.1], h2.2⟩
theorem text_inj {t u : Tm} (ht : t.Fine) (hu : u.Fine) (e : t.text = u.text) : t = u := (text_apart (r := []) (s := []) ht hu (by rw [e])).1
end Tm
end Sq
set_option Elab.async false
set_option linter.all false
set_option maxRecDepth 100000
set_option maxHeartbeats 2000000
namespace Sq
open PySem PySem.Spec PyProof.Rows L2 RZ
/-! ### zip of a text of plain signs and a tuple -/
section
variable {prog : Program} {w : World} {A : Around} {E : Value → Shared → Prop} {s : Shared}
theorem strIt_at {h h' : Heap} {i : Addr} {ty : String} {x : Str} {t : Tok} {k : Nat} (q : h.IsStrIter i ty x t k) (f : ∀ o, h.get? i = some o → h'.get? i = some o) : h'.IsStrIter i ty x t k := let ⟨o, e, r⟩ := q; ⟨o, f o e, r⟩
theorem zipS_next_item {z TI TO i1 i2 l1 l2 : Addr} {k1 k2 c0 : Nat} {x : Str} {t : Tok} {ys : Array Value} {y a b : Value} {Q : Value → Shared → Prop} (D : ZipApart z TI TO i1 i2 l1 l2)
    (hz : IsZip s.heap z TI TO .none) (hTI : IsPair s.heap TI (.ref i1) (.ref i2)) (hTO : IsPair s.heap TO a b)
    (h1 : s.heap.IsStrIter i1 "str_ascii_iterator" x t k1) (h2 : s.heap.IsTupleIter i2 l2 k2) (hl2 : s.heap.IsTuple l2 ys) (hx : x.cps[k1]? = some c0) (hy : ys[k2]? = some y)
    (hQ : ∀ h' tk u, IsZip h' z TI TO (rawInt s.heap.objs.size) → IsPair h' TO (.str ⟨#[c0]⟩ u) y → h'.IsStrIter i1 "str_ascii_iterator" x t (k1 + 1) → h'.IsTupleIter i2 l2 (k2 + 1) → IsPair h' s.heap.objs.size (.str ⟨#[c0]⟩ u) y → h'.objs.size = s.heap.objs.size + 1 →
      (∀ c o, c ≠ z → c ≠ TO → c ≠ i1 → c ≠ i2 → s.heap.get? c = some o → h'.get? c = some o) → Q (.ref s.heap.objs.size) { s with heap := h', toks := tk }) :
    wpAny (model prog w) A (Builtin.«zip.__next__» ⟨[.ref z], []⟩) (fun fin s' => ∃ v, fin = .done (.ret v) ∧ Q v s') E s := by
  show wpAny _ _ (field (.ref z) 2 >>= _) _ _ _
  refine wpAny_bind (wpAny_field hz rfl (x := .bool false) rfl ?_)
  show wpAny _ _ (field (.ref z) 3 >>= _) _ _ _
  refine wpAny_bind (wpAny_field hz rfl (x := .ref TI) rfl ?_)
  refine wpAny_bind (wpAny_seqItems hTI rfl ?_)
  show wpAny _ _ (Builtin.SmallTypes.ownedTupleIsFree (.ref z) >>= _) _ _ _
  refine wpAny_bind ?_
  unfold Builtin.SmallTypes.ownedTupleIsFree
  refine wpAny_bind (wpAny_field hz rfl (x := .none) rfl (wpAny_pure ?_))
  simp only [if_true]
  refine wpAny_bind (wpAny_rule ?_)
  refine wpAny_bind (wpAny_field hz rfl (x := .ref TO) rfl ?_)
  refine wpAny_bind (wpAny_setField_rec hz (by simp) fun h₁ hz₁ hs₁ => ?_)
  replace hz₁ : IsZip h₁ z TI TO .ellipsis := hz₁
  refine wpAny_bind ?_
  simp only [List.zipIdx_cons, List.zipIdx_nil, List.forIn_cons, List.forIn_nil]
  refine wpAny_bind (wpAny_bind (wpAny_onRaise ?_))
  show wpAny _ _ (Builtin.SmallTypes.nextOf (.ref i1) >>= _) _ _ _
  refine wpAny_bind (wpAny_nextOf_ascii_item (strIt_at h1 fun o e => hs₁.extBut _ _ D.i1z e) hx fun h₂ h1₂ hs₂ => wpAny_pure ?_)
  have hTO₂ : IsPair h₂ TO a b := hs₂.extBut _ _ D.TOi1 (hs₁.extBut _ _ D.TOz hTO)
  refine wpAny_bind (wpAny_seqItems hTO₂ rfl ?_)
  refine wpAny_bind (wpAny_updateSeq_pair hTO₂ fun h₃ hTO₃ hs₃ => ?_)
  replace hTO₃ : IsPair h₃ TO (.str ⟨#[c0]⟩ s.toks) b := hTO₃
  refine wpAny_bind (wpAny_letGo (wpAny_pure ?_))
  refine wpAny_bind (wpAny_bind (wpAny_onRaise ?_))
  show wpAny _ _ (Builtin.SmallTypes.nextOf (.ref i2) >>= _) _ _ _
  refine wpAny_bind (nextOf_tuple_item (((h2.extBut hs₁.extBut D.i2z).extBut hs₂.extBut D.i12.symm).extBut hs₃.extBut D.TOi2.symm)
    (((hl2.extBut hs₁.extBut D.l2z).extBut hs₂.extBut D.l2i1).extBut hs₃.extBut D.l2TO) hy fun h₄ h2₄ hs₄ => wpAny_pure ?_)
  have hTO₄ : IsPair h₄ TO (.str ⟨#[c0]⟩ s.toks) b := hs₄.extBut _ _ D.TOi2 hTO₃
  refine wpAny_bind (wpAny_seqItems hTO₄ rfl ?_)
  refine wpAny_bind (wpAny_updateSeq_pair hTO₄ fun h₅ hTO₅ hs₅ => ?_)
  replace hTO₅ : IsPair h₅ TO (.str ⟨#[c0]⟩ s.toks) y := hTO₅
  refine wpAny_bind (wpAny_letGo (wpAny_pure (wpAny_pure ?_)))
  refine wpAny_bind (wpAny_seqItems hTO₅ rfl ?_)
  refine wpAny_bind (wpAny_newTuple ?_)
  have hsz : h₅.objs.size = s.heap.objs.size := by rw [hs₅.1, hs₄.1, hs₃.1, hs₂.1, hs₁.1]
  have hz₅ : IsZip h₅ z TI TO .ellipsis := hs₅.extBut _ _ D.TOz.symm (hs₄.extBut _ _ D.i2z.symm (hs₃.extBut _ _ D.TOz.symm (hs₂.extBut _ _ D.i1z.symm hz₁)))
  have hk₅ : ∀ c o, c ≠ z → c ≠ TO → c ≠ i1 → c ≠ i2 → s.heap.get? c = some o → h₅.get? c = some o := fun c o c1 c2 c3 c4 e =>
    hs₅.extBut _ _ c2 (hs₄.extBut _ _ c4 (hs₃.extBut _ _ c2 (hs₂.extBut _ _ c3 (hs₁.extBut _ _ c1 e))))
  have h1₅ : h₅.IsStrIter i1 "str_ascii_iterator" x t (k1 + 1) := strIt_at h1₂ fun o e => hs₅.extBut _ _ D.TOi1.symm (hs₄.extBut _ _ D.i12 (hs₃.extBut _ _ D.TOi1.symm e))
  have h2₅ : h₅.IsTupleIter i2 l2 (k2 + 1) := h2₄.extBut hs₅.extBut D.TOi2.symm
  have hzlt : z < h₅.objs.size := Heap.lt_size hz₅
  show wpAny _ _ (Builtin.SmallTypes.ownedTupleHandOut (.ref z) (.ref h₅.objs.size) >>= _) _ _ _
  refine wpAny_bind ?_
  unfold Builtin.SmallTypes.ownedTupleHandOut
  have hz₆ : IsZip (h₅.push { cls := .type "tuple", data := .seq #[.str ⟨#[c0]⟩ s.toks, y] }) z TI TO .ellipsis := Heap.get?_push_of_some _ hz₅
  refine wpAny_bind (wpAny_setField_rec hz₆ (by simp) fun h₇ hz₇ hs₇ => ?_)
  replace hz₇ : IsZip h₇ z TI TO (rawInt h₅.objs.size) := hz₇
  refine wpAny_setField_rec hz₇ (by simp) fun h₈ hz₈ hs₈ => ?_
  replace hz₈ : IsZip h₈ z TI TO (rawInt h₅.objs.size) := hz₈
  have up : ∀ c o, c ≠ z → h₅.get? c = some o → h₈.get? c = some o := fun c o c1 e => hs₈.extBut _ _ c1 (hs₇.extBut _ _ c1 (Heap.get?_push_of_some _ e))
  have hT₈ : IsPair h₈ h₅.objs.size (.str ⟨#[c0]⟩ s.toks) y := hs₈.extBut _ _ (Nat.ne_of_gt hzlt) (hs₇.extBut _ _ (Nat.ne_of_gt hzlt) (Heap.get?_push_size _ rfl))
  have hz8 : h₈.objs.size = h₅.objs.size + 1 := by rw [hs₈.1, hs₇.1, Heap.size_push]
  rw [hsz] at hz₈ hT₈ hz8
  refine wpAny_pure ⟨_, rfl, ?_⟩
  show Q (.ref h₅.objs.size) _
  rw [hsz]
  exact hQ h₈ (s.toks + 1) s.toks hz₈ (up _ _ D.TOz hTO₅) (strIt_at h1₅ fun o e => up _ o D.i1z e) (h2₅.at fun o e => up _ o D.i2z e) hT₈ hz8 fun c o c1 c2 c3 c4 e => up c o c1 (hk₅ c o c1 c2 c3 c4 e)
theorem zipS_next_end {z TI TO i1 i2 l1 l2 : Addr} {k1 k2 : Nat} {x : Str} {t : Tok} {ys : Array Value} {a b : Value} {Q : Fin → Shared → Prop} (hh : A.handled = none) (D : ZipApart z TI TO i1 i2 l1 l2)
    (hz : IsZip s.heap z TI TO .none) (hTI : IsPair s.heap TI (.ref i1) (.ref i2)) (hTO : IsPair s.heap TO a b)
    (h1 : s.heap.IsStrIter i1 "str_ascii_iterator" x t k1) (h2 : s.heap.IsTupleIter i2 l2 k2) (hl2 : s.heap.IsTuple l2 ys) (hend : x.cps[k1]? = none ∨ ys[k2]? = none)
    (hE : ∀ h' e tk, (∀ c o, c ≠ z → c ≠ TO → c ≠ i1 → c ≠ i2 → s.heap.get? c = some o → h'.get? c = some o) → (∃ o, h'.get? e = some o ∧ o.cls = .type "StopIteration") → E (.ref e) { s with heap := h', toks := tk }) :
    wpAny (model prog w) A (Builtin.«zip.__next__» ⟨[.ref z], []⟩) Q E s := by
  show wpAny _ _ (field (.ref z) 2 >>= _) _ _ _
  refine wpAny_bind (wpAny_field hz rfl (x := .bool false) rfl ?_)
  show wpAny _ _ (field (.ref z) 3 >>= _) _ _ _
  refine wpAny_bind (wpAny_field hz rfl (x := .ref TI) rfl ?_)
  refine wpAny_bind (wpAny_seqItems hTI rfl ?_)
  show wpAny _ _ (Builtin.SmallTypes.ownedTupleIsFree (.ref z) >>= _) _ _ _
  refine wpAny_bind ?_
  unfold Builtin.SmallTypes.ownedTupleIsFree
  refine wpAny_bind (wpAny_field hz rfl (x := .none) rfl (wpAny_pure ?_))
  simp only [if_true]
  refine wpAny_bind (wpAny_rule ?_)
  refine wpAny_bind (wpAny_field hz rfl (x := .ref TO) rfl ?_)
  refine wpAny_bind (wpAny_setField_rec hz (by simp) fun h₁ hz₁ hs₁ => ?_)
  replace hz₁ : IsZip h₁ z TI TO .ellipsis := hz₁
  refine wpAny_bind ?_
  simp only [List.zipIdx_cons, List.zipIdx_nil, List.forIn_cons, List.forIn_nil]
  refine wpAny_bind (wpAny_bind (wpAny_onRaise ?_))
  show wpAny _ _ (Builtin.SmallTypes.nextOf (.ref i1) >>= _) _ _ _
  cases hx : x.cps[k1]? with
  | none =>
    refine wpAny_bind (wpAny_nextOf_ascii_end hh (strIt_at h1 fun o e => hs₁.extBut _ _ D.i1z e) hx fun h₂ e hs₂ he => ?_)
    obtain ⟨oe, hoe, hce⟩ := he
    have hz₂ : IsZip h₂ z TI TO .ellipsis := hs₂ _ _ D.i1z.symm hz₁
    have hez : e ≠ z := fun x => by subst x; rw [hz₂] at hoe; cases hoe; simp at hce
    refine wpAny_setField_rec hz₂ (by simp) fun h₃ _ hs₃ => hE h₃ e s.toks (fun c o c1 _ c3 _ x => hs₃.extBut _ _ c1 (hs₂ _ _ c3 (hs₁.extBut _ _ c1 x))) ⟨oe, hs₃.extBut _ _ hez hoe, hce⟩
  | some c0 =>
    have hy : ys[k2]? = none := by rcases hend with h | h; rw [hx] at h; cases h; exact h
    refine wpAny_bind (wpAny_nextOf_ascii_item (strIt_at h1 fun o e => hs₁.extBut _ _ D.i1z e) hx fun h₂ h1₂ hs₂ => wpAny_pure ?_)
    have hTO₂ : IsPair h₂ TO a b := hs₂.extBut _ _ D.TOi1 (hs₁.extBut _ _ D.TOz hTO)
    refine wpAny_bind (wpAny_seqItems hTO₂ rfl ?_)
    refine wpAny_bind (wpAny_updateSeq_pair hTO₂ fun h₃ hTO₃ hs₃ => ?_)
    refine wpAny_bind (wpAny_letGo (wpAny_pure ?_))
    refine wpAny_bind (wpAny_bind (wpAny_onRaise ?_))
    show wpAny _ _ (Builtin.SmallTypes.nextOf (.ref i2) >>= _) _ _ _
    refine wpAny_bind (nextOf_tuple_end hh (((h2.extBut hs₁.extBut D.i2z).extBut hs₂.extBut D.i12.symm).extBut hs₃.extBut D.TOi2.symm)
      (((hl2.extBut hs₁.extBut D.l2z).extBut hs₂.extBut D.l2i1).extBut hs₃.extBut D.l2TO) hy fun h₄ e hs₄ he => ?_)
    obtain ⟨oe, hoe, hce⟩ := he
    have hz₄ : IsZip h₄ z TI TO .ellipsis := hs₄ _ _ D.i2z.symm (hs₃.extBut _ _ D.TOz.symm (hs₂.extBut _ _ D.i1z.symm hz₁))
    have hez : e ≠ z := fun x => by subst x; rw [hz₄] at hoe; cases hoe; simp at hce
    refine wpAny_setField_rec hz₄ (by simp) fun h₅ _ hs₅ => hE h₅ e (s.toks + 1) (fun c o c1 c2 c3 c4 x => hs₅.extBut _ _ c1 (hs₄ _ _ c4 (hs₃.extBut _ _ c2 (hs₂.extBut _ _ c3 (hs₁.extBut _ _ c1 x))))) ⟨oe, hs₅.extBut _ _ hez hoe, hce⟩
theorem pyNext_zipS_item {z TI TO i1 i2 l1 l2 : Addr} {k1 k2 c0 : Nat} {x : Str} {t : Tok} {ys : Array Value} {y a b : Value} {Q : Option Value → Shared → Prop} (D : ZipApart z TI TO i1 i2 l1 l2)
    (hz : IsZip s.heap z TI TO .none) (hTI : IsPair s.heap TI (.ref i1) (.ref i2)) (hTO : IsPair s.heap TO a b)
    (h1 : s.heap.IsStrIter i1 "str_ascii_iterator" x t k1) (h2 : s.heap.IsTupleIter i2 l2 k2) (hl2 : s.heap.IsTuple l2 ys) (hx : x.cps[k1]? = some c0) (hy : ys[k2]? = some y)
    (hQ : ∀ h' tk u, IsZip h' z TI TO (rawInt s.heap.objs.size) → IsPair h' TO (.str ⟨#[c0]⟩ u) y → h'.IsStrIter i1 "str_ascii_iterator" x t (k1 + 1) → h'.IsTupleIter i2 l2 (k2 + 1) → IsPair h' s.heap.objs.size (.str ⟨#[c0]⟩ u) y → h'.objs.size = s.heap.objs.size + 1 →
      (∀ c o, c ≠ z → c ≠ TO → c ≠ i1 → c ≠ i2 → s.heap.get? c = some o → h'.get? c = some o) → Q (some (.ref s.heap.objs.size)) { s with heap := h', toks := tk }) :
    wpAny (model prog w) A (pyNext (.ref z)) Q E s := by
  have hT : s.TypeIs (.ref z) "zip" := ⟨_, hz, rfl⟩
  unfold pyNext
  exact wpAny_bind (wpAny_attempt (wpAny_callSpecial?_slot (name := Str.ofString "__next__") hT F.slot_zip_next
    (wpAny_call_entry F.slot_zip_next hT F.entry_zip_next
      (zipS_next_item D hz hTI hTO h1 h2 hl2 hx hy fun h' tk u a1 a2 a3 a4 a5 a6 a7 => wpAny_pure (hQ h' tk u a1 a2 a3 a4 a5 a6 a7)) (F.args_zip_next_1 _))))
theorem pyNext_zipS_end {z TI TO i1 i2 l1 l2 : Addr} {k1 k2 : Nat} {x : Str} {t : Tok} {ys : Array Value} {a b : Value} {Q : Option Value → Shared → Prop} (hh : A.handled = none) (D : ZipApart z TI TO i1 i2 l1 l2)
    (hz : IsZip s.heap z TI TO .none) (hTI : IsPair s.heap TI (.ref i1) (.ref i2)) (hTO : IsPair s.heap TO a b)
    (h1 : s.heap.IsStrIter i1 "str_ascii_iterator" x t k1) (h2 : s.heap.IsTupleIter i2 l2 k2) (hl2 : s.heap.IsTuple l2 ys) (hend : x.cps[k1]? = none ∨ ys[k2]? = none)
    (hQ : ∀ h' tk, (∀ c o, c ≠ z → c ≠ TO → c ≠ i1 → c ≠ i2 → s.heap.get? c = some o → h'.get? c = some o) → Q none { s with heap := h', toks := tk }) : wpAny (model prog w) A (pyNext (.ref z)) Q E s := by
  have hT : s.TypeIs (.ref z) "zip" := ⟨_, hz, rfl⟩
  unfold pyNext
  refine wpAny_bind (wpAny_attempt (wpAny_callSpecial?_slot (name := Str.ofString "__next__") hT F.slot_zip_next
    (wpAny_call_entry F.slot_zip_next hT F.entry_zip_next (zipS_next_end hh D hz hTI hTO h1 h2 hl2 hend fun h' e tk hk he => ?_) (F.args_zip_next_1 _))))
  obtain ⟨o, ho, hc⟩ := he
  refine wpAny_bind (wpAny_isInstance (T := "StopIteration") (b := true) ⟨o, ho, hc⟩ isSubtype_stop ?_)
  exact wpAny_pure (hQ _ _ hk)
end
abbrev zSH1 (h : Heap) (x : Str) (t : Tok) : Heap := h.push { cls := .type "str_ascii_iterator", data := .fields #[.str x t, .int 0 0] }
abbrev zSH2 (h : Heap) (x : Str) (t : Tok) (l2 : Addr) : Heap := (zSH1 h x t).push { cls := .type "tuple_iterator", data := .fields #[.ref l2, .int 0 0] }
abbrev zSH3 (h : Heap) (x : Str) (t : Tok) (l2 : Addr) : Heap := (zSH2 h x t l2).push { cls := .type "tuple", data := .seq #[.ref h.objs.size, .ref (zSH1 h x t).objs.size] }
abbrev zSH4 (h : Heap) (x : Str) (t : Tok) (l2 : Addr) : Heap := (zSH3 h x t l2).push { cls := .type "tuple", data := .seq #[.none, .none] }
abbrev zSH5 (h : Heap) (x : Str) (t : Tok) (l2 : Addr) : Heap := (zSH4 h x t l2).push { cls := .type "zip", data := .fields #[.none, .bool false, .bool false, .ref (zSH2 h x t l2).objs.size, .ref (zSH3 h x t l2).objs.size] }
theorem meets_zipS_new (x : Str) (t : Tok) (l2 : Addr) (ys : Array Value) (ha : x.cps.all (· < 128) = true) :
    Meets (Builtin.«zip.__new__» ⟨[.type "zip", .str x t, .ref l2], []⟩) (fun _ R s => s.heap.IsTuple l2 ys ∧
      R (.ok (.ret (.ref (zSH4 s.heap x t l2).objs.size))) { s with heap := zSH5 s.heap x t l2 }) :=
  .of_wp fun prog w A R s h => by
    obtain ⟨hp, g, d, tk, os⟩ := s; obtain ⟨hl2, h⟩ := h
    have hsub := sub_zip
    have hL2 : Heap.IsTuple (Shared.heap ⟨hp.push { cls := .type "str_ascii_iterator", data := .fields #[.str x t, .int 0 0] }, g, d, tk, os⟩) l2 ys := Heap.IsTuple.push hl2 _
    wp_walk using wpAny_pyIter_ascii ha, wpAny_pyIter_tuple hL2
    exact ⟨_, rfl, h⟩
end Sq
set_option Elab.async false
set_option linter.all false
set_option maxRecDepth 100000
set_option maxHeartbeats 2000000
namespace Sq
open PySem PySem.Spec PyProof.Rows L2 RZ
section
variable {prog : Program} {w : World} {A : Around} {E : Value → Shared → Prop} {s : Shared}
theorem call_zipS {x : Str} {t : Tok} {l2 : Addr} {ys : Array Value} {Q : Value → Shared → Prop} (ha : x.cps.all (· < 128) = true) (hl2 : s.heap.IsTuple l2 ys)
    (h : ∀ h', IsZip h' (s.heap.objs.size + 4) (s.heap.objs.size + 2) (s.heap.objs.size + 3) .none → IsPair h' (s.heap.objs.size + 2) (.ref s.heap.objs.size) (.ref (s.heap.objs.size + 1)) →
      IsPair h' (s.heap.objs.size + 3) .none .none → h'.IsStrIter s.heap.objs.size "str_ascii_iterator" x t 0 → h'.IsTupleIter (s.heap.objs.size + 1) l2 0 → h'.objs.size = s.heap.objs.size + 5 →
      (∀ c o, s.heap.get? c = some o → h'.get? c = some o) → Q (.ref (s.heap.objs.size + 4)) { s with heap := h' }) :
    wpAny (model prog w) A (call (.type "zip") [.str x t, .ref l2]) Q E s := by
  refine callType_new F.called_zip (by decide) (F.typeCall_zip_2 _ _) (F.newCall_zip_2 _ _) (fun obj => F.args_object_init_3 obj _ _) F.entry_zip_new
    (meets_zipS_new x t l2 ys ha) ⟨hl2, ?_⟩
  have z1 : (zSH1 s.heap x t).objs.size = s.heap.objs.size + 1 := Heap.size_push ..
  have z2 : (zSH2 s.heap x t l2).objs.size = s.heap.objs.size + 2 := by rw [Heap.size_push, z1]
  have z3 : (zSH3 s.heap x t l2).objs.size = s.heap.objs.size + 3 := by rw [Heap.size_push, z2]
  have z4 : (zSH4 s.heap x t l2).objs.size = s.heap.objs.size + 4 := by rw [Heap.size_push, z3]
  have z5 : (zSH5 s.heap x t l2).objs.size = s.heap.objs.size + 5 := by rw [Heap.size_push, z4]
  have g5 : (zSH5 s.heap x t l2).get? (zSH4 s.heap x t l2).objs.size = some _ := Heap.get?_push_size _ rfl
  have g4 : (zSH5 s.heap x t l2).get? (zSH3 s.heap x t l2).objs.size = some _ := Heap.get?_push_of_some _ (Heap.get?_push_size _ rfl)
  have g3 : (zSH5 s.heap x t l2).get? (zSH2 s.heap x t l2).objs.size = some _ := Heap.get?_push_of_some _ (Heap.get?_push_of_some _ (Heap.get?_push_size _ rfl))
  have g2 : (zSH5 s.heap x t l2).get? (zSH1 s.heap x t).objs.size = some _ := Heap.get?_push_of_some _ (Heap.get?_push_of_some _ (Heap.get?_push_of_some _ (Heap.get?_push_size _ rfl)))
  have g1 : (zSH5 s.heap x t l2).get? s.heap.objs.size = some _ := Heap.get?_push_of_some _ (Heap.get?_push_of_some _ (Heap.get?_push_of_some _ (Heap.get?_push_of_some _ (Heap.get?_push_size _ rfl))))
  show _ ∧ _
  rw [z2, z3, z4] at g5
  rw [z1, z2] at g3
  rw [z3] at g4
  rw [z1] at g2
  rw [z4]
  exact ⟨⟨_, g5, rfl⟩, h _ g5 g3 g4 ⟨_, g1, rfl, rfl⟩ ⟨_, g2, rfl, rfl⟩ z5 fun c o x =>
    Heap.get?_push_of_some _ (Heap.get?_push_of_some _ (Heap.get?_push_of_some _ (Heap.get?_push_of_some _ (Heap.get?_push_of_some _ x))))⟩
end
/-- the signs of x beside the items of the tuple at b, in new pairs -/
def ItzS (K : PySem.W.Frag) (x : Str) (b : Addr) : It :=
  ⟨fun i H => ∃ (ys : List V) (c : Nat) (y : V), SqT K H b ys ∧ x.cps[i]? = some c ∧ ys[i]? = some y,
    fun i H v H' => ∃ T c y, v = .ref T ∧ H T = none ∧ H' = upd H T (.tup [.str ⟨#[c]⟩, y]) ∧ x.cps[i]? = some c ∧ ∀ ys, SqT K H b ys → ys[i]? = some y,
    fun i H => ∃ ys : List V, SqT K H b ys ∧ (x.cps.size ≤ i ∨ ys.length ≤ i)⟩
theorem turn_zipS {P : Program} {w : World} {K : PySem.W.Frag} {elts : List Expr} {kk : Nat} {tpos : Pos} {x : Str} {t : Tok} {a b z TI TO i1 i2 : Addr} (D : ZipApart z TI TO i1 i2 a b) :
    Turn P w K (.Tuple elts kk tpos) (ItzS K x b) [z, TI, TO, i1, i2] z (fun i h => IsZip h z TI TO .none ∧ IsPair h TI (.ref i1) (.ref i2) ∧ (∃ x y, IsPair h TO x y) ∧ h.IsStrIter i1 "str_ascii_iterator" x t i ∧ h.IsTupleIter i2 b i) where
  mem := by simp
  obj := fun i h st c hc => by
    obtain ⟨hz, hTI, ⟨x, y, hTO⟩, ⟨o1, e1, _, d1⟩, ⟨o2, e2, _, d2⟩⟩ := st
    have e' : c = z ∨ c = TI ∨ c = TO ∨ c = i1 ∨ c = i2 := by simpa using hc
    rcases e' with q | q | q | q | q
    · rw [q]; exact ⟨_, hz, fun v q => nomatch q⟩
    · rw [q]; exact ⟨_, hTI, fun v q => nomatch q⟩
    · rw [q]; exact ⟨_, hTO, fun v q => nomatch q⟩
    · rw [q]; exact ⟨o1, e1, fun v q => by rw [d1] at q; cases q⟩
    · rw [q]; exact ⟨o2, e2, fun v q => by rw [d2] at q; cases q⟩
  keep := fun i h h' st k => by
    obtain ⟨hz, hTI, ⟨x, y, hTO⟩, h1, h2⟩ := st
    exact ⟨k z (by simp) _ hz, k TI (by simp) _ hTI, ⟨x, y, k TO (by simp) _ hTO⟩, strIt_at h1 fun o q => k i1 (by simp) o q, h2.at fun o q => k i2 (by simp) o q⟩
  item := by
    intro X hP hw hK hc i pins s σ H E I hf st hg
    subst hP hw hK
    obtain ⟨hz, hTI, ⟨x0, y0, hTO⟩, h1, h2⟩ := st
    obtain ⟨ys, c0, y, hqy, hx, hy⟩ := hg
    obtain ⟨its2, rv2, p2, _⟩ := I.tuple hqy
    obtain ⟨u2, hu2, ru2⟩ := rv2.get hy
    have hzl : z < s.heap.objs.size := Heap.lt_size hz
    refine pyNext_zipS_item D hz hTI hTO h1 h2 p2 (y := u2) hx (by simpa using hu2) fun h' tk u z' TO' h1' h2' hT hsz hk => ?_
    refine ⟨_, rfl, wpAny_letOwnedTupleGo_zip (s := { s with heap := h', toks := tk }) z' fun h'' z'' sb => ?_⟩
    have hT2 : h''.get? s.heap.objs.size = some { cls := .type "tuple", data := .seq #[.str ⟨#[c0]⟩ u, u2] } := (sb.2 _ (Nat.ne_of_gt hzl)).trans hT
    have new : ObjOk X.prog X.w (upd H s.heap.objs.size (.tup [.str ⟨#[c0]⟩, y])) h'' s.heap.objs.size (.tup [.str ⟨#[c0]⟩, y]) :=
      ⟨by show 2 ≤ sizeLine; decide, [.str ⟨#[c0]⟩ u, u2], .cons ⟨u, rfl⟩ (.cons ru2 .nil), ⟨_, hT2, rfl, _, rfl⟩⟩
    have I1 : Inv X pins σ (upd H s.heap.objs.size (.tup [.str ⟨#[c0]⟩, y])) { s with heap := h'', toks := tk } :=
      I.turnedNew (t' := tk) (ch := [z, TI, TO, i1, i2]) (fun c o hb q => (sb.2 c (fun q' => hb (by simp [q']))).trans (hk c o (fun q' => hb (by simp [q'])) (fun q' => hb (by simp [q'])) (fun q' => hb (by simp [q'])) (fun q' => hb (by simp [q'])) q)) hf (Nat.le_refl _) new
    refine ⟨.ref s.heap.objs.size, _, I1, rfl, ⟨_, c0, y, rfl, I.hok.fresh (Nat.le_refl _), rfl, hx, fun l hl => by rw [I.tuple_inj hl hqy]; exact hy⟩, ⟨z'', ?_, ⟨.str ⟨#[c0]⟩ u, u2, (sb.2 _ D.TOz).trans TO'⟩, strIt_at h1' fun o q => (sb.2 _ D.i1z).trans q, h2'.at fun o q => (sb.2 _ D.i2z).trans q⟩, fun c hcm => ?_⟩
    · exact (sb.2 _ D.TIz).trans (hk _ _ D.TIz D.TITO D.TIi1 D.TIi2 hTI)
    · have hlt : c < s.heap.objs.size := by
        have e' : c = z ∨ c = TI ∨ c = TO ∨ c = i1 ∨ c = i2 := by simpa using hcm
        rcases e' with q | q | q | q | q
        · rw [q]; exact hzl
        · rw [q]; exact Heap.lt_size hTI
        · rw [q]; exact Heap.lt_size hTO
        · rw [q]; obtain ⟨_, e1, _⟩ := h1; exact Heap.lt_size e1
        · rw [q]; obtain ⟨_, e2, _⟩ := h2; exact Heap.lt_size e2
      rw [upd_ne (Nat.ne_of_lt hlt)]
      exact (hf c hcm).1
  done := by
    intro X hP hw hK hc i pins s σ H E I hf st hg
    subst hP hw hK
    obtain ⟨hz, hTI, ⟨x0, y0, hTO⟩, h1, h2⟩ := st
    obtain ⟨ys, hqy, hend⟩ := hg
    obtain ⟨its2, rv2, p2, _⟩ := I.tuple hqy
    have l2 := rv2.length
    have he : x.cps[i]? = none ∨ its2.toArray[i]? = none := by
      rcases hend with q | q
      · exact .inl (Array.getElem?_eq_none q)
      · exact .inr (by simp; omega)
    exact pyNext_zipS_end (I.ok.hd hc) D hz hTI hTO h1 h2 p2 he fun h' tk hk => ⟨rfl, I.turnedL (t' := tk) (ch := [z, TI, TO, i1, i2]) (fun c o hb q =>
      hk c o (fun q' => hb (by simp [q'])) (fun q' => hb (by simp [q'])) (fun q' => hb (by simp [q'])) (fun q' => hb (by simp [q'])) q) hf⟩
  self := fun A i s Q E st h => wpAny_pyIter_zip st.1 h
/-- zip(x, t) -/
def iZipS (K : PySem.W.Frag) (ta : TA) : TI := fun σ H R => ta σ H fun vs H1 => ∃ x b ys, vs = [.str x, .ref b] ∧ x.cps.all (· < 128) = true ∧ tupF K H1 b = some ys ∧ R (ItzS K x b) H1
theorem pi_zipS {X : Cx} (K : PySem.W.Frag) {e e2 : Expr} {ta : TA} {p pos tpos : Pos} {elts : List Expr} {kk : Nat} (hg : Gl X "zip") (hm : X.mg "zip" = none) (ha : PA X [e, e2] ta)
    (hs : starEach [e, e2] X.env = (false, eval e X.env) :: starEach [e2] X.env := by rfl) (hpl : (backTo pos (starEach [e2] X.env)).any (·.1) = false := by rfl) (hK : X.K = K := by rfl) :
    PI X (.Tuple elts kk tpos) (.Call (.Name "zip" p) [e, e2] [] pos) (iZipS K ta) := by
  subst hK
  refine ⟨fun pins s σ H R I h => ?_⟩
  refine Call_ (ld_blt I hg hm PyProof.Rows.boot_zip (PyProof.Rows.callWith_type1 (thn (ha.run pos pins s σ H _ I h) fun us s1 ⟨vs, H1, I1, r1, q1⟩ => ?_) hs hpl))
  obtain ⟨x, b, ys, ex, hx, hqy, q⟩ := q1
  subst ex
  cases r1 with
  | cons r rr =>
    cases rr with
    | cons r' rr =>
      cases rr
      obtain ⟨t, rfl⟩ := r
      cases r'
      have fresh5 : ∀ c, c ∈ [s1.heap.objs.size + 4, s1.heap.objs.size + 2, s1.heap.objs.size + 3, s1.heap.objs.size, s1.heap.objs.size + 1] → FpOk X pins H1 c := fun c hcm => by
        have e' : c = s1.heap.objs.size + 4 ∨ c = s1.heap.objs.size + 2 ∨ c = s1.heap.objs.size + 3 ∨ c = s1.heap.objs.size ∨ c = s1.heap.objs.size + 1 := by simpa using hcm
        have hle : s1.heap.objs.size ≤ c := by
          rcases e' with z | z | z | z | z
          · rw [z]; exact Nat.le_add_right _ _
          · rw [z]; exact Nat.le_add_right _ _
          · rw [z]; exact Nat.le_add_right _ _
          · rw [z]; exact Nat.le_refl _
          · rw [z]; exact Nat.le_add_right _ _
        exact I1.fpOk hle (I1.hok.fresh hle)
      obtain ⟨its2, rv2, p2, _⟩ := I1.tuple (tupF_sq hqy)
      obtain ⟨o2, ho2, _⟩ := id p2
      refine call_zipS hx p2 fun h' hz hTI hTO h1 h2 hsz hk => wpAny_pyIter_zip hz ?_
      have I2 : Inv X pins σ H1 { s1 with heap := h' } := I1.kept (t' := s1.toks) hk
      exact ⟨s1.heap.objs.size + 4, [s1.heap.objs.size + 4, s1.heap.objs.size + 2, s1.heap.objs.size + 3, s1.heap.objs.size, s1.heap.objs.size + 1], _, _, H1, rfl, I2, turn_zipS (PySem.W.ktu_apart s1.heap.objs.size b b (Heap.lt_size ho2) (Heap.lt_size ho2)), ⟨hz, hTI, ⟨_, _, hTO⟩, h1, h2⟩, fresh5, q⟩
theorem walk_zipS {K : PySem.W.Frag} {x : Str} {b : Addr} {ys : List V} {n : Nat} (hn : n = min x.cps.size ys.length) : Walk (ItzS K x b) n (fun H => SqT K H b ys) (YPair (fun i => (x.cps[i]?).map fun c => V.str ⟨#[c]⟩) (fun i => ys[i]?)) := by
  subst hn
  refine ⟨fun i _ hi q => ?_, fun _ q => ⟨ys, q, by omega⟩, fun i H v H' _ q y => ?_⟩
  · have h1 : i < x.cps.size := by omega
    have h2 : i < ys.length := by omega
    exact ⟨ys, x.cps[i], ys[i], q, by simp [h1], by simp [h2]⟩
  · obtain ⟨T, c, z, h1, h2, h3, h4, h5⟩ := y
    exact ⟨T, .str ⟨#[c]⟩, z, h1, h2, h3, (by show (x.cps[i]?).map _ = _; rw [h4]; rfl), h5 ys q⟩
end Sq
set_option Elab.async false
set_option linter.all false
set_option maxRecDepth 100000
set_option maxHeartbeats 2000000
namespace Sq
open PySem PySem.Spec PyProof.Rows L2 RZ
/-! ### a dict of the module, texts to texts -/
structure Kd (K : PySem.W.Frag) (w : World) (a : Addr) (L : List (Str × Str)) : Prop where
  kd : ∃ es n, KDict K w a es n
  at_ : ∀ k s, (k, s) ∈ L → ∃ u0, PySem.W.nsIn K a k = some (some u0) ∧ RelV (.str s) u0
def rKdIx (a : Addr) (L : List (Str × Str)) : R2 := fun x y H Q => x = .ref a ∧ ∃ k s, y = .str k ∧ (k, s) ∈ L ∧ Q (.str s) H
def rKdNin (a : Addr) (L : List (Str × Str)) : R2 := fun x y H Q => y = .ref a ∧ ∃ k s, x = .str k ∧ (k, s) ∈ L ∧ Q (.bl false) H
section
variable {X : Cx} {a : Addr} {L : List (Str × Str)}
theorem ix_kd {K : PySem.W.Frag} {w : World} (D : Kd K w a L) (hK : X.K = K := by rfl) (hw : X.w = w := by rfl) : IxR X (rKdIx a L) := by
  subst hK hw
  intro value slice pins s σ H x y v u Q I rx ry ⟨e1, k, z, e2, hm, q⟩ hs
  subst e1 e2
  obtain ⟨es, n, kd⟩ := D.kd
  obtain ⟨u0, h0, r0⟩ := D.at_ k z hm
  have ht := kd_type kd I
  cases rx
  obtain ⟨t, rfl⟩ := ry
  obtain ⟨t0, rfl⟩ := r0
  exact subscriptTail_builtin_flat ht PySem.F.slot_dict_getitem.lookup (wpAny_getItem_of (PySem.strKind_is X.prog X.w k t) (PySem.W.mapOf_K (prog := X.prog) I.kIn kd.at_ kd.lit) (PySem.W.find_K kd.at_ h0) (And.intro (fun a' (e : Value.str z t0 = Value.ref a') => Value.noConfusion e) ⟨.str z, H, I.tok _, ⟨_, rfl⟩, q⟩)) hs
theorem op_ninKd {K : PySem.W.Frag} {w : World} (D : Kd K w a L) (hK : X.K = K := by rfl) (hw : X.w = w := by rfl) : OpR X (compareOp .NotIn) (rKdNin a L) := by
  subst hK hw
  intro pins s σ H x y v u Q I rx ry ⟨e1, k, z, e2, hm, q⟩
  obtain ⟨es, n, kd⟩ := D.kd
  obtain ⟨u0, h0, r0⟩ := D.at_ k z hm
  exact op_notIn_kd kd pins s σ H x y v u Q I rx ry ⟨k, _, e2, e1, h0, q⟩
/-- t.index(x), texts -/
def rTIndex (K : PySem.W.Frag) : V → List V → Hp → VK → Prop := fun x xs H Q => ∃ p z, ∃ ys : List Str, x = .ref p ∧ xs = [.str z] ∧ tupF K H p = some (ys.map V.str) ∧ ∃ j, ys[j]? = some z ∧ (∀ m, m < j → ys[m]? ≠ some z) ∧ Q (.int (j : Nat)) H
theorem mt_tindexK (K : PySem.W.Frag) (hK : X.K = K := by rfl) : MtR X "tuple.index" (rTIndex K) := by
  subst hK
  exact fun pins s σ H x xs v us Q I rx rs ⟨p, z, ys, e1, e2, h, j, h1, h2, q⟩ => mt_tup_index pins s σ H x xs v us Q I rx rs ⟨p, ys, z, j, e1, e2, tupF_sq h, h1, h2, q⟩
end
/-- (a, b, ..).index(x): a tuple just made -/
def tTIdx (K : PySem.W.Frag) (t te : TA) : TE := fun σ H Q => t σ H fun xs H1 => xs.length ≤ sizeLine ∧ ∀ p H2, Ext [] H1 H2 → tupF K H2 p = some xs → te σ H2 fun us H3 => rTIndex K (.ref p) us H3 Q
theorem pe_tindexK {X : Cx} (K : PySem.W.Frag) {es : List Expr} {e : Expr} {x1 : Nat} {tpos apos cpos : Pos} {t te : TA} (h : PA X es t) (ha : PA X [e] te)
    (hbase : attributeBase (.Tuple es x1 tpos) "index" X.env (eval (.Tuple es x1 tpos) X.env) = eval (.Tuple es x1 tpos) X.env := by rfl)
    (hfew : ((backTo cpos (starEach [e] X.env)).all (fun x => !x.1) && (backToKw cpos (keywordEach [] X.env)).all (fun x => x.1.isSome)
      && decide ([e].length + ([] : List Keyword).length + (if ([] : List Keyword).isEmpty then 0 else 1) < 30)) = true := by rfl)
    (hline : (apos.endLine == cpos.line) = true := by rfl) (hs : starEach [e] X.env = (false, eval e X.env) :: starEach [] X.env := by rfl) (hplain : (backTo cpos (starEach [] X.env)).any (·.1) = false := by rfl) (hK : X.K = K := by rfl) :
    PE X (.Call (.Attribute (.Tuple es x1 tpos) "index" apos) [e] [] cpos) (tTIdx K t te) := by
  subst hK
  refine ⟨fun pins s σ H Q I hq => ?_⟩
  refine wpAny_Call_method_late hbase hfew hline rfl (wpAny_Tuple_spliced (thn (h.run tpos pins s σ H _ I hq) fun us s1 ⟨xs, H1, I1, r, z, q⟩ => ⟨by rw [← r.length]; exact z, ?_⟩))
  have hf : H1 s1.heap.objs.size = none := I1.hok.fresh (Nat.le_refl _)
  have I2 := I1.laid (a := s1.heap.objs.size) (o := .tup xs) (h' := s1.heap.push { cls := .type "tuple", data := .seq us.toArray }) (t' := s1.toks) (fun b u e => Heap.get?_push_of_some _ e) (Nat.le_refl _) ⟨z, us, r, ⟨_, Heap.get?_push_size _ rfl, rfl, _, rfl⟩⟩
  have n2 := inv_nk I2
  have q1 := q _ _ (Ext.new hf) (tupF_at (NK.at n2 upd_same) upd_same)
  refine ⟨"tuple", "tuple.index", PySem.F.plainAttrs_tuple, PySem.F.slot_tuple_index, PySem.F.type_tuple_index, ⟨_, Heap.get?_push_size _ rfl, rfl⟩, fun a e => ?_, ?_⟩
  · cases e
    exact ⟨_, Heap.get?_push_size _ rfl, rfl⟩
  · have hA := ha.run cpos pins _ σ _ _ I2 q1
    rw [hs] at hA ⊢
    refine Calls.callWith_builtin (by show (false || (backTo cpos (starEach [] X.env)).any (·.1)) = false; rw [hplain] <;> rfl) (Calls.evalArgs_plain ?_)
    exact thn hA fun vs s2 ⟨ws, H2, I2, r2, q2⟩ => mt_tindexK X.K rfl pins s2 σ H2 (.ref s1.heap.objs.size) ws _ vs Q I2 rfl r2 q2
/-- l.pop(0) -/
def rPop0 : V → List V → Hp → VK → Prop := fun x vs H Q => ∃ l, x = .ref l ∧ vs = [.int 0] ∧ ∃ y xs, H l = some (.lst (y :: xs)) ∧ ∀ H2, Ext [l] H H2 → H2 l = some (.lst xs) → Q y H2
theorem mt_pop0 {X : Cx} : MtM X "list.pop" rPop0 := fun pins s σ H x vs v us Q I rx rv ⟨l, e1, e2, y, xs, h, q⟩ =>
  mt_popAt pins s σ H x vs v us Q I rx rv ⟨l, y :: xs, 0, 0, y, e1, e2, h, by decide, by decide, by unfold seqIndex?; simp, rfl, q _ (Ext.setL List.mem_cons_self h) upd_same⟩
/-! ### the terms' shapes -/
def shapesL : List (Str × Str) := [("var", "n"), ("fun", "nft"), ("app", "tt"), ("pair", "tt"), ("first", "t"), ("second", "t"), ("left", "tf"), ("right", "ft"), ("case", "tntnt"), ("unit", ""), ("absurd", "tf")]
def Pt.sign : Pt → Nat
  | .n _ => 110
  | .f _ => 102
  | .t _ => 116
def Pt.data : Pt → PyData
  | .n s => .str s
  | .f g => g.data
  | .t u => u.data
namespace Tm
def shape (t : Tm) : Str := ⟨(t.parts.map Pt.sign).toArray⟩
theorem shape_in (t : Tm) : (t.kind, t.shape) ∈ shapesL := by
  cases t <;> (simp only [kind, shape, parts, List.map_cons, List.map_nil, Pt.sign]; decide +kernel)
theorem shape_list (t : Tm) : t.shape.cps.toList = t.parts.map Pt.sign := by simp [shape]
theorem shape_len (t : Tm) : t.shape.length = t.parts.length := by
  show t.shape.cps.size = _
  simp [shape]
theorem data_parts (t : Tm) : t.data = .tuple (.str t.kind :: t.parts.map Pt.data) := by cases t <;> rfl
theorem shape_ascii (t : Tm) : t.shape.cps.all (· < 128) = true := by
  cases t <;> (simp only [shape, parts, List.map_cons, List.map_nil, Pt.sign]; decide +kernel)
theorem parts_len (t : Tm) : t.parts.length ≤ 5 := by cases t <;> simp [parts]
end Tm
theorem sg_n_n (s : Str) : V.str ⟨#[(Pt.n s).sign]⟩ = V.str "n" := by show V.str ⟨#[110]⟩ = V.str "n"; decide +kernel
theorem sg_n_f (s : Str) : ¬ V.str ⟨#[(Pt.n s).sign]⟩ = V.str "f" := by show ¬ V.str ⟨#[110]⟩ = V.str "f"; decide +kernel
theorem sg_n_t (s : Str) : ¬ V.str ⟨#[(Pt.n s).sign]⟩ = V.str "t" := by show ¬ V.str ⟨#[110]⟩ = V.str "t"; decide +kernel
theorem sg_f_n (s : Fm) : ¬ V.str ⟨#[(Pt.f s).sign]⟩ = V.str "n" := by show ¬ V.str ⟨#[102]⟩ = V.str "n"; decide +kernel
theorem sg_f_f (s : Fm) : V.str ⟨#[(Pt.f s).sign]⟩ = V.str "f" := by show V.str ⟨#[102]⟩ = V.str "f"; decide +kernel
theorem sg_f_t (s : Fm) : ¬ V.str ⟨#[(Pt.f s).sign]⟩ = V.str "t" := by show ¬ V.str ⟨#[102]⟩ = V.str "t"; decide +kernel
theorem sg_t_n (s : Tm) : ¬ V.str ⟨#[(Pt.t s).sign]⟩ = V.str "n" := by show ¬ V.str ⟨#[116]⟩ = V.str "n"; decide +kernel
theorem sg_t_f (s : Tm) : ¬ V.str ⟨#[(Pt.t s).sign]⟩ = V.str "f" := by show ¬ V.str ⟨#[116]⟩ = V.str "f"; decide +kernel
theorem sg_t_t (s : Tm) : V.str ⟨#[(Pt.t s).sign]⟩ = V.str "t" := by show V.str ⟨#[116]⟩ = V.str "t"; decide +kernel
/-- a term in the heap -/
theorem tm_hd {K : PySem.W.Frag} {H : Hp} {v : V} {t : Tm} (h : Td K H v t.data) : ∃ p ws, v = .ref p ∧ tupF K H p = some (.str t.kind :: ws) ∧ TdAll K H ws (t.parts.map Pt.data) := by
  rw [Tm.data_parts] at h
  cases h with
  | tup e r =>
    cases r with
    | cons h1 r =>
      cases h1
      exact ⟨_, _, rfl, e, r⟩
theorem tm_mk {K : PySem.W.Frag} {H : Hp} {p : Addr} {ws : List V} {t : Tm} (h : tupF K H p = some (.str t.kind :: ws)) (r : TdAll K H ws (t.parts.map Pt.data)) : Td K H (.ref p) t.data := by
  rw [Tm.data_parts]
  exact .tup h (.cons (.str _) r)
end Sq
set_option Elab.async false
set_option linter.all false
set_option maxRecDepth 100000
set_option maxHeartbeats 2000000
namespace Sq
open PySem PySem.Spec PyProof.Rows L2
/-! ### the written part without the tables -/
def dropT (ts : List Addr) (K : PySem.W.Frag) : PySem.W.Frag := K.filter fun p => !ts.contains p.1
section
variable {ts : List Addr} {K : PySem.W.Frag} {a : Addr}
theorem dropT_out (h : a ∉ ts) : (dropT ts K).lookup a = K.lookup a := by
  unfold dropT
  induction K with
  | nil => rfl
  | cons p r ih =>
    obtain ⟨b, o⟩ := p
    by_cases hb : a = b
    · subst hb
      have : ts.contains a = false := by simpa using h
      rw [List.filter_cons, this]
      simp [List.lookup]
    · have hb' : (a == b) = false := by simpa using hb
      rw [List.filter_cons]
      split
      · simp only [List.lookup, hb', ih]
      · simp only [List.lookup, hb', ih]
theorem dropT_in (h : a ∈ ts) : (dropT ts K).lookup a = none := by
  unfold dropT
  induction K with
  | nil => rfl
  | cons p r ih =>
    obtain ⟨b, o⟩ := p
    rw [List.filter_cons]
    split
    · rename_i hc
      have hb : (a == b) = false := by
        cases e : a == b with
        | false => rfl
        | true =>
          have : a = b := by simpa using e
          subst this
          simp [h] at hc
      simp only [List.lookup, hb, ih]
    · exact ih
theorem dropT_In {h : Heap} (X : K.In h) : (dropT ts K).In h := fun a o e => by
  by_cases q : a ∈ ts
  · rw [dropT_in q] at e; cases e
  · rw [dropT_out q] at e; exact X a o e
end
section
variable {K : PySem.W.Frag} {mg : Str → Option Value} {x : Str} {st : Stmt} {f c : Addr} {fd : FuncData} {h : Heap} {ts : List Addr}
theorem Dn.drop (F : Dn K mg x st f fd c) (hf : f ∉ ts) (hc : c ∉ ts) : Dn (dropT ts K) mg x st f fd c := by
  obtain ⟨⟨oc, od, kV, doc, pm, an, ct, osl, e, l, cd⟩, m, kp⟩ := F
  refine ⟨⟨oc, od, kV, doc, pm, an, ct, osl, e, by rw [dropT_out hf]; exact l, ?_⟩, m, ?_⟩
  · unfold PySem.W.codeIn at cd ⊢
    simp only [dropT_out hc] at cd ⊢
    exact cd
  · unfold PySem.W.keepIn
    simp only [dropT_out hf, l]
/-- a def that the top has left: what is known of it goes on -/
theorem dn_go {R : Prop} (x : Str) (st : Stmt) {od an : Option Addr} {sl : Array (Option Value)} {oc kV dc pm ct : Value} (X : K.In h) (G : h.Ns mainGlobals mg)
    (a : PySem.W.nsIn K mainGlobals x = some (some (.ref f))) (l : K.lookup f = some ⟨oc, od, .func (PySem.W.fnOf x x (defArgs st) (defBody st) (defScope st) .none kV dc pm an (.ref c) ct), sl⟩) (q : PySem.W.codeIn K (.ref c) x = true) (k : PySem.W.keepIn K (.ref f) = true)
    (r : Dn K mg x st f (PySem.W.fnOf x x (defArgs st) (defBody st) (defScope st) .none kV dc pm an (.ref c) ct) c → R) : R :=
  r ⟨⟨oc, od, kV, dc, pm, an, ct, sl, rfl, l, q⟩, PySem.W.mg_of X G a, k⟩
/-- the table of a code object -/
def tabOf (o : Obj) : Option Addr := match o.data with
  | .fields vs => (vs[11]?).bind fun | .ref P => some P | _ => none
  | _ => none
theorem tabOf_at {o : Obj} {P : Addr} (h : tabOf o = some P) : ∃ vs, o.data = .fields vs ∧ vs[11]? = some (.ref P) := by
  unfold tabOf at h
  split at h
  · rename_i vs e
    refine ⟨vs, e, ?_⟩
    cases q : vs[11]? with
    | none => rw [q] at h; cases h
    | some v =>
      rw [q] at h
      cases v <;> first | (cases h; rfl) | cases h
  · cases h
/-- the tables of all defs of the top are empty -/
def OwnAll (q : Program) (mg : Str → Option Value) (K : PySem.W.Frag) (h : Heap) : Prop := ∀ (x : Str) (a : Addr), ((recsOf q).any fun e => e.name == x) = true → mg x = some (.ref a) → LamX.OwnTab K a h
theorem dn_goT {R : Prop} (x : Str) (st : Stmt) {od an : Option Addr} {sl : Array (Option Value)} {oc kV dc pm ct : Value} {P : Addr} {oo : Obj} (X : K.In h) (G : h.Ns mainGlobals mg)
    (a : PySem.W.nsIn K mainGlobals x = some (some (.ref f))) (l : K.lookup f = some ⟨oc, od, .func (PySem.W.fnOf x x (defArgs st) (defBody st) (defScope st) .none kV dc pm an (.ref c) ct), sl⟩) (q : PySem.W.codeIn K (.ref c) x = true) (k : PySem.W.keepIn K (.ref f) = true)
    (lc : K.lookup c = some oo) (t : tabOf oo = some P) (u : PySem.W.codeHdIn [(c, oo)] c P = true) {q' : Program} (O : OwnAll q' mg K h) (rc : ((recsOf q').any fun e => e.name == x) = true)
    (r : Dn K mg x st f (PySem.W.fnOf x x (defArgs st) (defBody st) (defScope st) .none kV dc pm an (.ref c) ct) c → PySem.W.CodeHd h c P ∧ h.get? P = some { cls := .none, data := .fields #[] } → R) : R :=
  dn_go x st X G a l q k fun D => by
    refine r D ⟨PySem.W.codeHd_of_K X ?_, ?_⟩
    · have e : ([(c, oo)] : PySem.W.Frag).lookup c = K.lookup c := by rw [lc]; simp [List.lookup]
      unfold PySem.W.codeHdIn at u ⊢
      rw [← e]
      exact u
    · obtain ⟨vs, e1, e2⟩ := tabOf_at t
      obtain ⟨e, dd, da, sls⟩ := oo
      simp only at e1
      subst e1
      exact O x f rc D.mgf c P _ _ e dd vs sls l rfl rfl lc e2
theorem own_all {q : Program} {mg : Str → Option Value} {K : PySem.W.Frag} {h : Heap} (KX : K.In h) (T : ∀ d ∈ recsOf q, ∃ (a : Addr) (o : Obj) (fd : FuncData) (c P : Addr), mg d.name = some (.ref a) ∧ h.get? a = some o ∧ o.data = .func fd ∧ fd.code = .ref c ∧ h.IsCode c P #[] ∧ h.TableAt c P #[]) : OwnAll q mg K h := fun y fy hrec hy c P o1 fd1 e dd vs1 sl k1 k2 k3 k4 k5 => by
  obtain ⟨dL, hm, hn1⟩ := List.any_eq_true.mp hrec
  have hn2 : dL.name = y := beq_iff_eq.mp hn1
  obtain ⟨a', o', fd', c', P', h1, h2, h3, h4, _, h5⟩ := T dL hm
  rw [hn2, hy] at h1
  cases h1
  rw [KX _ _ k1] at h2
  cases h2
  rw [k2] at h3
  cases h3
  rw [k3] at h4
  cases h4
  obtain ⟨⟨oc, vc, e1, _, e3, e4⟩, hP⟩ := h5
  rw [KX _ _ k4] at e1
  cases e1
  cases e3
  rw [k5] at e4
  cases e4
  exact hP
theorem walk_drop {l : PySem.W.OpenLaw} {n k : Nat} {q : Program} {loose : List Str} {XP : (Str → Option Value) → Heap → Prop} {d : DefRec} {K0 : PySem.Params → PySem.W.Frag} {as : List Addr} {e : ∀ P, as = (K0 P).map (·.1)} {x : Str} {ts : List Addr}
    (hn : l.most = some n) (hn2 : n ≤ sizeLine) (hdf : d.params.defaults = []) (hr : Room k callerA)
    (F : ∀ (w : World) (mg : Str → Option Value) (fa : Addr) (h : Heap), (K0 w.params).In h → h.Ns mainGlobals mg → mg d.name = some (.ref fa) → OwnAll q mg (K0 w.params) h → LamX.LawAtS l w (dropT ts (K0 w.params)) CX0 k n x mg fa h) :
    PySem.W.WalkO q loose XP (PySem.W.kHook K0 as e).says l.row.toRowW d [] (fun f vs => PySem.call f vs) := by
  refine Att.attach_callB hn hdf fun w s₀ s₁ mg mb fa o pm cd doc a vs ns G Y ho hd hcd hmg hobj hints hlen hbits hg => ?_
  have KX : (K0 w.params).In s₁.heap := PySem.W.kIn_of Y
  have own : OwnAll q mg (K0 w.params) s₁.heap := fun y fy hrec hy c P o1 fd1 e dd vs1 sl k1 k2 k3 k4 k5 => by
    obtain ⟨dL, hm, hn1⟩ := List.any_eq_true.mp hrec
    have hn2 : dL.name = y := beq_iff_eq.mp hn1
    obtain ⟨a', o', fd', c', P', h1, h2, h3, h4, h5, h6⟩ := G.T.tab dL hm
    rw [hn2, hy] at h1
    cases h1
    rw [KX _ _ k1] at h2
    cases h2
    rw [k2] at h3
    cases h3
    rw [k3] at h4
    cases h4
    obtain ⟨⟨oc, vc, e1, _, e3, e4⟩, hP⟩ := h6
    rw [KX _ _ k4] at e1
    cases e1
    cases e3
    rw [k5] at e4
    cases e4
    exact hP
  obtain ⟨fd, cs, sp, hT, nT, C, hb, hsp, hF⟩ := F w mg fa _ KX G.T.g hmg own
  exact LamX.law_callTs (dropT_In KX) G.T.g G.T.b G.T.builtins G.T.nolimit hg hT nT C G.T.bmain hobj hints (Nat.le_trans hlen hn2) hr hF hb (fun H hH hS => hsp H a ns hlen hbits hH hS) fun _ _ _ h => h
theorem tabB_of {base : Heap} {P : Addr} (T : LamX.TabB base mg c P) : GxR.TabB base mg c P := ⟨T.code, T.bm, T.gP⟩
end
end Sq
set_option Elab.async false
set_option linter.all false
set_option maxRecDepth 100000
set_option maxHeartbeats 2000000
namespace Sq
open PySem PySem.Spec PyProof.Rows L2
/-! ### a def's run at one place, whatever is known there of what runs around -/
theorem run_here {P : Program} {w : World} {K : PySem.W.Frag} {mg : Str → Option Value} {base : Heap} {k : Nat} {x : Str} {st : Stmt} {f c : Addr} {fd : FuncData} {N ps : List Str}
    (F : Dn K mg x st f fd c) (S : FnScope N ps (defScope st)) {A : Around} {outer : List Env} {s : Shared} {H : Hp} {args : Args} {us : List Value} {vs : List V} {Q : VK} {E : XK}
    (hr : Room (k + 1) A) (en : Env0 P w K mg base A outer s H) (bd : BindsTo s fd args (ps.zip us)) (vu : Vals vs us) (hl : vs.length = ps.length)
    (body : ∃ t, PSs (CxD P w K mg base N x st f c A outer s H E) (defBody st) t ∧ t { nx := fun _ H' => Q .non H', rt := Q } (start N vs) H) : codeAny (model P w) A (.call (.ref f) args) (CR CX0 outer P w H s Q E) s := by
  obtain ⟨⟨oc, od, kV, doc, pm, an, ct, osl, rfl, lk, hcd⟩, _, _⟩ := F
  have kin : K.In s.heap := en.mod.kin.keeps fun b o q => (en.bs b o q).1
  have nol : s.heap.NoLimit := en.mod.nolimit.keeps fun b o q => (en.bs b o q).1
  refine codeAny_call_function hr.depth (kin _ _ lk) rfl S.co S.gen rfl (PySem.W.codeRec_of kin hcd) (bd _ _ _ _ ?_)
  refine wpAny_newFunctionEnv_cells S.kind (fun y hy => ?_) fun env henv s1 inC => ?_
  · rcases S.par y.1 (List.of_mem_zip hy).1 with z | z
    · exact .inl z
    · exact .inr ⟨z, PySem.W.cellsFrom_some _ _ _ (.inl z)⟩
  subst henv
  refine ⟨nol.keeps inC.toInCall.keep, codeAny_func ?_⟩
  obtain ⟨t, ht, hq⟩ := body
  have J0 := inv_start (CX := CX0) (E := E) S hr.hd en hl vu inC
  refine wpAny_mono (ht.nox.run [] s1 (start N vs) H _ J0 hq) (fun fl s2 out => ?_) fun e s2 out => out
  cases fl with
  | brk => exact (out.choose_spec.choose_spec.2).elim
  | cont => exact (out.choose_spec.choose_spec.2).elim
  | next =>
    obtain ⟨_, H2, J, q⟩ := out
    exact ⟨V.non, H2, J.os, J.bare, J.base, J.hok, rfl, q⟩
  | ret u =>
    obtain ⟨v, _, H2, J, rv, q⟩ := out
    exact ⟨v, H2, J.os, J.bare, J.base, J.hok, rv, q⟩
/-! ### the law's call, where it is known that nothing of the interpreter's own is under way -/
def LawRun (l : PySem.W.OpenLaw) (w : World) (K : PySem.W.Frag) (mg : Str → Option Value) (fa : Addr) (cs : List (Addr × Addr)) : Prop :=
  ∀ (base : Heap) (s : Shared) (H : Hp) (a : Addr) (ns : List Int), K.In base → base.Ns mainGlobals mg → (∀ p ∈ cs, LamX.TabB base mg p.1 p.2) → Env0 l.prog w K mg base callerA [] s H → (∀ p ∈ cs, H p.2 = some (.tbl #[])) → SqL K H a (ns.map V.int) → ns.length ≤ 63 →
    codeAny (model l.prog w) callerA (.call (.ref fa) ⟨[.ref a], []⟩) (CR CX0 [] l.prog w H s (fun v _ => v = .bl true) fun _ _ _ => False) s
section
variable {l : PySem.W.OpenLaw} {w : World} {K : PySem.W.Frag} {mg mb : Str → Option Value} {fa a : Addr} {cs : List (Addr × Addr)} {s : Shared} {vs : List Value} {ns : List Int}
open Classical in
/-- what is tracked at the law's call: the script, if it is not written; the tables -/
noncomputable def at0 (K : PySem.W.Frag) (cs : List (Addr × Addr)) (a : Addr) (vs : List Value) (ns : List Int) : Hp := fun b =>
  if b ∈ cs.map (·.2) then some (.tbl #[]) else if b = a ∧ K.lookup a = none then some (.frz { cls := .type "list", data := .seq vs.toArray } (.lst (ns.map V.int))) else none
theorem law_callG (kin : K.In s.heap) (gns : s.heap.Ns mainGlobals mg) (bns : s.heap.Ns builtinsNs mb) (bb : ∀ x : Str, x ≠ "__name__" → mb x = bootBuiltins x) (nol : s.heap.NoLimit) (ng : s.gens = #[])
    (tabE : ∀ p ∈ cs, s.heap.get? p.2 = some { cls := .none, data := .fields #[] }) (tabN : ∀ p ∈ cs, K.lookup p.2 = none) (cod : ∀ p ∈ cs, PySem.W.CodeHd s.heap p.1 p.2)
    (hbm : ∃ (bm : Addr) (ob : Obj), mg "__builtins__" = some (.ref bm) ∧ bm ≠ builtinsNs ∧ s.heap.get? bm = some ob ∧ ob.cls = .type "module" ∧ ob.dict = some builtinsNs ∧ ob.data = .plain)
    (scr : s.heap.get? a = some { cls := .type "list", data := .seq vs.toArray }) (iAre : IntsAre vs ns) (few : ns.length ≤ 63) (F : LawRun l w K mg fa cs) :
    codeAny (model l.prog w) callerA (.call (.ref fa) ⟨[.ref a], []⟩) (fun r s' => r = .ok (.ret (.bool true)) ∧ OldK s.heap s'.heap ∧ s'.os = s.os ∧ AllBare s'.gens) s := by
  have rv := vals_ints iAre
  have szl : ns.length ≤ sizeLine := Nat.le_trans few (by decide)
  have tabM : ∀ b, b ∈ cs.map (·.2) → s.heap.get? b = some { cls := .none, data := .fields #[] } := fun b hb => by
    obtain ⟨p, hp, rfl⟩ := List.mem_map.mp hb
    exact tabE p hp
  have aNo : a ∉ cs.map (·.2) := fun z => by
    have q := (tabM a z).symm.trans scr
    exact absurd (congrArg Obj.data (Option.some.inj q)) (by intro z; cases z)
  generalize hZ : at0 K cs a vs ns = Z
  have zT : ∀ b, b ∈ cs.map (·.2) → Z b = some (.tbl #[]) := fun b hb => by rw [← hZ]; exact if_pos hb
  have zC : ∀ b u, Z b = some u → (b ∈ cs.map (·.2) ∧ u = .tbl #[]) ∨ (b = a ∧ K.lookup a = none ∧ u = .frz { cls := .type "list", data := .seq vs.toArray } (.lst (ns.map V.int))) := fun b u e => by
    rw [← hZ] at e
    unfold at0 at e
    split at e
    · rename_i h; cases e; exact .inl ⟨h, rfl⟩
    · split at e
      · rename_i h; cases e; exact .inr ⟨h.1, h.2, rfl⟩
      · cases e
  have zP : ∀ p ∈ cs, Z p.2 = some (.tbl #[]) := fun p hp => zT _ (List.mem_map.mpr ⟨p, hp, rfl⟩)
  have hsq : SqL K Z a (ns.map V.int) := by
    cases hk : K.lookup a with
    | none => exact .inl (.inr ⟨_, by rw [← hZ]; unfold at0; rw [if_neg aNo, if_pos ⟨rfl, hk⟩]⟩)
    | some o =>
      have e := (kin a o hk).symm.trans scr
      cases e
      exact .inr ⟨_, vs.toArray, _, hk, rfl, rfl, rfl, by rw [List.size_toArray, iAre.length]; exact szl, by simpa using rv⟩
  have ok : HOk l.prog w Z s.heap := fun b u e => by
    rcases zC b u e with ⟨h, rfl⟩ | ⟨rfl, _, rfl⟩
    · exact tabM b h
    · exact ⟨scr, by rw [List.length_map]; exact szl, vs, _, rv, scr⟩
  -- what is not tracked stands in the base
  have nTr : ∀ {b : Addr} {o : Obj}, s.heap.get? b = some o → (∀ v n, o.data ≠ .seq v n) → o.data ≠ .fields #[] → Z b = none := fun {b o} e h1 h2 => by
    cases q : Z b with
    | none => rfl
    | some u =>
      rcases zC b u q with ⟨h, _⟩ | ⟨rfl, _, _⟩
      · have := e.symm.trans (tabM b h); cases this; exact absurd rfl h2
      · have := e.symm.trans scr; cases this; exact absurd rfl (h1 _ _)
  have stand : ∀ {b : Addr} {o : Obj}, s.heap.get? b = some o → (∀ v n, o.data ≠ .seq v n) → o.data ≠ .fields #[] → (hidT s.heap Z).get? b = some o := fun e h1 h2 => hidT_get e (nTr e h1 h2)
  have dicts : ∀ {b : Addr} {m : Str → Option Value}, s.heap.Ns b m → (hidT s.heap Z).Ns b m := fun {b m} ⟨o, es, ep, e, d, r⟩ =>
    ⟨o, es, ep, stand e (fun v n z => by rw [d] at z; cases z) (fun z => by rw [d] at z; cases z), d, r⟩
  have kinB : K.In (hidT s.heap Z) := fun b o e => by
    refine hidT_get (kin b o e) ?_
    cases q : Z b with
    | none => rfl
    | some u =>
      rcases zC b u q with ⟨h, _⟩ | ⟨rfl, n, _⟩
      · obtain ⟨p, hp, rfl⟩ := List.mem_map.mp h
        rw [tabN p hp] at e; cases e
      · rw [n] at e; cases e
  have modB : Mod K mg (hidT s.heap Z) := ⟨kinB, dicts gns, ⟨mb, dicts bns, bb⟩, let ⟨mc, q1, q2⟩ := nol; ⟨mc, dicts q1, q2⟩⟩
  have tabB : ∀ p ∈ cs, LamX.TabB (hidT s.heap Z) mg p.1 p.2 := fun p hp => by
    refine ⟨?_, ?_, fun z => ?_⟩
    · obtain ⟨o, us, file, tf, flags, tg, inF, text, tt, e1, c1, c2, c3, r⟩ := cod p hp
      refine ⟨o, us, file, tf, flags, tg, inF, text, tt, stand e1 (fun v n z => ?_) (fun z => ?_), c1, c2, c3, r⟩
      · rw [c2] at z; cases z
      · rw [c2] at z; cases z; simp at c3
    · obtain ⟨bm, ob, b1, b2, b3, b4, b5, b6⟩ := hbm
      refine ⟨bm, ob, b1, b2, fun q => ?_, fun q => ?_, stand b3 (fun v n z => by rw [b6] at z; cases z) (fun z => by rw [b6] at z; cases z), b4, b5, b6⟩
      · obtain ⟨o, es, ep, e, hd, _⟩ := gns
        rw [q, e] at b3; cases b3; rw [hd] at b6; cases b6
      · rw [q, tabE p hp] at b3; cases b3; cases b6
    · obtain ⟨o, es, ep, e, hd, _⟩ := gns
      rw [z, tabE p hp] at e; cases e; cases hd
  have en : Env0 l.prog w K mg (hidT s.heap Z) callerA [] s Z :=
    ⟨rfl, modB, fun b o e => of_hidT e, Nat.le_of_eq (hidT_size _ _), trivial, (fun b hb => absurd (show b ∈ ([] : List Addr) from hb) (by simp)), ok, .of_eq ng⟩
  refine codeAny_mono (F _ s Z a ns kinB (dicts gns) tabB en zP hsq few) fun r s' out => ?_
  cases r with
  | error e => exact False.elim (show False from out)
  | ok fl =>
    cases fl with
    | next => exact False.elim out
    | brk => exact False.elim out
    | cont => exact False.elim out
    | ret u =>
      obtain ⟨v, H', os, bare, un, ok', rvu, q⟩ := out
      have q : v = .bl true := q
      subst q
      obtain rfl : u = Value.bool true := rvu
      have old : ∀ b o, b ∉ cs.map (·.2) → s.heap.get? b = some o → s'.heap.get? b = some o := fun b o hb e => by
        cases q : Z b with
        | none => exact un.keep b o e q (by intro z; cases z) (by simp)
        | some u =>
          rcases zC b u q with ⟨h, _⟩ | ⟨rfl, _, rfl⟩
          · exact absurd h hb
          · obtain ⟨g, _⟩ := ok' b _ (un.frzs b _ _ q)
            rw [e] at scr; cases scr; exact g
      have more : ∀ b, b ∈ cs.map (·.2) → ∃ ms : Array Value, s'.heap.get? b = some { cls := .none, data := .fields ms } := fun b hb => by
        obtain ⟨ms, z⟩ := un.tbls b #[] (zT b hb)
        exact ⟨_, ok' b _ z⟩
      refine ⟨rfl, ⟨fun b o e => ?_, fun b o e => ?_⟩, os, bare⟩
      · by_cases hb : b ∈ cs.map (·.2)
        · obtain ⟨ms, hm⟩ := more b hb
          have e0 := tabM b hb
          rw [e0] at e; cases e
          obtain ⟨p, hp, rfl⟩ := List.mem_map.mp hb
          exact .inr (.inl ⟨((cod p hp).tab e0).isCodeTable, rfl, #[], ms, rfl, by rw [Array.empty_append]; exact hm⟩)
        · exact .inl (old b o hb e)
      · by_cases hb : b ∈ cs.map (·.2)
        · obtain ⟨ms, hm⟩ := more b hb
          exact ⟨_, hm⟩
        · exact ⟨o, old b o hb e⟩
end
theorem walk_G {l : PySem.W.OpenLaw} {q : Program} {loose : List Str} {XP : (Str → Option Value) → Heap → Prop} {d : DefRec} {K0 : PySem.Params → PySem.W.Frag} {as : List Addr} {e : ∀ P, as = (K0 P).map (·.1)} {ts : List Addr}
    (hn : l.most = some 63) (hdf : d.params.defaults = [])
    (F : ∀ (w : World) (mg : Str → Option Value) (fa : Addr) (h : Heap), (K0 w.params).In h → h.Ns mainGlobals mg → mg d.name = some (.ref fa) → OwnAll q mg (K0 w.params) h →
      ∃ cs : List (Addr × Addr), (∀ p ∈ cs, h.get? p.2 = some { cls := .none, data := .fields #[] }) ∧ (∀ p ∈ cs, (dropT ts (K0 w.params)).lookup p.2 = none) ∧ (∀ p ∈ cs, PySem.W.CodeHd h p.1 p.2) ∧ LawRun l w (dropT ts (K0 w.params)) mg fa cs) :
    PySem.W.WalkO q loose XP (PySem.W.kHook K0 as e).says l.row.toRowW d [] (fun f vs => PySem.call f vs) := by
  refine Att.attach_callB hn hdf fun w s0 s1 mg mb fa o pm cd doc a vs ns G Y ho hd hcd hmg hobj hints hlen hbits hg => ?_
  have kin : (K0 w.params).In s1.heap := PySem.W.kIn_of Y
  obtain ⟨cs, t1, t2, t3, run⟩ := F w mg fa _ kin G.T.g hmg (own_all kin G.T.tab)
  exact law_callG (dropT_In kin) G.T.g G.T.b G.T.builtins G.T.nolimit hg t1 t2 t3 G.T.bmain hobj hints hlen run
end Sq
set_option Elab.async false
set_option linter.all false
set_option maxRecDepth 100000
set_option maxHeartbeats 2000000
namespace Sq
open PySem PySem.Spec PyProof.Rows L2
/-! ### constants that the top has left -/
def strsOf : List Value → Option (List Str)
  | [] => some []
  | .str x _ :: r => (strsOf r).map (x :: ·)
  | _ => none
theorem strsOf_vals : ∀ {us : List Value} {ss : List Str}, strsOf us = some ss → Vals (ss.map V.str) us
  | [], ss, h => by cases h; exact .nil
  | u :: us, ss, h => by
    cases u with
    | str x t =>
      simp only [strsOf] at h
      cases e : strsOf us with
      | none => rw [e] at h; cases h
      | some r =>
        rw [e] at h
        cases h
        exact .cons ⟨t, rfl⟩ (strsOf_vals e)
    | _ => cases h
theorem con_tup {R : Prop} {K : PySem.W.Frag} {mg : Str → Option Value} {h : Heap} {aJ : Addr} {o : Obj} {its : Array Value} {n : Nat} (x : Str) (ss : List Str) (X : K.In h) (G : h.Ns mainGlobals mg) (a : PySem.W.nsIn K mainGlobals x = some (some (.ref aJ))) (l : K.lookup aJ = some o)
    (hc : o.cls = .type "tuple") (hd : o.data = .seq its n) (hz : its.size ≤ sizeLine) (hv : strsOf its.toList = some ss) (r : mg x = some (.ref aJ) → WrT K aJ (ss.map V.str) → R) : R :=
  r (PySem.W.mg_of X G a) ⟨o, its, n, l, hc, hd, hz, strsOf_vals hv⟩
def strOf1 : Value → Option Str
  | .str x _ => some x
  | _ => none
theorem con_str {R : Prop} {K : PySem.W.Frag} {mg : Str → Option Value} {h : Heap} {u : Value} (x : Str) (s : Str) (X : K.In h) (G : h.Ns mainGlobals mg) (a : PySem.W.nsIn K mainGlobals x = some (some u)) (hu : strOf1 u = some s) (r : mg x = some u → RelV (.str s) u → R) : R := by
  refine r (PySem.W.mg_of X G a) ?_
  cases u with
  | str y t => cases hu; exact ⟨t, rfl⟩
  | _ => cases hu
theorem WrT.drop {K : PySem.W.Frag} {ts : List Addr} {a : Addr} {xs : List V} (h : WrT K a xs) (n : a ∉ ts) : WrT (dropT ts K) a xs := by
  obtain ⟨o, its, k, l, r⟩ := h
  exact ⟨o, its, k, by rw [dropT_out n]; exact l, r⟩
end Sq
set_option Elab.async false
set_option linter.all false
set_option maxRecDepth 100000
set_option maxHeartbeats 2000000
namespace Sq
open PySem PySem.Spec PyProof.Rows L2
/-! ### names in their order, and plain names -/
def ABC : List Str := ["a", "b", "c"]
def gth : List Str → Fm → List Str
  | ns, .name x => if x ∈ ns then ns else ns ++ [x]
  | ns, .one => ns
  | ns, .none => ns
  | ns, .bin _ s t => gth (gth ns s) t
theorem gth_nd : ∀ (t : Fm) {ns : List Str}, ns.Nodup → (gth ns t).Nodup
  | .name x, ns, h => by
    unfold gth
    split
    · exact h
    · rename_i z
      exact List.nodup_append.mpr ⟨h, by simp, fun a ha b hb e => by
        have : b = x := by simpa using hb
        subst this e
        exact z ha⟩
  | .one, ns, h => h
  | .none, ns, h => h
  | .bin _ s t, ns, h => gth_nd t (gth_nd s h)
theorem gth_mem {x : Str} : ∀ (t : Fm) {ns : List Str}, x ∈ gth ns t ↔ x ∈ ns ∨ x ∈ t.names
  | .name y, ns => by
    unfold gth
    split
    · rename_i z
      simp only [Fm.names, List.mem_singleton]
      exact ⟨.inl, fun h => h.elim id fun e => e ▸ z⟩
    · simp [Fm.names]
  | .one, ns => by simp [gth, Fm.names]
  | .none, ns => by simp [gth, Fm.names]
  | .bin _ s t, ns => by
    show x ∈ gth (gth ns s) t ↔ _
    rw [gth_mem t, gth_mem s, Fm.names, List.mem_append, or_assoc]
/-- names given other names, one by one -/
theorem gth_map {s : Str → Option Fm} {f : Str → Str} : ∀ (t : Fm) {ns : List Str}, (∀ x ∈ t.names, s x = some (.name (f x))) → (∀ x, x ∈ ns ∨ x ∈ t.names → ∀ y, y ∈ ns ∨ y ∈ t.names → f x = f y → x = y) → gth (ns.map f) (t.fill s) = (gth ns t).map f
  | .name x, ns, h, inj => by
    have e : (Fm.name x).fill s = .name (f x) := by show (s x).getD _ = _; rw [h x (by simp [Fm.names])]; rfl
    rw [e]
    unfold gth
    by_cases hx : x ∈ ns
    · rw [if_pos (List.mem_map.mpr ⟨x, hx, rfl⟩), if_pos hx]
    · rw [if_neg hx, if_neg, List.map_append, List.map_singleton]
      intro z
      obtain ⟨y, hy, e⟩ := List.mem_map.mp z
      have := inj y (.inl hy) x (.inr (by simp [Fm.names])) e
      exact hx (this ▸ hy)
  | .one, ns, _, _ => rfl
  | .none, ns, _, _ => rfl
  | .bin j a b, ns, h, inj => by
    show gth (gth (ns.map f) (a.fill s)) (b.fill s) = (gth (gth ns a) b).map f
    rw [gth_map a (fun x hx => h x (List.mem_append_left _ hx)) fun x hx y hy => inj x (hx.imp_right (List.mem_append_left _)) y (hy.imp_right (List.mem_append_left _))]
    have tr : ∀ x, x ∈ gth ns a ∨ x ∈ b.names → x ∈ ns ∨ x ∈ (Fm.bin j a b).names := fun x hx => by
      rcases hx with hx | hx
      · rcases (gth_mem a).mp hx with z | z
        · exact .inl z
        · exact .inr (List.mem_append_left _ z)
      · exact .inr (List.mem_append_right _ hx)
    exact gth_map b (fun x hx => h x (List.mem_append_right _ hx)) fun x hx y hy => inj x (tr x hx) y (tr y hy)
def tabP (ns : List Str) : Tab := (ns.zip ABC).map fun p => (p.1, .name p.2)
/-- a formula in plain names -/
def pl (t : Fm) : Fm := t.fill (lk (tabP (gth [] t)))
def ixS : List Str → Str → Nat
  | [], _ => 0
  | y :: l, x => if y = x then 0 else ixS l x + 1
theorem lk_zip {x : Str} : ∀ {ns bs : List Str}, x ∈ ns → ns.length ≤ bs.length → lk ((ns.zip bs).map fun p => (p.1, Fm.name p.2)) x = some (.name (bs.getD (ixS ns x) ""))
  | n :: ns, b :: bs, hx, hl => by
    simp only [List.zip_cons_cons, List.map_cons, lk]
    by_cases e : n = x
    · subst e
      have : ixS (n :: ns) n = 0 := if_pos rfl
      rw [if_pos rfl, this]; rfl
    · rw [if_neg e]
      have hx' : x ∈ ns := (List.mem_cons.mp hx).resolve_left fun z => e z.symm
      rw [lk_zip hx' (by simpa using hl)]
      have : ixS (n :: ns) x = ixS ns x + 1 := by simp [ixS, e]
      rw [this]
      rfl
  | _ :: _, [], _, hl => by simp at hl
def nmP (ns : List Str) (x : Str) : Str := ABC.getD (ixS ns x) ""
theorem map_nm : ∀ {ns : List Str}, ns.Nodup → ns.length ≤ 3 → ns.map (nmP ns) = ABC.take ns.length
  | [], _, _ => rfl
  | [a], _, _ => by simp [nmP, ABC, ixS]
  | [a, b], h, _ => by
    have : a ≠ b := by simpa using h
    simp [nmP, ABC, ixS, this]
  | [a, b, c], h, _ => by
    have : (¬ a = b ∧ ¬ a = c) ∧ ¬ b = c := by simpa using h
    obtain ⟨⟨h1, h2⟩, h3⟩ := this
    simp [nmP, ABC, ixS, h1, h2, h3]
  | _ :: _ :: _ :: _ :: _, _, h => by simp at h
theorem nm_inj {ns : List Str} (nd : ns.Nodup) (hl : ns.length ≤ 3) {x y : Str} (hx : x ∈ ns) (hy : y ∈ ns) (e : nmP ns x = nmP ns y) : x = y := by
  have h := map_nm nd hl
  have nd2 : (ns.map (nmP ns)).Nodup := by rw [h]; exact (by decide +kernel : ABC.Nodup).sublist (List.take_sublist _ _)
  obtain ⟨i, hi, rfl⟩ := List.mem_iff_getElem.mp hx
  obtain ⟨j, hj, rfl⟩ := List.mem_iff_getElem.mp hy
  by_cases q : i = j
  · subst q; rfl
  · exfalso
    have nd3 := List.pairwise_iff_getElem.mp nd2
    rcases Nat.lt_or_gt_of_ne q with z | z
    · have := nd3 i j (by simpa using hi) (by simpa using hj) z
      simp only [List.getElem_map] at this
      exact this e
    · have := nd3 j i (by simpa using hj) (by simpa using hi) z
      simp only [List.getElem_map] at this
      exact this e.symm
/-- names a, b, c alone -/
def AbcF (t : Fm) : Prop := ∀ x ∈ t.names, x ∈ ABC
theorem gth_len {t : Fm} (h : AbcF t) : (gth [] t).length ≤ 3 := by
  have := nodup_sub (gth_nd t (ns := []) List.nodup_nil) (m := ABC) fun x hx => ((gth_mem t).mp hx).elim (fun z => by cases z) (h x)
  exact this
theorem gth_pl {t : Fm} (h : AbcF t) : gth [] (pl t) = ABC.take (gth [] t).length := by
  have nd := gth_nd t (ns := []) List.nodup_nil
  have hl := gth_len h
  have := gth_map (s := lk (tabP (gth [] t))) (f := nmP (gth [] t)) t (ns := []) (fun x hx => lk_zip ((gth_mem t).mpr (.inr hx)) (by exact hl)) fun x hx y hy e => nm_inj nd hl ((gth_mem t).mpr hx) ((gth_mem t).mpr hy) e
  rw [List.map_nil] at this
  rw [map_nm nd hl] at this
  exact this
theorem abc_id (n : Nat) (x : Str) : (lk (tabP (ABC.take n)) x).getD (.name x) = .name x := by
  have key : ∀ l : List Str, (lk (l.map fun z => (z, Fm.name z)) x).getD (.name x) = .name x := by
    intro l
    induction l with
    | nil => rfl
    | cons z l ih =>
      simp only [List.map_cons, lk]
      by_cases e : z = x
      · subst e; simp
      · rw [if_neg e]; exact ih
  have e : tabP (ABC.take n) = (ABC.take n).map fun z => (z, Fm.name z) := by
    match n with
    | 0 => rfl
    | 1 => rfl
    | 2 => rfl
    | n + 3 => rw [show ABC.take (n + 3) = ABC from List.take_of_length_le (by show 3 ≤ n + 3; omega)]; rfl
  rw [e]
  exact key _
theorem pl_pl {t : Fm} (h : AbcF t) : pl (pl t) = pl t := by
  unfold pl
  rw [show gth [] (t.fill (lk (tabP (gth [] t)))) = ABC.take (gth [] t).length from gth_pl h]
  have : ∀ u : Fm, u.fill (lk (tabP (ABC.take (gth [] t).length))) = u := by
    intro u
    induction u with
    | name x => exact abc_id _ x
    | one => rfl
    | none => rfl
    | bin j a b ha hb => show Fm.bin _ _ _ = _; rw [ha, hb]
  exact this _
theorem pl_abc {t : Fm} (h : AbcF t) : AbcF (pl t) := fun x hx => by
  have := (gth_mem (pl t) (ns := [])).mpr (.inr hx)
  rw [gth_pl h] at this
  exact List.mem_of_mem_take this
theorem pl_dep (t : Fm) : (pl t).dep = t.dep := by
  have : ∀ (ns : List Str) (u : Fm), (u.fill (lk (tabP ns))).dep = u.dep := by
    intro ns u
    induction u with
    | name x =>
      show ((lk (tabP ns) x).getD _).dep = 1
      cases e : lk (tabP ns) x with
      | none => rfl
      | some w =>
        have := lk_mem e
        obtain ⟨p, _, e2⟩ := List.mem_map.mp this
        cases e2
        rfl
    | one => rfl
    | none => rfl
    | bin j a b ha hb => simp only [Fm.fill, Fm.dep, ha, hb]
  exact this _ t
theorem abc_sorted {hs : List Str} (ha : ∀ x ∈ hs, x ∈ ABC) (nd : hs.Nodup) (so : sortedS hs = true) {n : Nat} (hm : ∀ x, x ∈ hs ↔ x ∈ ABC.take n) : hs = ABC.take n := by
  have xy : ∀ z ∈ hs, z = "a" ∨ z = "b" ∨ z = "c" := fun z hz => by simpa [ABC] using ha z hz
  have key : hs = ABC.filter fun z => decide (z ∈ hs) := by
    match hs, nd, so, xy with
    | [], _, _, _ => decide
    | [a], _, _, xy => rcases xy a (by simp) with e | e | e <;> subst e <;> decide +kernel
    | [a, b], nd, so, xy =>
      rcases xy a (by simp) with e | e | e <;> rcases xy b (by simp) with e' | e' | e' <;> subst e <;> subst e' <;> first | decide +kernel | exact absurd nd (by decide +kernel) | exact absurd so (by decide +kernel)
    | [a, b, c], nd, so, xy =>
      rcases xy a (by simp) with e | e | e <;> rcases xy b (by simp) with e' | e' | e' <;> rcases xy c (by simp) with e2 | e2 | e2 <;> subst e <;> subst e' <;> subst e2 <;> first | decide +kernel | exact absurd nd (by decide +kernel) | exact absurd so (by decide +kernel)
    | a :: b :: c :: d :: r, nd, _, xy =>
      exfalso
      have := nodup_sub nd (m := ABC) fun z hz => by simpa [ABC] using xy z hz
      simp [ABC] at this
  rw [key]
  have : (ABC.filter fun z => decide (z ∈ hs)) = ABC.filter fun z => decide (z ∈ ABC.take n) := List.filter_congr fun z _ => by simp only [hm]
  rw [this]
  match n with
  | 0 => decide +kernel
  | 1 => decide +kernel
  | 2 => decide +kernel
  | n + 3 => rw [show ABC.take (n + 3) = ABC from List.take_of_length_le (by show 3 ≤ n + 3; omega)]; exact (by decide +kernel : (ABC.filter fun z => decide (z ∈ ABC)) = ABC)
theorem tabP_at {ns : List Str} {j : Nat} {n b : Str} (h : ns[j]? = some n) (hb : ABC[j]? = some b) : (tabP ns)[j]? = some (n, .name b) := by
  unfold tabP
  rw [List.getElem?_map, List.getElem?_zip_eq_some.mpr (show ns[j]? = some (n, b).1 ∧ ABC[j]? = some (n, b).2 from ⟨h, hb⟩)]
  rfl
theorem tabP_fst {ns : List Str} (h : ns.length ≤ 3) : (tabP ns).map (·.1) = ns := by
  unfold tabP
  rw [List.map_map]
  show (ns.zip ABC).map Prod.fst = ns
  exact List.map_fst_zip h
theorem tabP_fresh {ns : List Str} (nd : ns.Nodup) (h : ns.length ≤ 3) {j : Nat} {n b : Str} (hn : ns[j]? = some n) (hb : ABC[j]? = some b) : lk ((tabP ns).take j) n = none := by
  have := lk_take (l := tabP ns) (by rw [tabP_fst h]; exact nd) id (tabP_at hn hb)
  simpa using this
end Sq
set_option Elab.async false
set_option linter.all false
set_option maxRecDepth 100000
set_option maxHeartbeats 2000000
namespace Sq
open PySem PySem.Spec PyProof.Rows L2
/-! ### a def's promise where nothing of the interpreter's own is under way -/
structure FnG (P : Program) (w : World) (K : PySem.W.Frag) (mg : Str → Option Value) (base : Heap) (k : Nat) (f : Addr) (fd : FuncData) (ps : List Str) (sp : Sp) : Prop where
  len : ∀ vs H Q E, sp vs H Q E → vs.length = ps.length
  run : ∀ (A : Around) (outer : List Env) (s : Shared) (H : Hp) (args : Args) (us : List Value) (vs : List V) (Q : VK) (E : XK), Room k A → A.guards = some [] → Env0 P w K mg base A outer s H → BindsTo s fd args (ps.zip us) → Vals vs us → sp vs H Q E →
    codeAny (model P w) A (.call (.ref f) args) (CR CX0 outer P w H s Q E) s
structure CalG (P : Program) (w : World) (K : PySem.W.Frag) (mg : Str → Option Value) (base : Heap) (k : Nat) (x : Str) (sp : Sp) : Prop where
  ex : ∃ (f : Addr) (fd : FuncData) (ps : List Str), FnG P w K mg base k f fd ps sp ∧ mg x = some (.ref f) ∧ PySem.W.keepIn K (.ref f) = true ∧ Binds K fd ps []
theorem Dn.calG {P : Program} {w : World} {K : PySem.W.Frag} {mg : Str → Option Value} {base : Heap} {k : Nat} {x : Str} {st : Stmt} {f c : Addr} {fd : FuncData} {N ps : List Str} {sp : Sp} (F : Dn K mg x st f fd c) (hb : BindOk x st ps) (S : FnScope N ps (defScope st)) (len : ∀ vs H Q E, sp vs H Q E → vs.length = ps.length)
    (hbody : ∀ (A : Around) (outer : List Env) (s : Shared) (H : Hp) (vs : List V) (Q : VK) (E : XK), Room k (A.deeper (envOfC x (defScope st) s.heap.objs.size f (.ref c))) → A.guards = some [] → sp vs H Q E →
      ∃ t, PSs (CxD P w K mg base N x st f c A outer s H E) (defBody st) t ∧ t { nx := fun _ H' => Q .non H', rt := Q } (start N vs) H) : CalG P w K mg base (k + 1) x sp :=
  ⟨f, fd, ps, ⟨len, fun A outer s H args us vs Q E hr hg en bd vu hs => run_here F S hr en bd vu (len _ _ _ _ hs) (hbody A outer s H vs Q E (hr.deeper _) hg hs)⟩, F.mgf, F.kp, F.binds hb⟩
theorem pe_cG {X : Cx} {k j : Nat} {x : Str} {sp : Sp} {p pos : Pos} {e : Expr} {es : List Expr} {t : TA} (c : CalG X.prog X.w X.K X.mg X.base k x sp) (hr : Room j X.A) (hk : k ≤ j) (h0 : X.A.guards = some []) (hg : Gl X x) (ha : PA X (e :: es) t)
    (hdb : (x == ("__debug__" : Str)) = false := by decide) (he : starEach (e :: es) X.env = (false, eval e X.env) :: starEach es X.env := by rfl) (hpl : (backTo pos (starEach es X.env)).any (·.1) = false := by rfl) :
    PE X (.Call (.Name x p) (e :: es) [] pos) (tCall sp [] C8.E0 t) := by
  obtain ⟨f, fd, ps, F, hm, kp, hb⟩ := c.ex
  refine ⟨fun pins s σ H Q I h => ?_⟩
  refine wpAny_Call_Name_kw (ld_glob I hg hm ?_ hdb)
  refine PySem.W.callWith_K (h₀ := X.base) I.ok.mod.kin kp (thn (ha.run pos pins s σ H _ I h) fun us s1 ⟨vs, H1, I1, r, q⟩ => ⟨I1.kIn, ?_⟩) he hpl
  have q' : sp vs H1 Q C8.E0 := by simpa using q
  have hl : us.length = ps.length := by rw [← r.length]; exact F.len _ _ _ _ q'
  have bd := hb s1 us I1.kIn (by simpa using hl)
  rw [List.append_nil] at bd
  refine wpAny_call (codeAny_mono (F.run X.A X.stack s1 H1 ⟨us, []⟩ us vs Q C8.E0 (hr.mono hk) h0 I1.env0 bd r q') fun r s' hq => ?_)
  cases r with
  | error e => exact C8.pass0 (E := C8.E0) pins σ H1 s1 e s' I1 hq
  | ok fl =>
    cases fl with
    | ret u => exact I1.after hq
    | next => exact False.elim hq
    | brk => exact False.elim hq
    | cont => exact False.elim hq
end Sq
set_option Elab.async false
set_option linter.all false
set_option maxRecDepth 100000
set_option maxHeartbeats 2000000
namespace Sq
open PySem PySem.Spec PyProof.Rows L2
/-! ### a tuple's text is made anew: behind it a token has been given out -/
section
variable {prog : Program} {w : World}
theorem reprAt1 {as : List Addr} {h₀ : Heap} {d : Nat} {a : Addr} {o : Obj} {items : Array Value} {n : Nat} {ts : List Str}
    (ha : h₀.get? a = some o) (hc : o.cls = .type "tuple") (hd : o.data = .seq items n) (hna : a ∉ as) (hT : ReprAllK prog w as h₀ d items.toList ts)
    {A : Around} {s : Shared} {R : Result → Shared → Prop} {id : String}
    (hcg : (Code.builtin id ⟨[.ref a], []⟩).isGuard = true) (hcu : (A.under (.builtin id ⟨[.ref a], []⟩)).units = A.units + 1)
    (hg : A.guards = some []) (hu : A.units + (d + 1) < cLine) (hk0 : ∀ b o, h₀.get? b = some o → s.heap.get? b = some o)
    (hR : ∀ h' u tk, (∀ b o, s.heap.get? b = some o → h'.get? b = some o) → 1 ≤ tk → R (.ok (.ret (.str (tupleText ts) u))) { s with heap := h', toks := tk })
    (hsz : (tupleText ts).length ≤ sizeLine) :
    wpOwn (model prog w) A (.builtin id ⟨[.ref a], []⟩) (Builtin.tupleReprAt 0 ⟨[.ref a], []⟩) (fun fin s' => match fin with | .done f => R (.ok f) s' | .again c' => c'.quiet = true ∧ codeAny (model prog w) A c' R s') (fun e s' => R (.error e) s') s := by
  have hlen : ts.length = items.size := by simpa using hT.length_eq
  have hp := piled_le_tupleText ts
  rw [tuple_repr_tree, tupleReprUnderWay_eq]
  refine wpOwn_bind (wpOwn_stackTailAny hg (tupGuardF_off _) (tupGuardF_pos _) (wpOwn_of_wpAny ?_))
  show wpAny _ _ (tupleReprRest 0 (.ref a)) _ _ s
  unfold tupleReprRest Builtin.Tuple.tupleItemsOf
  refine wpAny_bind (wpAny_bind (wpAny_seqItems (hk0 _ _ ha) hd (wpAny_pure ?_)))
  rw [← Array.forIn_toList]
  refine wpAny_bind (wpAny_tupFoldK (guards_under_guard hcg hg) (fun b hb => (Clear.nil b).cons (a := a) fun e => hna (e ▸ hb)) (by rw [hcu]; omega) _ ts _ _ _ _ hT (by omega) hk0 fun h' tk hkp => ?_)
  refine wpAny_bind (wpAny_mkStr (wpAny_pure ?_) (by simpa [tupleText, hlen] using hsz))
  simpa [tupleText, hlen] using hR h' tk (tk + 1) hkp (Nat.le_add_left _ _)
theorem str_tok {h₀ : Heap} {a : Addr} {ds : List PyData} {as : List Addr} {A : Around} {E : Value → Shared → Prop} {s : Shared} {Q : Value → Shared → Prop}
    (r : Reads h₀ (.ref a) (.tuple ds) as) (hs : (PyData.tuple ds).showable = true) (hh : (PyData.tuple ds).hasDict = false) (hg : A.guards = some []) (hu : A.units + ((PyData.tuple ds).depth + 4) < cLine) (hk0 : ∀ b o, h₀.get? b = some o → s.heap.get? b = some o)
    (hQ : ∀ h' u tk, (∀ b o, s.heap.get? b = some o → h'.get? b = some o) → 1 ≤ tk → Q (.str (PyData.tuple ds).shown u) { s with heap := h', toks := tk })
    (hsz : (PyData.tuple ds).shown.length ≤ sizeLine) : wpAny (model prog w) A (call (.type "str") [.ref a]) Q E s := by
  cases r with
  | tuple h1 h2 h3 h4 =>
    rename_i o vs n
    simp only [PyData.shown] at hsz hQ
    simp only [PyData.depth] at hu
    refine callType_new F.called_str (by decide) (F.typeCall_str_1 _) (F.newCall_str_1 _) (fun obj => F.args_object_init_2 obj _) F.entry_str_new
      (meets_str_new (S := fun A' R s' => A'.guards = some [] ∧ A'.units + (PyData.depthAll ds + 3) < cLine ∧ (∀ b o, h₀.get? b = some o → s'.heap.get? b = some o) ∧
        ∀ h' u tk, (∀ b o, s'.heap.get? b = some o → h'.get? b = some o) → 1 ≤ tk → R (.ok (.ret (.str (tupleText (PyData.shownAll ds)) u))) { s' with heap := h', toks := tk })
      fun prog' w' A' R s' ⟨g1, g2, g3, g4⟩ => ?_) ⟨hg, by show A.units + 1 + (PyData.depthAll ds + 3) < cLine; omega, hk0, fun h' u tk hk h1 => ⟨typeIs_str _ _ _, hQ h' u tk hk h1⟩⟩
    obtain ⟨bs, hb, hk⟩ := ReprAllK.of_readsAll (prog := prog') (w := w') h4 (by simpa [PyData.showable] using hs) (fun hx => by rw [show (PyData.tuple ds).hasDict = PyData.hasDictAll ds from rfl] at hh; rw [hh] at hx; cases hx) (fun t ht => Nat.le_trans (tupleText_mem_le ht) hsz)
    have hna : a ∉ bs := not_mem_of_deeper (.tuple h1 h2 h3 h4) (by simp only [PyData.depth]; omega) hb
    refine wpAny_strOf_slot rfl (by show A'.units + 1 + 1 < cLine; omega) ⟨o, g3 _ _ h1, h2⟩ F.slot_tuple_str F.slot_tuple_repr ?_
    refine wpAny_call (codeAny_call_builtin_own (Code.quiet_builtin _ (by decide +kernel)) F.entry_tuple_repr (F.slot_tuple_repr.check _ _ _ _ _ _ _ _ ⟨o, g3 _ _ h1, h2⟩ (F.args_tuple_repr_1 _)
      (reprAt1 (R := callEnd _ _) h1 h2 h3 hna hk (isGuard_tuple_repr _) (units_under_tuple_repr _ _) g1 (by show A'.units + 1 + 1 + (PyData.depthAll ds + 1) < cLine; omega) g3 (fun h' u tk hk h1 => ⟨_, _, rfl, g4 h' u tk hk h1⟩) hsz)))
end
/-! ### str(one).replace(..).replace(..).split() -/
/-- an expression behind which a token has been given out -/
def PEk (X : Cx) (e : Expr) (t : TE) : Prop := ∀ (pins : List (Addr × Obj)) (s : Shared) (σ : L2.St) (H : Hp) (Q : VK), Inv X pins σ H s → t σ H Q → wpAny (model X.prog X.w) X.A (eval e X.env) (fun v s' => EP X pins σ Q v s' ∧ 1 ≤ s'.toks) X.xe s
theorem PEk.pe {X : Cx} {e : Expr} {t : TE} (h : PEk X e t) : PE X e t := ⟨fun pins s σ H Q I q => thn (h pins s σ H Q I q) fun _ _ z => z.1⟩
section
variable {X : Cx} (K : PySem.W.Frag) {e o : Expr} {t : TA} {to : TE} {p pos apos : Pos} {y z : Str} {j k : Nat} {c0 c1 : Pos}
theorem pk_str (h0 : X.A.guards = some []) (hu : X.A.units + 90 < cLine) (hg : Gl X "str") (hm : X.mg "str" = none) (ha : PA X [e] t) (he : starEach [e] X.env = (false, eval e X.env) :: starEach [] X.env := by rfl)
    (hpl : (backTo pos (starEach [] X.env)).any (·.1) = false := by rfl) (hK : X.K = K := by rfl) : PEk X (.Call (.Name "str" p) [e] [] pos) (tCB (rStrT K) t) := by
  subst hK
  intro pins s σ H Q I h
  refine wpAny_Call_Name_kw (ld_blt I hg hm boot_str ?_ (by decide) (by decide))
  refine PyProof.Rows.callWith_type1 (thn (ha.run pos pins s σ H _ I h) fun us s1 ⟨vs, H1, I1, r, q1⟩ => ?_) he hpl
  obtain ⟨v, ds, rfl, hd, sh, sw, sz, q⟩ := q1
  obtain ⟨u, rfl, rx⟩ := vals1 r
  obtain ⟨as, r1⟩ := Dp.reads I1 _ v u hd.dp rx
  cases hd with
  | tup g1 g2 =>
    cases rx
    have hdep := SeqAt.depth_of_shaped sh
    have hlay := SeqAt.canLay_of_shaped sh
    exact str_tok r1 sw (PyData.hasDict_of_canLay _ hlay) h0 (by omega) (fun b o e => e) (fun h' u tk hk h1 => ⟨⟨.str _, H1, I1.kept hk, ⟨_, rfl⟩, q⟩, h1⟩) sz
theorem pk_repl (ho : PEk X o to) (hyz : (y == z) = false := by decide)
    (hst : starEach [.Constant (.str y) j c0, .Constant (.str z) k c1] X.env = [(false, eval (.Constant (.str y) j c0) X.env), (false, eval (.Constant (.str z) k c1) X.env)] := by rfl)
    (hbase : attributeBase o "replace" X.env (eval o X.env) = eval o X.env := by rfl) (hline : (apos.endLine == pos.line) = true := by rfl) :
    PEk X (.Call (.Attribute o "replace" apos) [.Constant (.str y) j c0, .Constant (.str z) k c1] [] pos) (CwR.tReplC to y z) := by
  intro pins s σ H Q I h
  refine PySem.Call_method2 hbase hst hline (thn (ho pins s σ H _ I h) fun v s1 q => ?_)
  obtain ⟨⟨v', H1, I1, r1, x, e1, hb, q⟩, hk⟩ := q
  subst e1
  obtain ⟨tx, e2⟩ := r1
  subst e2
  refine ⟨"str", _, PySem.F.plainAttrs_str, PySem.F.slot_str_replace, PySem.F.type_str_replace, typeIs_str _ _ _, (fun _ e => nomatch e), Calls.callWith_builtin rfl (Calls.evalArgs_plain (Calls.spliced_cons ?_))⟩
  refine Calls.Constant_str (Calls.spliced_cons (Calls.Constant_str (Calls.spliced_nil ?_)))
  refine wpAny_mono (PySem.wpAny_toks (PySem.SC.replace (Q := fun v s' => EP X pins σ Q v s') (by show s1.toks ≠ 0; omega) (by show s1.toks + 1 ≠ 0; omega) (by show s1.toks ≠ s1.toks + 1; omega) hyz hb fun t' k => ⟨.str (Txt.replace x y z), H1, I1.tok k, ⟨t', rfl⟩, q⟩)) (fun v s' q => ⟨q.2, ?_⟩) fun _ _ z => z.2
  have : s1.toks + 1 + 1 ≤ s'.toks := q.1
  omega
end
end Sq
set_option Elab.async false
set_option linter.all false
set_option maxRecDepth 100000
set_option maxHeartbeats 2000000
namespace Sq
open PySem PySem.Spec PyProof.Rows L2
/-! ### list of a text; a list times an int; a dict of pairs; the words of a text -/
def signs (z : Str) : List V := z.cps.toList.map fun c => V.str ⟨#[c]⟩
def rListS : List V → Hp → VK → Prop := fun xs H Q => ∃ z : Str, xs = [.str z] ∧ z.length ≤ 64 ∧ ∀ l H2, H l = none → Ext [] H H2 → H2 l = some (.lst (signs z)) → Q (.ref l) H2
theorem vals_at : ∀ {xs : List V} {us : List Value}, xs.length = us.length → (∀ (j : Nat) (x : V) (u : Value), xs[j]? = some x → us[j]? = some u → RelV x u) → Vals xs us
  | [], [], _, _ => .nil
  | x :: xs, u :: us, h, f => .cons (f 0 x u rfl rfl) (vals_at (by simpa using h) fun j y w e1 e2 => f (j + 1) y w (by simpa using e1) (by simpa using e2))
section
variable {X : Cx}
theorem call_listS (hc : X.calm = true) : CallR X (.type "list") rListS := by
  intro pins s σ H xs us Q I r h
  obtain ⟨z, rfl, hz, q⟩ := h
  obtain ⟨u, rfl, t, rfl⟩ := vals1 r
  have hs1 : (64 : Nat) ≤ sizeLine := by decide
  have hzs : z.cps.size ≤ 64 := hz
  refine call_list_str (I.ok.hd hc) z t (fun h' tk acc' c' hk hS hi => ?_) (by omega)
  have hv : Vals (signs z) acc'.toList := by
    refine vals_at (by unfold signs; rw [List.length_map, Array.length_toList, Array.length_toList, hi.1]) fun j x u e1 e2 => ?_
    unfold signs at e1
    rw [List.getElem?_map] at e1
    obtain ⟨c, w, g1, rfl⟩ := hi.2 j u (by simpa using e2)
    have g2 : z.cps.toList[j]? = some c := by simpa using g1
    rw [g2] at e1
    cases e1
    exact ⟨w, rfl⟩
  have hl : (signs z).length ≤ sizeLine := by unfold signs; rw [List.length_map, Array.length_toList]; omega
  exact ⟨.ref s.heap.objs.size, _, I.laid (t' := tk) hk (Nat.le_refl _) (show ObjOk X.prog X.w _ h' _ (.lst (signs z)) from ⟨hl, acc'.toList, c', hv, by simpa using hS⟩), rfl, q _ _ (I.hok.fresh (Nat.le_refl _)) (Ext.new (I.hok.fresh (Nat.le_refl _))) upd_same⟩
/-- [x] * k -/
def rRepF : R2 := fun x y H Q => ∃ l k xs, x = .ref l ∧ y = .int k ∧ H l = some (.lst xs) ∧ 0 ≤ k ∧ k ≤ 64 ∧ xs.length ≤ 64 ∧ ∀ p H2, H p = none → Ext [] H H2 → H2 p = some (.lst (List.replicate k.toNat xs).flatten) → Q (.ref p) H2
theorem op_repF : OpR X (binaryOp .Mult) rRepF := fun pins s σ H x y v u Q I rx ry ⟨l, k, xs, e1, e2, hl, h0, h1, h2, q⟩ =>
  op_rep pins s σ H x y v u Q I rx ry ⟨l, k, xs, e1, e2, hl, by omega, by omega, (by
    have : xs.length * k.toNat ≤ 64 * 64 := Nat.mul_le_mul h2 (by omega)
    have hs : (64 * 64 : Nat) ≤ sizeLine := by decide
    omega), fun p hp => q p _ hp (Ext.new hp) upd_same⟩
/-- dict(xs) of pairs -/
def rDictP (K : PySem.W.Frag) : List V → Hp → VK → Prop := fun xs H Q => ∃ (a : Addr) (ps : List Addr) (kvs : List (Key × V)), xs = [.ref a] ∧ H a = some (.lst (ps.map V.ref)) ∧ Paired (fun p kv => tupF K H p = some [kV kv.1, kv.2]) ps kvs ∧
  ∀ p H2, H p = none → Ext [] H H2 → H2 p = some (.dK (mergeK [] kvs)) → Q (.ref p) H2
theorem paired_imp {α β : Type} {R R' : α → β → Prop} (h : ∀ a b, R a b → R' a b) : ∀ {xs : List α} {ys : List β}, Paired R xs ys → Paired R' xs ys
  | _, _, .nil => .nil
  | _, _, .cons r t => .cons (h _ _ r) (paired_imp h t)
theorem call_dictPK (K : PySem.W.Frag) (hc : X.calm = true) (hK : X.K = K := by rfl) : CallR X (.type "dict") (rDictP K) := by
  subst hK
  exact fun pins s σ H xs us Q I r ⟨a, ps, kvs, e, ha, hp, q⟩ => call_dictP hc pins s σ H xs us Q I r ⟨a, ps, kvs, e, SqL.of ha, paired_imp (fun _ _ h => tupF_sq h) hp, fun p h => q p _ h (Ext.new h) upd_same⟩
/-- x.split() -/
def tWords (to : TE) : TE := fun σ H Q => to σ H fun v H1 => ∃ x : Str, v = .str x ∧ x.length ≤ 100000 ∧ ∀ p H2, H1 p = none → Ext [] H1 H2 → H2 p = some (.lst ((Txt.words x).map V.str)) → Q (.ref p) H2
theorem pe_wordsF {o : Expr} {to : TE} {apos pos : Pos} (ho : PE X o to) (hbase : attributeBase o "split" X.env (eval o X.env) = eval o X.env := by rfl) (hline : (apos.endLine == pos.line) = true := by rfl) :
    PE X (.Call (.Attribute o "split" apos) [] [] pos) (tWords to) := by
  have hs : (100000 : Nat) + 2 ≤ sizeLine := by decide
  have ho2 : PE X o (fun σ H k => ∃ k', to σ H k' ∧ ∀ v H1, k' v H1 → k v H1) := ⟨fun pins s σ H Q I ⟨k', h, m⟩ => thn (ho.run pins s σ H _ I h) fun v s1 ⟨x, H1, I1, r1, q1⟩ => ⟨x, H1, I1, r1, m _ _ q1⟩⟩
  exact ⟨fun pins s σ H Q I h => (pe_words ho2 hbase hline).run pins s σ H Q I ⟨_, h, fun v H1 ⟨x, e, hx, q⟩ => ⟨⟨x, e⟩, x, e, rfl, by omega, fun p hp => q p _ hp (Ext.new hp) upd_same⟩⟩⟩
end
end Sq
set_option Elab.async false
set_option linter.all false
set_option maxRecDepth 100000
set_option maxHeartbeats 2000000
namespace Sq
open PySem PySem.Spec PyProof.Rows L2
/-! ### the words of a formula's text -/
def ftxt (t : Fm) : List Nat := t.data.shown.cps.toList
def LL (s : String) : List Nat := (Str.ofString s).cps.toList
theorem ftup3 (x y z : Str) : (tupleText [x, y, z]).cps.toList = LL "(" ++ (x.cps.toList ++ (LL ", " ++ (y.cps.toList ++ (LL ", " ++ (z.cps.toList ++ LL ")"))))) := by
  show ((("(" : Str) ++ (x ++ ", " ++ (y ++ ", " ++ z))) ++ (")" : Str)).cps.toList = _
  simp only [Str.cps_append, Array.toList_append, List.append_assoc]
  rfl
def jtx : Jn → List Nat
  | .to => LL "('to', "
  | .both => LL "('both', "
  | .either => LL "('either', "
theorem ftxt_bin (j : Jn) (t u : Fm) : ftxt (.bin j t u) = jtx j ++ (ftxt t ++ (LL ", " ++ (ftxt u ++ LL ")"))) := by
  have e : LL "(" ++ ((reprText j.str).cps.toList ++ LL ", ") = jtx j := by cases j <;> decide +kernel
  show (tupleText [reprText j.str, t.data.shown, u.data.shown]).cps.toList = _
  rw [ftup3, ← e]
  simp only [List.append_assoc]
  rfl
theorem ftxt_one : ftxt .one = LL "('one',)" := by decide +kernel
theorem ftxt_none : ftxt .none = LL "('none',)" := by decide +kernel
theorem ftxt_a : ftxt (.name "a") = LL "('name', 'a')" := by decide +kernel
theorem ftxt_b : ftxt (.name "b") = LL "('name', 'b')" := by decide +kernel
theorem ftxt_c : ftxt (.name "c") = LL "('name', 'c')" := by decide +kernel
theorem abc_in {x : Str} (h : x ∈ ABC) : x = "a" ∨ x = "b" ∨ x = "c" := by simpa [ABC] using h
theorem ftxt_len : ∀ t : Fm, AbcF t → (ftxt t).length ≤ 14 * t.sz
  | .name x, h => by
    rcases abc_in (h x (by simp [Fm.names])) with e | e | e <;> subst e
    · rw [ftxt_a]; decide
    · rw [ftxt_b]; decide
    · rw [ftxt_c]; decide
  | .one, _ => by rw [ftxt_one]; decide
  | .none, _ => by rw [ftxt_none]; decide
  | .bin j t u, h => by
    have h1 := ftxt_len t fun x hx => h x (List.mem_append_left _ hx)
    have h2 := ftxt_len u fun x hx => h x (List.mem_append_right _ hx)
    have hj : (jtx j).length ≤ 11 := by cases j <;> decide
    have c1 : (LL ", ").length = 2 := by decide
    have c2 : (LL ")").length = 1 := by decide
    rw [ftxt_bin]
    simp only [List.length_append, Fm.sz, c1, c2]; omega
theorem fshow_ok : ∀ t : Fm, t.data.showable = true
  | .name x => by simp [Fm.data, PyData.showable, PyData.showableAll]
  | .one => by simp [Fm.data, PyData.showable, PyData.showableAll]
  | .none => by simp [Fm.data, PyData.showable, PyData.showableAll]
  | .bin j t u => by simp [Fm.data, PyData.showable, PyData.showableAll, fshow_ok t, fshow_ok u]
/-- a sign put for a sign -/
def sub1 (c d e : Nat) : Nat := if e = c then d else e
theorem repl1 (c d : Nat) : ∀ l : List Nat, PySem.StrLaws.replL [c] [d] l = l.map (sub1 c d)
  | [] => PySem.StrLaws.replL_nil
  | e :: l => by
    by_cases h : e = c
    · subst h
      rw [PySem.StrLaws.replL_hit (by simp) (by simp)]
      show [d] ++ PySem.StrLaws.replL [e] [d] l = _
      rw [repl1 e d l, List.map_cons]
      simp [sub1]
    · rw [PySem.StrLaws.replL_miss (by simpa using h), repl1 c d l, List.map_cons]
      simp [sub1, h]
theorem repl_tl (x : Str) (c d : Nat) : (Txt.replace x ⟨#[c]⟩ ⟨#[d]⟩).cps.toList = x.cps.toList.map (sub1 c d) := by
  rw [PySem.StrLaws.replace_list (show 1 ≤ (#[c] : Array Nat).size from Nat.le_refl 1), ← repl1]
def gap (e : Nat) : Nat := sub1 39 32 (sub1 40 32 e)
theorem wf_shift : ∀ (l : List Nat) (ws : List (List Nat)) (u : List Nat), l.foldl TL.wstep (ws, u) = (ws ++ (l.foldl TL.wstep ([], u)).1, (l.foldl TL.wstep ([], u)).2)
  | [], ws, u => by simp
  | c :: l, ws, u => by
    rw [List.foldl_cons, List.foldl_cons]
    by_cases hc : Unicode.isSpace c = true
    · by_cases hu : u = []
      · have e : ∀ ws : List (List Nat), TL.wstep (ws, u) c = (ws, u) := fun ws => (if_pos hc).trans (if_pos hu)
        rw [e, e]
        exact wf_shift l ws u
      · have e : ∀ ws : List (List Nat), TL.wstep (ws, u) c = (ws ++ [u], []) := fun ws => (if_pos hc).trans (if_neg hu)
        rw [e, e, wf_shift l (ws ++ [u]), wf_shift l ([] ++ [u])]
        simp
    · have e : ∀ ws : List (List Nat), TL.wstep (ws, u) c = (ws, u ++ [c]) := fun ws => if_neg hc
      rw [e, e]
      exact wf_shift l ws (u ++ [c])
def abcL : List (List Nat) := [[97], [98], [99]]
def keep (ws : List (List Nat)) : List (List Nat) := ws.filter fun w => decide (w ∈ abcL)
theorem keep_app (a b : List (List Nat)) : keep (a ++ b) = keep a ++ keep b := List.filter_append ..
theorem keep_no {w : List Nat} {c : Nat} (hc : c ≠ 97 ∧ c ≠ 98 ∧ c ≠ 99) : keep [w ++ [c]] = [] := by
  unfold keep
  rw [List.filter_cons, if_neg]
  · rfl
  · intro h
    have h : w ++ [c] ∈ abcL := of_decide_eq_true h
    have h' : w ++ [c] = [97] ∨ w ++ [c] = [98] ∨ w ++ [c] = [99] := by simpa [abcL] using h
    have key : ∀ d, w ++ [c] = [d] → c = d := fun d e => by
      cases w with
      | nil => simpa using e
      | cons a r => simp at e
    rcases h' with e | e | e
    · exact hc.1 (key _ e)
    · exact hc.2.1 (key _ e)
    · exact hc.2.2 (key _ e)
/-- the words behind a formula's text: its names among them, a bracket at the end -/
theorem fm_words : ∀ (t : Fm), AbcF t → ∃ ws r, ((ftxt t).map gap).foldl TL.wstep ([], []) = (ws, r ++ [41]) ∧ keep ws = t.names.map fun x => x.cps.toList
  | .name x, h => by
    rcases abc_in (h x (by simp [Fm.names])) with e | e | e <;> subst e
    · rw [ftxt_a]; exact ⟨[LL "name", LL ",", LL "a"], [], by decide +kernel, by decide +kernel⟩
    · rw [ftxt_b]; exact ⟨[LL "name", LL ",", LL "b"], [], by decide +kernel, by decide +kernel⟩
    · rw [ftxt_c]; exact ⟨[LL "name", LL ",", LL "c"], [], by decide +kernel, by decide +kernel⟩
  | .one, _ => by rw [ftxt_one]; exact ⟨[LL "one"], LL ",", by decide +kernel, by decide +kernel⟩
  | .none, _ => by rw [ftxt_none]; exact ⟨[LL "none"], LL ",", by decide +kernel, by decide +kernel⟩
  | .bin j t u, h => by
    obtain ⟨w1, r1, e1, k1⟩ := fm_words t fun x hx => h x (List.mem_append_left _ hx)
    obtain ⟨w2, r2, e2, k2⟩ := fm_words u fun x hx => h x (List.mem_append_right _ hx)
    obtain ⟨wj, ej, kj⟩ : ∃ wj, ((jtx j).map gap).foldl TL.wstep ([], []) = (wj, []) ∧ keep wj = [] := by
      cases j
      · exact ⟨[LL "to", LL ","], by decide +kernel, by decide +kernel⟩
      · exact ⟨[LL "both", LL ","], by decide +kernel, by decide +kernel⟩
      · exact ⟨[LL "either", LL ","], by decide +kernel, by decide +kernel⟩
    have ec : ∀ (ws : List (List Nat)) (u : List Nat), ((LL ", ").map gap).foldl TL.wstep (ws, u) = (ws ++ [u ++ [44]], []) := fun ws u => by
      have a : TL.wstep (ws, u) 44 = (ws, u ++ [44]) := if_neg (by decide +kernel)
      have b : TL.wstep (ws, u ++ [44]) 32 = (ws ++ [u ++ [44]], []) := (if_pos (by decide +kernel)).trans (if_neg (by simp))
      show TL.wstep (TL.wstep (ws, u) 44) 32 = _
      rw [a, b]
    have ez : ∀ (ws : List (List Nat)) (u : List Nat), ((LL ")").map gap).foldl TL.wstep (ws, u) = (ws, u ++ [41]) := fun ws u => by
      show TL.wstep (ws, u) 41 = _
      exact if_neg (by decide +kernel)
    refine ⟨wj ++ (w1 ++ ([(r1 ++ [41]) ++ [44]] ++ w2)), r2 ++ [41], ?_, ?_⟩
    · rw [ftxt_bin]
      simp only [List.map_append, List.foldl_append]
      rw [ej, wf_shift _ wj, e1]
      rw [ec, wf_shift _ (_ ++ _), e2, ez]
      simp only [List.append_assoc]
    · rw [keep_app, keep_app, keep_app, kj, k1, k2, keep_no (by decide)]
      show _ = (t.names ++ u.names).map _
      rw [List.map_append]
      rfl
def ostep (ns : List Str) (w : Str) : List Str := if w ∈ ABC ∧ w ∉ ns then ns ++ [w] else ns
theorem ost_ok {ws ns : List Str} (nd : ns.Nodup) (ha : ∀ x ∈ ns, x ∈ ABC) : (ws.foldl ostep ns).Nodup ∧ ∀ x ∈ ws.foldl ostep ns, x ∈ ABC := by
  induction ws generalizing ns with
  | nil => exact ⟨nd, ha⟩
  | cons w ws ih =>
    rw [List.foldl_cons]
    unfold ostep
    split
    · rename_i z
      refine ih (List.nodup_append.mpr ⟨nd, by simp, fun a h b hb e => ?_⟩) fun x hx => ?_
      · have : b = w := by simpa using hb
        subst this e
        exact z.2 h
      · rcases List.mem_append.mp hx with q | q
        · exact ha x q
        · have : x = w := by simpa using q
          rw [this]; exact z.1
    · exact ih nd ha
theorem ost_len (ws : List Str) : (ws.foldl ostep []).length ≤ 3 := by
  obtain ⟨h1, h2⟩ := ost_ok (ws := ws) (ns := []) List.nodup_nil (fun x hx => by cases hx)
  exact nodup_sub h1 h2
theorem ost_keep : ∀ (ws ns : List Str), ws.foldl ostep ns = (ws.filter fun w => decide (w ∈ ABC)).foldl ostep ns
  | [], _ => rfl
  | w :: ws, ns => by
    rw [List.foldl_cons, List.filter_cons]
    by_cases h : w ∈ ABC
    · rw [if_pos (by simpa using h), List.foldl_cons]
      exact ost_keep ws _
    · rw [if_neg (by simpa using h)]
      have e : ostep ns w = ns := if_neg fun z => h z.1
      rw [e]
      exact ost_keep ws ns
theorem ost_gth : ∀ (t : Fm) (ns : List Str), AbcF t → t.names.foldl ostep ns = gth ns t
  | .name x, ns, h => by
    have hx := h x (by simp [Fm.names])
    show ostep ns x = if x ∈ ns then ns else ns ++ [x]
    unfold ostep
    by_cases z : x ∈ ns
    · rw [if_neg fun q => q.2 z, if_pos z]
    · rw [if_pos ⟨hx, z⟩, if_neg z]
  | .one, _, _ => rfl
  | .none, _, _ => rfl
  | .bin _ t u, ns, h => by
    show (t.names ++ u.names).foldl ostep ns = _
    rw [List.foldl_append, ost_gth t ns fun x hx => h x (List.mem_append_left _ hx), ost_gth u _ fun x hx => h x (List.mem_append_right _ hx)]
    rfl
theorem abc_tl {x : Str} : x.cps.toList ∈ abcL ↔ x ∈ ABC := by
  have : abcL = ABC.map fun x => x.cps.toList := by decide +kernel
  rw [this]
  constructor
  · intro h
    obtain ⟨y, hy, e⟩ := List.mem_map.mp h
    have : x = y := by
      obtain ⟨⟨a⟩⟩ := x
      obtain ⟨⟨b⟩⟩ := y
      have : b = a := e
      rw [this]
    rw [this]; exact hy
  · exact fun h => List.mem_map.mpr ⟨x, h, rfl⟩
theorem tl_inj : ∀ {xs ys : List Str}, xs.map (fun x => x.cps.toList) = ys.map (fun x => x.cps.toList) → xs = ys
  | [], [], _ => rfl
  | x :: xs, y :: ys, h => by
    simp only [List.map_cons, List.cons.injEq] at h
    rw [tl_inj h.2]
    obtain ⟨⟨a⟩⟩ := x
    obtain ⟨⟨b⟩⟩ := y
    have : a = b := h.1
    rw [this]
  | [], _ :: _, h => by simp at h
  | _ :: _, [], h => by simp at h
/-- the words of the text, one by one, are the names in their order -/
theorem words_gth {t : Fm} (h : AbcF t) : (Txt.words (Txt.replace (Txt.replace t.data.shown ⟨#[40]⟩ ⟨#[32]⟩) ⟨#[39]⟩ ⟨#[32]⟩)).foldl ostep [] = gth [] t := by
  generalize hx : Txt.replace (Txt.replace t.data.shown ⟨#[40]⟩ ⟨#[32]⟩) ⟨#[39]⟩ ⟨#[32]⟩ = x
  have ex : x.cps.toList = (ftxt t).map gap := by
    rw [← hx, repl_tl, repl_tl, List.map_map]
    rfl
  obtain ⟨ws, r, e, k⟩ := fm_words t h
  have hw : (Txt.words x).map (fun x => x.cps.toList) = ws ++ [r ++ [41]] := by
    have := TL.words_tl x
    rw [show TL.tl x = x.cps.toList from rfl, ex, e] at this
    rw [show (Txt.words x).map (fun x => x.cps.toList) = (Txt.words x).map TL.tl from rfl, this]
    exact if_neg (by simp)
  have hk : ((Txt.words x).filter fun w => decide (w ∈ ABC)) = t.names := by
    refine tl_inj ?_
    have : ((Txt.words x).filter fun w => decide (w ∈ ABC)).map (fun x => x.cps.toList) = keep ((Txt.words x).map fun x => x.cps.toList) := by
      unfold keep
      rw [List.filter_map]
      congr 1
      exact List.filter_congr fun y _ => by simp only [Function.comp, abc_tl]
    rw [this, hw, keep_app, keep_no (by decide), k, List.append_nil]
  rw [ost_keep, hk, ost_gth t [] h]
end Sq
namespace Sq
open PySem L2
def top (i : Nat) : Stmt := PySem.Challenge.pw_sequenthall_k15_terms_without_bound_name.main.body.getD i (.Pass ⟨0, 0, 0, 0⟩)
end Sq
set_option Elab.async false
set_option linter.all false
set_option maxRecDepth 100000
set_option maxHeartbeats 2000000
namespace Sq
open PySem PySem.Spec PyProof.Rows L2
local macro_rules | `(tactic| walk_at "rd") => `(tactic| simp only [tCont, tDisp, tPairs, rIndexS, wipe, tNoPart, tDG2, tDGF, tDInF, tDNInF, sDPutF, tDNewF, rSortD, rInS, rInT, rEqLF, tDcF, tDc2F, tLcF, tForF, tAllF, tAnyF, tSumF, iStr, iEnumF, iZipF, iKeysF, iItems, tLZip, tYes, tSeq, tIfS, tNext, tRet, tRetN, tDrop, tTest, tB, tNot, tAnd, tOr, tChain, tOp, tUn, tCB, tCons, tNil, tC, tVar, tIf, tAndV, tOrV, tNotV, tAsg, tPar, tPar3, gName, gSub, gTupF, gCons, gNil, tTupF, tLstF, rI0, rI, rIxF, rIxG, rIxS, rSetF, rSlF, rCatF, rCatL, rTupL, rListT, rListL, rLenT, rLenL, iTupF, iLstF, rAppF, rExtF, rPopF, tBM, tBM0, tSl, tPart, rEq, rNe, tCall, L2.start,
  List.map_cons, List.map_nil, List.length_cons, List.length_nil, Nat.sub_self, List.replicate, List.append_nil, List.cons_append, List.nil_append, List.getElem?_cons_zero, List.getElem?_cons_succ, List.set_cons_zero, List.set_cons_succ,
  exSl, exI, exI2, exB, exS, exR, ex1, ex1', V.int.injEq, V.bl.injEq, V.ref.injEq, V.str.injEq, Option.some.injEq, List.cons.injEq, and_true, true_and, reduceCtorEq, false_and, and_false, or_false, false_or, exists_false, exists_and_left, exists_eq_left', decide_eq_true_eq, decide_true, decide_false, if_false, if_true, ite_true, ite_false, Bool.false_eq_true, Bool.not_true, Bool.not_false, Nat.reduceAdd, Nat.reduceSub, Nat.zero_add, atI_0, atI_1, atI_2, atI_3, ixN_0, ixN_1, ixN_2, cutV_1, cutV_2, Option.some.injEq, HO.lst.injEq, HO.dK.injEq, scal])
local macro_rules | `(tactic| walk_at "rdc") => `(tactic| simp (config := { contextual := true }) only [tCont, tDisp, tPairs, rIndexS, wipe, tNoPart, tDG2, tDGF, tDInF, tDNInF, sDPutF, tDNewF, rSortD, rInS, rInT, rEqLF, tDcF, tDc2F, tLcF, tForF, tAllF, tAnyF, tSumF, iStr, iEnumF, iZipF, iKeysF, iItems, tLZip, tYes, tSeq, tIfS, tNext, tRet, tRetN, tDrop, tTest, tB, tNot, tAnd, tOr, tChain, tOp, tUn, tCB, tCons, tNil, tC, tVar, tIf, tAndV, tOrV, tNotV, tAsg, tPar, tPar3, gName, gSub, gTupF, gCons, gNil, tTupF, tLstF, rI0, rI, rIxF, rIxG, rIxS, rSetF, rSlF, rCatF, rCatL, rTupL, rListT, rListL, rLenT, rLenL, iTupF, iLstF, rAppF, rExtF, rPopF, tBM, tBM0, tSl, tPart, rEq, rNe, tCall, L2.start,
  List.map_cons, List.map_nil, List.length_cons, List.length_nil, Nat.sub_self, List.replicate, List.append_nil, List.cons_append, List.nil_append, List.getElem?_cons_zero, List.getElem?_cons_succ, List.set_cons_zero, List.set_cons_succ,
  exSl, exI, exI2, exB, exS, exR, ex1, ex1', V.int.injEq, V.bl.injEq, V.ref.injEq, V.str.injEq, Option.some.injEq, List.cons.injEq, and_true, true_and, reduceCtorEq, false_and, and_false, or_false, false_or, exists_false, exists_and_left, exists_eq_left', decide_eq_true_eq, decide_true, decide_false, if_false, if_true, ite_true, ite_false, Bool.false_eq_true, Bool.not_true, Bool.not_false, Nat.reduceAdd, Nat.reduceSub, Nat.zero_add, atI_0, atI_1, atI_2, atI_3, ixN_0, ixN_1, ixN_2, cutV_1, cutV_2, Option.some.injEq, HO.lst.injEq, HO.dK.injEq, scal, *])
abbrev s__law_dice : Stmt := top 39
abbrev s__law_roll : Stmt := top 40
abbrev s__law_rounds : Stmt := top 41
/-- names that are still the built-in ones -/
structure Bl (mg : Str → Option Value) : Prop where
  b_len : mg "len" = none
  b_abs : mg "abs" = none
  b_int : mg "int" = none
  b_str : mg "str" = none
  b_tuple : mg "tuple" = none
  b_list : mg "list" = none
  b_dict : mg "dict" = none
  b_sorted : mg "sorted" = none
  b_sum : mg "sum" = none
  b_any : mg "any" = none
  b_all : mg "all" = none
  b_max : mg "max" = none
  b_min : mg "min" = none
  b_range : mg "range" = none
  b_zip : mg "zip" = none
  b_enumerate : mg "enumerate" = none
  b_reversed : mg "reversed" = none
  b_isinstance : mg "isinstance" = none
/-- three numbers in a list of their own -/
def DiceAt (H : Hp) (a : Addr) : Prop := ∃ x y z : Int, H a = some (.lst [.int x, .int y, .int z])
def spDice : Sp := fun vs H Q _ => ∃ c : Int, vs = [.int c] ∧ ∀ p H', H p = none → Ext [] H H' → DiceAt H' p → Q (.ref p) H'
def spRoll : Sp := fun vs H Q _ => ∃ (a : Addr) (m : Int), vs = [.ref a, .int m] ∧ DiceAt H a ∧ 0 < m ∧ m < 1000000 ∧ ∀ r H', 0 ≤ r → r < m → Ext [a] H H' → DiceAt H' a → Q (.int r) H'
section
variable {P : Program} {w : World} {K : PySem.W.Frag} {mg : Str → Option Value} {base : Heap} {f c : Addr} {fd : FuncData}
theorem sc__law_dice : FnScope ["cell"] ["cell"] (defScope s__law_dice) := ⟨rfl, rfl, rfl, by decide +kernel, rfl, by decide +kernel, by decide +kernel⟩
theorem ok_dice (F : Dn K mg "_law_dice" s__law_dice f fd c) (B : Bl mg) : Cal P w K mg base 1 "_law_dice" spDice := by
  refine F.cal (ps := ["cell"]) (fun _ _ _ _ _ _ us hl => match us, hl with | [_], _ => rfl) sc__law_dice (fun vs H Q E h => ?_) (fun A outer s H vs Q E hr h => ?_)
  · obtain ⟨_, rfl, _⟩ := h; rfl
  obtain ⟨n, rfl, q⟩ := h
  refine ⟨_, (pss_cons (ps_if (pt_chain op_lt op_lt (pe_op op_sub pe_int pe_int) (pv 0) pe_int) (pss_one (ps_ret (pe_lstF (pa_cons (pe_callB call_abs (by rfl) B.b_abs (by decide +kernel) (pa_cons (pv 0) pa_nil)) (pa_cons pe_int (pa_cons pe_int pa_nil)))))) pss_nil)
    (pss_one (ps_ret (pe_lstF (pa_cons (pv 0) (pa_cons (pe_op op_add pe_int (pe_op op_mod (pe_callTy call_int1 (by rfl) B.b_int (by decide +kernel) (pa_cons (pv 0) pa_nil)) pe_int)) (pa_cons (pe_callTy call_int1 (by rfl) B.b_int (by decide +kernel) (pa_cons (pe_cmpR op_ge (pv 0) (pe_op op_pow pe_int pe_int) (nomark _)) pa_nil)) pa_nil))))))), ?_⟩
  walk_at "rd"
  have z : 3 ≤ sizeLine := by decide
  have e : ∀ x y u : Int, 3 ≤ sizeLine ∧ ∀ p H2, H p = none → Ext [] H H2 → H2 p = some (.lst [.int x, .int y, .int u]) → Q (.ref p) H2 := fun x y u => ⟨z, fun p H2 hp e h => q p H2 hp e ⟨x, y, u, h⟩⟩
  have e2 : (0 : Int) < 1009 ∧ CPow 10 18 ∧ 3 ≤ sizeLine ∧ ∀ p H2, H p = none → Ext [] H H2 → H2 p = some (.lst [.int n, .int (1 + n % 1009), .int (if (10 : Int) ^ Int.toNat 18 ≤ n then 1 else 0)]) → Q (.ref p) H2 := ⟨by decide, ⟨by decide, by decide, by decide⟩, e _ _ _⟩
  refine ite2 (fun _ => ite2 (fun _ => e _ _ _) fun _ => e2) fun _ => e2

theorem sc__law_roll : FnScope ["dice", "many", "found"] ["dice", "many"] (defScope s__law_roll) := ⟨rfl, rfl, rfl, by decide +kernel, rfl, by decide +kernel, by decide +kernel⟩
theorem ok_roll (F : Dn K mg "_law_roll" s__law_roll f fd c) (B : Bl mg) : Cal P w K mg base 1 "_law_roll" spRoll := by
  refine F.cal (ps := ["dice", "many"]) (fun _ _ _ _ _ _ us hl => match us, hl with | [_, _], _ => rfl) sc__law_roll (fun vs H Q E h => ?_) (fun A outer s H vs Q E hr h => ?_)
  · obtain ⟨_, _, rfl, _⟩ := h; rfl
  obtain ⟨a, m, rfl, ⟨x, y, u, ha⟩, m0, m1, q⟩ := h
  refine ⟨_, (pss_cons (ps_if (PW.pt (pw_or (pt_cmpR op_eq (pe_ix ix_lstF (pv 0) pe_int (fun _ _ => rfl)) pe_int (nomark _)) (pw_or1 (PW.pt (pw_and (pt_cmpR op_eq (pe_ix ix_lstF (pv 0) pe_int (fun _ _ => rfl)) pe_int (nomark _)) (pw_and1 (pt_cmpR op_gt (pe_ix ix_lstF (pv 0) pe_int (fun _ _ => rfl)) pe_int (nomark _)))))))) (pss_cons (ps_set (i := 2) sc__law_roll.nd rfl (by first | exact Or.inl rfl | exact Or.inr rfl) (pe_op op_mod (pe_callTy call_int1 (by rfl) B.b_int (by decide +kernel) (pa_cons (pe_ix ix_lstF (pv 0) pe_int (fun _ _ => rfl)) pa_nil)) (pv 1)))
    (pss_cons (ps_asg (pe_op op_fdivN (pe_ix ix_lstF (pv 0) pe_int (fun _ _ => rfl)) (pv 1)) (pg_sub (pv 0) pe_int set_lstF))
    (pss_one (ps_ret (pv 2))))) pss_nil)
    (pss_cons (ps_asg pe_int (pg_sub (pv 0) pe_int set_lstF))
    (pss_cons (ps_asg (pe_op op_mod (pe_callTy call_int1 (by rfl) B.b_int (by decide +kernel) (pa_cons (pe_op op_add (pe_op op_add (pe_op op_mul (pe_ix ix_lstF (pv 0) pe_int (fun _ _ => rfl)) pe_int) (pe_op op_mul (pe_ix ix_lstF (pv 0) pe_int (fun _ _ => rfl)) pe_int)) pe_int) pa_nil)) pe_int) (pg_sub (pv 0) pe_int set_lstF))
    (pss_cons (ps_asg (pe_op op_add (pe_ix ix_lstF (pv 0) pe_int (fun _ _ => rfl)) pe_int) (pg_sub (pv 0) pe_int set_lstF))
    (pss_one (ps_ret (pe_op op_mod (pe_callTy call_int1 (by rfl) B.b_int (by decide +kernel) (pa_cons (pe_op op_add (pe_op op_fdivN (pe_ix ix_lstF (pv 0) pe_int (fun _ _ => rfl)) pe_int) (pe_ix ix_lstF (pv 0) pe_int (fun _ _ => rfl))) pa_nil)) (pv 1)))))))), ?_⟩
  walk_at "rd"
  have q' := q
  clear q
  walk_at "rdc"
  have q := q'
  have bot : ∀ {p : Prop}, (∀ H2, Ext [a] H H2 → H2 a = some (HO.lst [V.int x, V.int y, V.int 0]) → CMul x 48271 ∧ CMul y 69621 ∧ (0 : Int) < 2147483647 ∧ ∀ H3, Ext [a] H2 H3 → H3 a = some (HO.lst [V.int ((x * 48271 + y * 69621 + 11) % 2147483647), V.int y, V.int 0]) →
      ∀ H4, Ext [a] H3 H4 → H4 a = some (HO.lst [V.int ((x * 48271 + y * 69621 + 11) % 2147483647), V.int (y + 1), V.int 0]) → CDivN ((x * 48271 + y * 69621 + 11) % 2147483647) 7 ∧
        Q (V.int ((((x * 48271 + y * 69621 + 11) % 2147483647).fdiv 7 + (x * 48271 + y * 69621 + 11) % 2147483647) % m)) H4) := fun {p} H2 e2 _ =>
    ⟨.inr (by decide), .inr (by decide), by decide, fun H3 e3 _ H4 e4 h4 => ⟨⟨by decide, by decide⟩, q _ _ (Int.emod_nonneg _ (by omega)) (Int.emod_lt_of_pos _ m0) ((e2.trans e3).trans e4) ⟨_, _, _, h4⟩⟩⟩
  have top : 0 < m ∧ CDivN x m ∧ ∀ H2, Ext [a] H H2 → H2 a = some (HO.lst [V.int (x.fdiv m), V.int y, V.int u]) → Q (V.int (x % m)) H2 :=
    ⟨m0, ⟨by omega, by omega⟩, fun H2 e2 h2 => q _ _ (Int.emod_nonneg _ (by omega)) (Int.emod_lt_of_pos _ m0) e2 ⟨_, _, _, h2⟩⟩
  by_cases h2 : u = 2
  · subst h2
    rw [if_pos rfl]
    exact ⟨⟨by omega, by omega⟩, top.2.2⟩
  · rw [if_neg h2]
    by_cases h1 : u = 1
    · subst h1
      rw [if_pos rfl]
      by_cases h0 : 0 < x
      · rw [if_pos h0]
        exact ⟨⟨by omega, by omega⟩, top.2.2⟩
      · rw [if_neg h0]
        exact bot (p := True)
    · rw [if_neg h1]
      exact bot (p := True)
end
end Sq
set_option Elab.async false
set_option linter.all false
set_option maxRecDepth 100000
set_option maxHeartbeats 2000000
namespace Sq
open PySem PySem.Spec PyProof.Rows L2
theorem units65 {k : Nat} {A : Around} (r : Room k A) : A.units + 65 < cLine := by have := r.un; omega
theorem Ext.overS {S : List Addr} {H H1 H2 : Hp} {D : Addr} (a : Ext S H H1) (n : H D = none) (b : Ext [D] H1 H2) : Ext S H H2 := by
  refine ⟨fun c o e h m => ?_, fun c o e => b.tup c o (a.tup c o e), fun c o u e => b.frz c o u (a.frz c o u e), fun P h => b.tab P (a.tab P h), fun P ps h k => b.tbl P ps (a.tbl P ps h k) fun z => by
    have z' : P = D := by simpa using z
    rw [z', n] at h
    cases h⟩
  refine b.keep c o (a.keep c o e h m) (fun z => ?_) m
  have z' : c = D := by simpa using z
  rw [z', n] at e
  cases e
theorem DiceAt.ext0 {H H' : Hp} {a : Addr} (e : Ext [] H H') : DiceAt H a → DiceAt H' a := fun ⟨x, y, z, h⟩ => ⟨x, y, z, e.lst0 h⟩
theorem hideS_eq {t : TS} : hideS t = t := rfl
end Sq
set_option Elab.async false
set_option linter.all false
set_option maxRecDepth 100000
set_option maxHeartbeats 2000000
namespace Sq
open PySem PySem.Spec PyProof.Rows L2
/-- a statement that is never reached -/
def tNever : TS := fun _ _ _ => False
theorem ps_never {X : Cx} {st : Stmt} : PS X st tNever := ⟨fun _ _ _ _ _ _ h => h.elim⟩
def iEnumL (K : PySem.W.Frag) (ta : TA) : TI := fun σ H R => ta σ H fun vs H1 => ∃ a xs, vs = [.ref a] ∧ H1 a = some (.lst xs) ∧ R (Ite K a) H1
theorem pi_enumLK {X : Cx} (K : PySem.W.Frag) {e : Expr} {ta : TA} {p pos tpos : Pos} {elts : List Expr} {kk : Nat} (hg : Gl X "enumerate") (hm : X.mg "enumerate" = none) (ha : PA X [e] ta) (hs : starEach [e] X.env = [(false, eval e X.env)] := by rfl) (hK : X.K = K := by rfl) :
    PI X (.Tuple elts kk tpos) (.Call (.Name "enumerate" p) [e] [] pos) (iEnumL K ta) := by
  subst hK
  have ha2 : PA X [e] (fun σ H k => ∃ k', ta σ H k' ∧ ∀ vs H1, k' vs H1 → k vs H1) := ⟨fun pos pins s σ H Q I ⟨k', h, m⟩ => thn (ha.run pos pins s σ H _ I h) fun us s1 ⟨vs, H1, I1, r1, q1⟩ => ⟨vs, H1, I1, r1, m _ _ q1⟩⟩
  exact ⟨fun pins s σ H R I h => (pi_enum hg hm ha2 hs).run pins s σ H R I ⟨_, h, fun vs H1 ⟨a, xs, e, hq, q⟩ => ⟨a, xs, e, SqL.of hq, q⟩⟩⟩
end Sq
set_option Elab.async false
set_option linter.all false
set_option maxRecDepth 100000
set_option maxHeartbeats 2000000
namespace Sq
open PySem PySem.Spec PyProof.Rows L2
/-! ### the constants of formulas and terms; texts -/
def namesT : Str := "abcdefghijklmnopqrstuvwxyz"
def joinsT : List Str := ["to", "both", "either"]
structure Gt (K : PySem.W.Frag) (w : World) (mg : Str → Option Value) (aJ aO aN aS : Addr) (uN : Value) : Prop where
  jc : mg "JOINS" = some (.ref aJ)
  jt : WrT K aJ (joinsT.map V.str)
  nc : mg "NAMES" = some uN
  nr : RelV (.str namesT) uN
  oc : mg "ONE" = some (.ref aO)
  ot : WrT K aO [.str "one"]
  zc : mg "NONE" = some (.ref aN)
  zt : WrT K aN [.str "none"]
  sc : mg "SHAPES" = some (.ref aS)
  st : Kd K w aS shapesL
theorem in_joins {t : Fm} : decide (t.hd ∈ joinsT) = t.isB := by
  have := Fm.hd_b (t := t)
  cases e : t.isB with
  | true => rw [e] at this; exact decide_eq_true (by simpa [joinsT] using this.mpr rfl)
  | false => rw [e] at this; exact decide_eq_false (fun z => by have := this.mp (by simpa [joinsT] using z); cases this)
theorem Fm.data_hd (t : Fm) : ∃ ds, t.data = .tuple (.str t.hd :: ds) := by cases t <;> exact ⟨_, rfl⟩
theorem unitsT {k : Nat} {A : Around} (r : Room k A) : A.units + 65 < cLine := by have := r.un; omega
theorem unitsP {k : Nat} {A : Around} (r : Room k A) : A.units + 90 < cLine := by have := r.un; omega
theorem unitsD {k : Nat} {A : Around} (r : Room k A) : A.units < cLine := by have := r.un; omega
theorem op_ninQ {X : Cx} (K : PySem.W.Frag) (hK : X.K = K := by rfl) : OpR X (compareOp .NotIn) (rIn K true) := by subst hK; exact op_notIn_seq
theorem op_inQ {X : Cx} (K : PySem.W.Frag) (hK : X.K = K := by rfl) : OpR X (compareOp .In) (rIn K false) := by subst hK; exact op_in_seq
/-- a text of signs -/
def stx (l : List Nat) : Str := ⟨l.toArray⟩
theorem stx_app (a b : List Nat) : stx a ++ stx b = stx (a ++ b) := by
  show Str.mk (a.toArray ++ b.toArray) = _
  unfold stx
  simp
theorem stx_len (a : List Nat) : (stx a).length = a.length := by show (stx a).cps.size = _; simp [stx]
theorem stx_list (x : Str) : stx x.cps.toList = x := by simp [stx]
theorem stx_inj {a b : List Nat} (h : stx a = stx b) : a = b := by
  have := congrArg (fun x : Str => x.cps.toList) h
  simpa [stx] using this
theorem room_tx {a b : Nat} (h : a ≤ 40000) (k : b ≤ 40000) : a + b ≤ sizeLine := by
  have : (100000 : Nat) ≤ sizeLine := by decide
  omega
def ftell (l : Nat) (f : Fm) : Str := stx (f.tell l)
theorem tell_len : ∀ (f : Fm) (l : Nat), (∀ x ∈ f.names, x.length = 1) → (f.tell l).length ≤ 4 * f.sz
  | .name x, l, h => by
    have := h x (by simp [Fm.names])
    show x.cps.toList.length ≤ 4
    rw [Array.length_toList]
    have : x.cps.size = 1 := this
    omega
  | .one, l, _ => by simp [Fm.tell, Fm.sz]
  | .none, l, _ => by simp [Fm.tell, Fm.sz]
  | .bin j s t, l, h => by
    have h1 := tell_len s j.ll fun x hx => h x (List.mem_append_left _ hx)
    have h2 := tell_len t j.rl fun x hx => h x (List.mem_append_right _ hx)
    unfold Fm.tell
    split <;> simp only [List.length_append, List.length_cons, List.length_nil, Fm.sz] <;> omega
theorem abc_len {x : Str} (h : x ∈ ABC) : x.length = 1 := by
  rcases abc_in h with e | e | e <;> subst e <;> decide +kernel
theorem abc_let {x : Str} (h : x ∈ ABC) : Let x := by
  rcases abc_in h with e | e | e <;> subst e
  · exact ⟨97, by decide +kernel, by decide, by decide⟩
  · exact ⟨98, by decide +kernel, by decide, by decide⟩
  · exact ⟨99, by decide +kernel, by decide, by decide⟩
theorem tell_le {f : Fm} (h : AbcF f) (hd : f.dep ≤ 12) (l : Nat) : (f.tell l).length ≤ 16384 := by
  have h1 := tell_len f l fun x hx => abc_len (h x hx)
  have h2 := Fm.sz_le f
  have h3 : 2 ^ f.dep ≤ 2 ^ 12 := Nat.pow_le_pow_right (by omega) hd
  omega
end Sq
set_option Elab.async false
set_option linter.all false
set_option maxRecDepth 100000
set_option maxHeartbeats 2000000
namespace Sq
open PySem PySem.Spec PyProof.Rows L2 RZ
/-! ### defs that may raise -/
abbrev CxDX (P : Program) (w : World) (K : PySem.W.Frag) (mg : Str → Option Value) (base : Heap) (N : List Str) (x : Str) (st : Stmt) (f c : Addr) (A : Around) (outer : List Env) (s : Shared) (H : Hp) (E : XK) : Cx :=
  cxOf (L2.CX P w) P w K mg base N x (defScope st) f (.ref c) A outer s H E
structure CalX (P : Program) (w : World) (K : PySem.W.Frag) (mg : Str → Option Value) (base : Heap) (k : Nat) (x : Str) (sp : Sp) : Prop where
  ex : ∃ (f : Addr) (fd : FuncData) (ps : List Str), FnOk P w K mg base (L2.CX P w) k f fd ps sp ∧ mg x = some (.ref f) ∧ PySem.W.keepIn K (.ref f) = true ∧ Binds K fd ps []
section
variable {P : Program} {w : World} {K : PySem.W.Frag} {mg : Str → Option Value} {base : Heap} {x y : Str} {st : Stmt} {f c : Addr} {fd : FuncData} {N ps : List Str} {k : Nat} {sp : Sp}
theorem Dn.okX (F : Dn K mg x st f fd c) (S : FnScope N ps (defScope st)) (len : ∀ vs H Q E, sp vs H Q E → vs.length = ps.length)
    (hbody : ∀ (A : Around) (outer : List Env) (s : Shared) (H : Hp) (vs : List V) (Q : VK) (E : XK), Room k (A.deeper (envOfC x (defScope st) s.heap.objs.size f (.ref c))) → sp vs H Q E →
      ∃ t, PSs (CxDX P w K mg base N x st f c A outer s H E) (defBody st) t ∧ t { nx := fun _ H' => Q .non H', rt := Q } (start N vs) H) : FnOk P w K mg base (L2.CX P w) (k + 1) f fd ps sp := by
  obtain ⟨oc, od, kV, doc, pm, an, ct, osl, rfl, lk, hcd⟩ := F.ex
  exact fn_of lk hcd S len fun A outer s H vs Q E hr hsp => hbody A outer s H vs Q E hr hsp
theorem Dn.calX (F : Dn K mg x st f fd c) (hb : BindOk x st ps) (S : FnScope N ps (defScope st)) (len : ∀ vs H Q E, sp vs H Q E → vs.length = ps.length)
    (hbody : ∀ (A : Around) (outer : List Env) (s : Shared) (H : Hp) (vs : List V) (Q : VK) (E : XK), Room k (A.deeper (envOfC x (defScope st) s.heap.objs.size f (.ref c))) → sp vs H Q E →
      ∃ t, PSs (CxDX P w K mg base N x st f c A outer s H E) (defBody st) t ∧ t { nx := fun _ H' => Q .non H', rt := Q } (start N vs) H) : CalX P w K mg base (k + 1) x sp :=
  ⟨f, fd, ps, F.okX S len hbody, F.mgf, F.kp, F.binds hb⟩
theorem Dn.calXRec {sp : Nat → Sp} (F : Dn K mg x st f fd c) (hb : BindOk x st ps) (h0 : ∀ vs H Q E, ¬ sp 0 vs H Q E) (hs : ∀ k, CalX P w K mg base k x (sp k) → FnOk P w K mg base (L2.CX P w) (k + 1) f fd ps (sp (k + 1))) :
    ∀ k, CalX P w K mg base k x (sp k)
  | 0 => ⟨f, fd, ps, ⟨fun vs H Q E h => absurd h (h0 vs H Q E), fun A outer s H args us vs Q E _ _ _ _ h => absurd h (h0 vs H Q E)⟩, F.mgf, F.kp, F.binds hb⟩
  | k + 1 => ⟨f, fd, ps, hs k (Dn.calXRec F hb h0 hs k), F.mgf, F.kp, F.binds hb⟩
theorem CalX.mono {j : Nat} (h : CalX P w K mg base j x sp) (hk : j ≤ k) : CalX P w K mg base k x sp := by
  obtain ⟨f, fd, ps, F, r⟩ := h.ex
  exact ⟨f, fd, ps, ⟨F.len, fun A outer s H args us vs Q E hr => F.run A outer s H args us vs Q E (hr.mono hk)⟩, r⟩
/-- where it raises nothing -/
theorem CalX.cal {sp0 : Sp} (C : CalX P w K mg base k x sp) (h : ∀ vs H Q E, sp0 vs H Q E → sp vs H Q C8.E0) : Cal P w K mg base k x sp0 := by
  obtain ⟨f, fd, ps, F, hm, kp, hb⟩ := C.ex
  refine ⟨f, fd, ps, [], ⟨fun vs H Q E z => F.len _ _ _ _ (h vs H Q E z), fun A outer s H args us vs Q E hr e0 bd r z => ?_⟩, hm, kp, hb, .nil⟩
  refine codeAny_mono (F.run A outer s H args us vs Q C8.E0 hr e0 bd r (h vs H Q E z)) fun q s' hq => ?_
  cases q with
  | error e =>
    obtain ⟨_, _, _, _, _, _, _, _, _, _, _, _, z⟩ := hq
    exact z.elim
  | ok fl => cases fl <;> exact hq
theorem pe_cX {X : Cx} {k j : Nat} {x : Str} {sp : Sp} {p pos : Pos} {e : Expr} {es : List Expr} {t : TA} {W : WX} {E : XK} (c : CalX X.prog X.w X.K X.mg X.base k x sp) (hr : Room j X.A) (hk : k ≤ j) (tk : Takes X W) (hW : ∀ cls d σ H, E cls d H → W cls d σ H) (hg : Gl X x) (ha : PA X (e :: es) t)
    (hdb : (x == ("__debug__" : Str)) = false := by decide) (he : starEach (e :: es) X.env = (false, eval e X.env) :: starEach es X.env := by rfl) (hpl : (backTo pos (starEach es X.env)).any (·.1) = false := by rfl) :
    PE X (.Call (.Name x p) (e :: es) [] pos) (tCall sp [] E t) := by
  obtain ⟨f, fd, ps, F, hm, kp, hb⟩ := c.ex
  exact pe_call F (hr.mono hk) hg hm kp hb .nil (passes_call tk hW) ha hdb he hpl
end
/-- an exception class of the program over ValueError -/
structure Xc (K : PySem.W.Frag) (mg : Str → Option Value) (x : Str) (C : Addr) : Prop where
  g : mg x = some (.ref C)
  k : PySem.W.keepIn K (.ref C) = true
  e : PySem.W.excIn K C [.type "ValueError", .type "Exception", .type "BaseException", .type "object"] "ValueError.__new__" = true
  s : PySem.W.subIn K (.ref C) (.type "BaseException") = some true
  t : PySem.W.typeIn K (.ref C) = some (.type "type")
theorem ps_raiseX {X : Cx} {W : WX} {K : PySem.W.Frag} {mg : Str → Option Value} {x m : Str} {C : Addr} {j : Nat} {p p2 pos pos2 : Pos} (B : Xc K mg x C) (tk : Takes X W) (hc : X.calm = true := by rfl) (hg : Gl X x := by rfl) (hdb : (x == ("__debug__" : Str)) = false := by decide) (hK : X.K = K := by rfl) (hm : X.mg = mg := by rfl) :
    PS X (.Raise (some (.Call (.Name x p) [.Constant (.str m) j p2] [] pos)) none pos2) (fun _ σ H => W (.ref C) none σ H) := by
  subst hK hm
  exact ps_raise hc tk (pmk_own PySem.F.excBase_ValueError B.e B.g B.k (raises_own B.s B.t) hg hdb)
end Sq
set_option Elab.async false
set_option linter.all false
set_option maxRecDepth 100000
set_option maxHeartbeats 2000000
namespace Sq
open PySem PySem.Spec PyProof.Rows L2 RZ
/-! ### xs[k] += e -/
def rGetN : V → V → Hp → VK → Prop := fun x y H Q => ∃ p xs k v, x = .ref p ∧ y = .int k ∧ H p = some (.lst xs) ∧ 0 ≤ k ∧ xs[k.toNat]? = some v ∧ Q v H
theorem get_lstN {X : Cx} : PGet X rGetN := by
  intro pins s σ H x y ov iv Q I rx ry h
  obtain ⟨p, xs, k, z, rfl, rfl, hq, h0, he, q⟩ := h
  cases rx
  obtain ⟨t, rfl⟩ := ry
  obtain ⟨its, r, pl, hz⟩ := I.list (SqL.of hq)
  obtain ⟨w, ew, rw'⟩ := r.get he
  have hl := r.length
  have hn := line63
  have hk := (List.getElem?_eq_some_iff.mp he).1
  exact wpAny_getItem_list (Q := EP X pins σ Q) pl.isList h0 (by omega) (by simpa using ew) ⟨z, H, I, rw', q⟩
end Sq
set_option Elab.async false
set_option linter.all false
set_option maxRecDepth 100000
set_option maxHeartbeats 2000000
namespace Sq
open PySem PySem.Spec PyProof.Rows L2
/-! ### dicts of names, of values that are told by themselves (whole numbers, names) -/
section
variable {α : Type}
def lkG : List (Str × α) → Str → Option α
  | [], _ => none
  | (m, t) :: l, n => if m = n then some t else lkG l n
def putG (l : List (Str × α)) (n : Str) (t : α) : List (Str × α) := if (lkG l n).isSome then l.map (fun p => if p.1 = n then (p.1, t) else p) else l ++ [(n, t)]
def kvG (g : α → V) (l : List (Str × α)) : List (Key × V) := l.map fun p => (Sum.inr p.1, g p.2)
theorem kvG_len (g : α → V) (l : List (Str × α)) : (kvG g l).length = l.length := List.length_map _
theorem kvG_val {g : α → V} {n : Str} : ∀ l : List (Str × α), valV (kvG g l) (.inr n) = (lkG l n).map g
  | [] => rfl
  | (m, t) :: l => by
    show valV ((Sum.inr m, g t) :: kvG g l) (.inr n) = _
    by_cases e : m = n
    · rw [valV_pos (by rw [e])]; simp [lkG, e]
    · rw [valV_neg (fun z => e (Sum.inr.inj z)), kvG_val l]; simp only [lkG, if_neg e]
theorem kvG_put {g : α → V} {n : Str} {t : α} (l : List (Str × α)) : putK (kvG g l) (.inr n) (g t) = kvG g (putG l n t) := by
  unfold putK putG
  rw [valV_any, kvG_val]
  cases e : lkG l n with
  | none => simp [kvG]
  | some u =>
    simp only [Option.map_some, Option.isSome_some, if_true, kvG, List.map_map]
    refine List.map_congr_left fun p _ => ?_
    by_cases h : p.1 = n
    · simp [h]
    · simp only [Function.comp, if_neg h, if_neg (fun z => h (Sum.inr.inj z) : ¬ (Sum.inr p.1 : Key) = Sum.inr n)]
theorem lkG_over {n : Str} {t : α} (x : Str) : ∀ l : List (Str × α), lkG (l.map fun p => if p.1 = n then (p.1, t) else p) x = if x = n then (lkG l x).map (fun _ => t) else lkG l x
  | [] => by simp [lkG]
  | (m, u) :: l => by
    have ih := lkG_over (n := n) (t := t) x l
    rw [List.map_cons]
    by_cases e : m = n
    · subst e
      simp only [if_true, lkG]
      by_cases h : m = x
      · subst h; simp
      · have : ¬ x = m := fun z => h z.symm
        simp only [if_neg h, if_neg this]; rw [ih, if_neg this]
    · simp only [if_neg e, lkG]
      by_cases h : m = x
      · subst h; simp [e]
      · simp only [if_neg h]; exact ih
theorem lkG_snoc {n : Str} {t : α} (x : Str) : ∀ {l : List (Str × α)}, lkG l n = none → lkG (l ++ [(n, t)]) x = if x = n then some t else lkG l x
  | [], _ => by
    by_cases e : x = n
    · subst e; simp [lkG]
    · have : ¬ n = x := fun z => e z.symm
      simp [lkG, e, this]
  | (m, u) :: l, h => by
    simp only [lkG] at h
    split at h
    · cases h
    · rename_i hk
      have ih := lkG_snoc (t := t) x h
      simp only [List.cons_append, lkG]
      by_cases e : m = x
      · have : ¬ x = n := fun z => hk (e.trans z)
        simp [e, this]
      · simp only [if_neg e]; exact ih
theorem lkG_put {n : Str} {t : α} (l : List (Str × α)) (x : Str) : lkG (putG l n t) x = if x = n then some t else lkG l x := by
  unfold putG
  cases e : lkG l n with
  | none => simp only [Option.isSome_none, Bool.false_eq_true, if_false]; exact lkG_snoc x e
  | some u =>
    simp only [Option.isSome_some, if_true]
    rw [lkG_over]
    by_cases h : x = n
    · subst h; simp [e]
    · simp [h]
theorem putG_len {n : Str} {t : α} (l : List (Str × α)) : (putG l n t).length ≤ l.length + 1 := by
  unfold putG
  split <;> simp
end
end Sq
set_option Elab.async false
set_option linter.all false
set_option maxRecDepth 100000
set_option maxHeartbeats 2000000
namespace Sq
open PySem PySem.Spec PyProof.Rows L2
/-! ### formulas over things -/
inductive Qf
  | rel (r x : Str)
  | same (x y : Str)
  | not (f : Qf)
  | bin (b : Bool) (f g : Qf)
  | qu (b : Bool) (x : Str) (f : Qf)
deriving DecidableEq
def tv (x : Str) : PyData := .tuple [.str "v", .str x]
def bnm (b : Bool) : Str := if b then "and" else "or"
def qnm (b : Bool) : Str := if b then "all" else "some"
def up (env : Str → Nat) (x : Str) (k : Nat) : Str → Nat := fun y => if y = x then k else env y
namespace Qf
def data : Qf → PyData
  | rel r x => .tuple [.str "rel", .str r, .tuple [tv x]]
  | same x y => .tuple [.str "same", tv x, tv y]
  | not f => .tuple [.str "not", f.data]
  | bin b f g => .tuple [.str (bnm b), f.data, g.data]
  | qu b x f => .tuple [.str (qnm b), .str x, f.data]
def hd : Qf → Str
  | rel _ _ => "rel"
  | same _ _ => "same"
  | not _ => "not"
  | bin b _ _ => bnm b
  | qu b _ _ => qnm b
def dep : Qf → Nat
  | rel _ _ => 1
  | same _ _ => 1
  | not f => f.dep + 1
  | bin _ f g => max f.dep g.dep + 1
  | qu _ _ f => f.dep + 1
theorem dep_pos : ∀ f : Qf, 1 ≤ f.dep := fun f => by cases f <;> simp [dep]
/-- names that are open -/
def fv : Qf → List Str
  | rel _ x => [x]
  | same x y => [x, y]
  | not f => f.fv
  | bin _ f g => f.fv ++ g.fv
  | qu _ x f => f.fv.filter fun y => decide (y ≠ x)
/-- all names -/
def nms : Qf → List Str
  | rel _ x => [x]
  | same x y => [x, y]
  | not f => f.nms
  | bin _ f g => f.nms ++ g.nms
  | qu _ x f => x :: f.nms
def rels : Qf → List Str
  | rel r _ => [r]
  | same _ _ => []
  | not f => f.rels
  | bin _ f g => f.rels ++ g.rels
  | qu _ _ f => f.rels
/-- how many quantifiers, how deep -/
def qn : Qf → Nat
  | rel _ _ => 0
  | same _ _ => 0
  | not f => f.qn
  | bin _ f g => f.qn + g.qn
  | qu _ _ f => f.qn + 1
def qd : Qf → Nat
  | rel _ _ => 0
  | same _ _ => 0
  | not f => f.qd
  | bin _ f g => max f.qd g.qd
  | qu _ _ f => f.qd + 1
theorem qd_le : ∀ f : Qf, f.qd ≤ f.qn
  | rel _ _ => Nat.le_refl _
  | same _ _ => Nat.le_refl _
  | not f => f.qd_le
  | bin _ f g => by have := f.qd_le; have := g.qd_le; simp only [qd, qn]; omega
  | qu _ _ f => by have := f.qd_le; simp only [qd, qn]; omega
theorem fv_sub : ∀ f : Qf, ∀ x ∈ f.fv, x ∈ f.nms
  | rel _ _, x, h => h
  | same _ _, x, h => h
  | not f, x, h => fv_sub f x h
  | bin _ f g, x, h => by
    simp only [fv, nms, List.mem_append] at h ⊢
    exact h.imp (fv_sub f x) (fv_sub g x)
  | qu _ y f, x, h => by
    simp only [fv, nms, List.mem_filter, List.mem_cons] at h ⊢
    exact .inr (fv_sub f x h.1)
/-- whether it holds among things below n -/
def val (n : Nat) (R : Str → Nat → Bool) : (Str → Nat) → Qf → Bool
  | env, rel r x => R r (env x)
  | env, same x y => decide (env x = env y)
  | env, not f => !f.val n R env
  | env, bin true f g => f.val n R env && g.val n R env
  | env, bin false f g => f.val n R env || g.val n R env
  | env, qu true x f => (List.range n).all fun k => f.val n R (up env x k)
  | env, qu false x f => (List.range n).any fun k => f.val n R (up env x k)
variable {n : Nat} {R : Str → Nat → Bool}
theorem val_ext : ∀ (f : Qf) (e e' : Str → Nat), (∀ x ∈ f.fv, e x = e' x) → f.val n R e = f.val n R e'
  | rel r x, e, e', h => by simp only [val]; rw [h x (by simp [fv])]
  | same x y, e, e', h => by simp only [val]; rw [h x (by simp [fv]), h y (by simp [fv])]
  | not f, e, e', h => by simp only [val]; rw [val_ext f e e' h]
  | bin b f g, e, e', h => by
    have h1 := val_ext f e e' fun x hx => h x (by simp [fv, hx])
    have h2 := val_ext g e e' fun x hx => h x (by simp [fv, hx])
    cases b <;> simp only [val, h1, h2]
  | qu b x f, e, e', h => by
    have h1 : ∀ k, f.val n R (up e x k) = f.val n R (up e' x k) := fun k => val_ext f _ _ fun y hy => by
      unfold up
      by_cases q : y = x
      · rw [if_pos q, if_pos q]
      · rw [if_neg q, if_neg q]; exact h y (by simp [fv, hy, q])
    cases b <;> simp only [val, h1]
/-! nots inward -/
def inw : Bool → Qf → Qf
  | fl, rel r x => if fl then not (rel r x) else rel r x
  | fl, same x y => if fl then not (same x y) else same x y
  | fl, not f => inw (!fl) f
  | fl, bin b f g => bin (if fl then !b else b) (inw fl f) (inw fl g)
  | fl, qu b x f => qu (if fl then !b else b) x (inw fl f)
theorem val_inw : ∀ (f : Qf) (fl : Bool) (e : Str → Nat), (inw fl f).val n R e = if fl then !f.val n R e else f.val n R e
  | rel r x, fl, e => by cases fl <;> rfl
  | same x y, fl, e => by cases fl <;> rfl
  | not f, fl, e => by
    have := val_inw f (!fl) e
    cases fl <;> simp_all [inw, val]
  | bin b f g, fl, e => by
    have h1 := val_inw f fl e
    have h2 := val_inw g fl e
    cases fl <;> cases b <;> simp_all [inw, val]
  | qu b x f, fl, e => by
    have h1 : ∀ k, (inw fl f).val n R (up e x k) = if fl then !f.val n R (up e x k) else f.val n R (up e x k) := fun k => val_inw f fl _
    cases fl <;> cases b <;> simp [inw, val, h1, List.not_any_eq_all_not, List.not_all_eq_any_not]
theorem inw_fv : ∀ (f : Qf) (fl : Bool), (inw fl f).fv = f.fv
  | rel r x, fl => by cases fl <;> rfl
  | same x y, fl => by cases fl <;> rfl
  | not f, fl => inw_fv f _
  | bin b f g, fl => by simp only [inw, fv, inw_fv f fl, inw_fv g fl]
  | qu b x f, fl => by simp only [inw, fv, inw_fv f fl]
theorem inw_nms : ∀ (f : Qf) (fl : Bool), (inw fl f).nms = f.nms
  | rel r x, fl => by cases fl <;> rfl
  | same x y, fl => by cases fl <;> rfl
  | not f, fl => inw_nms f _
  | bin b f g, fl => by simp only [inw, nms, inw_nms f fl, inw_nms g fl]
  | qu b x f, fl => by simp only [inw, nms, inw_nms f fl]
theorem inw_rels : ∀ (f : Qf) (fl : Bool), (inw fl f).rels = f.rels
  | rel r x, fl => by cases fl <;> rfl
  | same x y, fl => by cases fl <;> rfl
  | not f, fl => inw_rels f _
  | bin b f g, fl => by simp only [inw, rels, inw_rels f fl, inw_rels g fl]
  | qu b x f, fl => by simp only [inw, rels, inw_rels f fl]
theorem inw_qn : ∀ (f : Qf) (fl : Bool), (inw fl f).qn = f.qn
  | rel r x, fl => by cases fl <;> rfl
  | same x y, fl => by cases fl <;> rfl
  | not f, fl => inw_qn f _
  | bin b f g, fl => by simp only [inw, qn, inw_qn f fl, inw_qn g fl]
  | qu b x f, fl => by simp only [inw, qn, inw_qn f fl]
theorem inw_dep : ∀ (f : Qf) (fl : Bool), (inw fl f).dep ≤ f.dep + 1
  | rel r x, fl => by cases fl <;> simp [inw, dep]
  | same x y, fl => by cases fl <;> simp [inw, dep]
  | not f, fl => by have := inw_dep f (!fl); simp only [inw, dep]; omega
  | bin b f g, fl => by have := inw_dep f fl; have := inw_dep g fl; simp only [inw, dep]; omega
  | qu b x f, fl => by have := inw_dep f fl; simp only [inw, dep]; omega
/-- nots stand ahead of relations and sames alone -/
def nnf : Qf → Bool
  | rel _ _ => true
  | same _ _ => true
  | not (rel _ _) => true
  | not (same _ _) => true
  | not _ => false
  | bin _ f g => f.nnf && g.nnf
  | qu _ _ f => f.nnf
theorem inw_nnf : ∀ (f : Qf) (fl : Bool), (inw fl f).nnf = true
  | rel r x, fl => by cases fl <;> rfl
  | same x y, fl => by cases fl <;> rfl
  | not f, fl => inw_nnf f _
  | bin b f g, fl => by simp only [inw, nnf, inw_nnf f fl, inw_nnf g fl, Bool.and_self]
  | qu b x f, fl => by simp only [inw, nnf, inw_nnf f fl]
/-! the kinds that stand in a formula, as the law tells them -/
def kds : Qf → List Str
  | rel _ _ => ["rel"]
  | same _ _ => ["same"]
  | not f => (Str.ofString "not " ++ f.hd) :: f.kds
  | bin b f g => bnm b :: (f.kds ++ g.kds)
  | qu b _ f => qnm b :: f.kds
def isQ (s : Str) : Bool := decide (s ∈ (["all", "some"] : List Str))
theorem isQ_not (f : Qf) : isQ (Str.ofString "not " ++ f.hd) = false := by
  cases f with
  | bin b f g => cases b <;> simp only [hd] <;> decide +kernel
  | qu b x f => cases b <;> simp only [hd] <;> decide +kernel
  | rel => simp only [hd]; decide +kernel
  | same => simp only [hd]; decide +kernel
  | not => simp only [hd]; decide +kernel
theorem kds_qn : ∀ f : Qf, (f.kds.filter isQ).length = f.qn
  | rel _ _ => by simp only [kds, qn]; decide +kernel
  | same _ _ => by simp only [kds, qn]; decide +kernel
  | not f => by
    simp only [kds, qn]
    rw [List.filter_cons, isQ_not, if_neg (by decide), kds_qn f]
  | bin b f g => by
    simp only [kds, qn]
    rw [List.filter_cons, show isQ (bnm b) = false by cases b <;> decide +kernel, if_neg (by decide), List.filter_append, List.length_append, kds_qn f, kds_qn g]
  | qu b x f => by
    simp only [kds, qn]
    rw [List.filter_cons, show isQ (qnm b) = true by cases b <;> decide +kernel, if_pos rfl, List.length_cons, kds_qn f]
/-- a not that stands elsewhere -/
def badN (s : Str) : Bool := decide ((⟨(s.cps.toList.take 3).toArray⟩ : Str) = Str.ofString "not") && !decide (s ∈ (["not rel", "not same"] : List Str))
theorem kds_nnf : ∀ f : Qf, f.nnf = true → f.kds.filter badN = []
  | rel _ _, _ => by simp only [kds]; decide +kernel
  | same _ _, _ => by simp only [kds]; decide +kernel
  | not (rel r x), _ => by simp only [kds, hd]; decide +kernel
  | not (same x y), _ => by simp only [kds, hd]; decide +kernel
  | not (not f), h => by cases h
  | not (bin b f g), h => by cases h
  | not (qu b x f), h => by cases h
  | bin b f g, h => by
    simp only [nnf, Bool.and_eq_true] at h
    simp only [kds]
    rw [List.filter_cons, show badN (bnm b) = false by cases b <;> decide +kernel, if_neg (by decide), List.filter_append, kds_nnf f h.1, kds_nnf g h.2]; rfl
  | qu b x f, h => by
    simp only [kds]
    rw [List.filter_cons, show badN (qnm b) = false by cases b <;> decide +kernel, if_neg (by decide)]
    exact kds_nnf f h
end Qf
end Sq
set_option Elab.async false
set_option linter.all false
set_option maxRecDepth 100000
set_option maxHeartbeats 2000000
namespace Sq
open PySem PySem.Spec PyProof.Rows L2
/-! ### a name put in an open one's place -/
def qS (s : Str) : Nat → Str
  | 0 => s
  | k + 1 => qS s k ++ "q"
theorem len_app (a b : Str) : (a ++ b).length = a.length + b.length := by
  show (a.cps ++ b.cps).size = a.cps.size + b.cps.size
  exact Array.size_append
theorem qS_len (s : Str) : ∀ k, (qS s k).length = s.length + k
  | 0 => rfl
  | k + 1 => by
    show (qS s k ++ "q").length = _
    rw [len_app, qS_len s k]; rfl
theorem qS_inj {s : Str} {i j : Nat} (h : qS s i = qS s j) : i = j := by
  have := congrArg Str.length h
  rw [qS_len, qS_len] at this
  omega
theorem strOk_app {a b : Str} (h : PyData.strOk a = true) (k : PyData.strOk b = true) : PyData.strOk (a ++ b) = true := by
  show (a.cps ++ b.cps).all _ = true
  rw [Array.all_append, Bool.and_eq_true]
  exact ⟨h, k⟩
theorem qS_ok {s : Str} (h : PyData.strOk s = true) : ∀ k, PyData.strOk (qS s k) = true
  | 0 => h
  | k + 1 => strOk_app (qS_ok h k) (by decide +kernel)
theorem qS_few {s : Str} {ns : List Str} {k : Nat} (h : ∀ j, j < k → qS s j ∈ ns) : k ≤ ns.length := by
  have nd : ((List.range k).map fun j => qS s j).Nodup := by
    refine List.pairwise_iff_getElem.mpr fun i j hi hj hij e => ?_
    simp only [List.getElem_map, List.getElem_range] at e
    have := qS_inj e
    omega
  have := nodup_sub nd (m := ns) fun x hx => by
    obtain ⟨j, hj, rfl⟩ := List.mem_map.mp hx
    rw [List.mem_range] at hj
    exact h j hj
  simpa using this
def NmB (L : Nat) (z : Str) : Prop := PyData.strOk z = true ∧ z.length ≤ L
theorem NmB.up {L M : Nat} {z : Str} (h : NmB L z) (k : L ≤ M) : NmB M z := ⟨h.1, Nat.le_trans h.2 k⟩
namespace Qf
theorem fv_len : ∀ f : Qf, f.fv.length ≤ 2 ^ f.dep
  | rel _ _ => by simp [fv, dep]
  | same _ _ => by simp [fv, dep]
  | not f => by
    have := fv_len f
    have h2 : 2 ^ f.dep ≤ 2 ^ (f.dep + 1) := Nat.pow_le_pow_right (by omega) (by omega)
    simp only [fv, dep]; omega
  | bin _ f g => by
    have h1 := fv_len f
    have h2 := fv_len g
    have h3 : 2 ^ f.dep ≤ 2 ^ (max f.dep g.dep) := Nat.pow_le_pow_right (by omega) (by omega)
    have h4 : 2 ^ g.dep ≤ 2 ^ (max f.dep g.dep) := Nat.pow_le_pow_right (by omega) (by omega)
    simp only [fv, dep, List.length_append, Nat.pow_succ]; omega
  | qu _ x f => by
    have := fv_len f
    have h2 : 2 ^ f.dep ≤ 2 ^ (f.dep + 1) := Nat.pow_le_pow_right (by omega) (by omega)
    have h3 := List.length_filter_le (fun y => decide (y ≠ x)) f.fv
    simp only [fv, dep]; omega
end Qf
/-- what put tells -/
structure PutQ (f : Qf) (x t : Str) (L : Nat) (f' : Qf) : Prop where
  v : ∀ n R e, f'.val n R e = f.val n R (up e x (e t))
  id : x ∉ f.fv → f' = f
  dep : f'.dep = f.dep
  rels : f'.rels = f.rels
  nm : ∀ z ∈ f'.nms, NmB (L + 40 * 2 ^ f.dep - 40) z
  fv : ∀ z ∈ f'.fv, z = t ∨ z ∈ f.fv ∧ z ≠ x
section
variable {f g f' g' f1 f2 : Qf} {x t z r new : Str} {L : Nat} {b : Bool}
theorem two_pos (d : Nat) : 1 ≤ 2 ^ d := Nat.one_le_two_pow
theorem up_ne {e : Str → Nat} {x y : Str} {k : Nat} (h : y ≠ x) : up e x k y = e y := by unfold up; rw [if_neg h]
theorem up_eq {e : Str → Nat} {x : Str} {k : Nat} : up e x k x = k := by unfold up; rw [if_pos rfl]
theorem up_put {e : Str → Nat} {x t y : Str} : e (if y = x then t else y) = up e x (e t) y := by
  unfold up
  by_cases h : y = x
  · rw [if_pos h, if_pos h]
  · rw [if_neg h, if_neg h]
theorem put_sw (x t y : Str) : (if y = x then t else y) = y ∨ (if y = x then t else y) = t := by
  by_cases h : y = x
  · rw [if_pos h]; exact .inr rfl
  · rw [if_neg h]; exact .inl rfl
theorem PutQ.rel (ht : NmB L t) (hz : NmB L z) : PutQ (.rel r z) x t L (.rel r (if z = x then t else z)) := by
  refine ⟨fun n R e => ?_, fun h => ?_, rfl, rfl, fun w hw => ?_, fun w hw => by
    simp only [Qf.fv, List.mem_singleton] at hw ⊢
    by_cases q : z = x
    · rw [if_pos q] at hw; exact .inl hw
    · rw [if_neg q] at hw; exact .inr ⟨hw, fun e => q (hw.symm.trans e)⟩⟩
  · simp only [Qf.val]; rw [up_put (e := e)]
  · have : ¬ z = x := fun e => h (by simp [Qf.fv, e])
    rw [if_neg this]
  · have hw : w = if z = x then t else z := by simpa [Qf.nms] using hw
    rw [hw]
    simp only [Qf.dep]
    rcases put_sw x t z with e | e <;> rw [e]
    · exact hz.up (by omega)
    · exact ht.up (by omega)
theorem PutQ.same (ht : NmB L t) (hz : NmB L z) (hr : NmB L r) : PutQ (.same z r) x t L (.same (if z = x then t else z) (if r = x then t else r)) := by
  refine ⟨fun n R e => ?_, fun h => ?_, rfl, rfl, fun w hw => ?_, fun w hw => by
    simp only [Qf.fv, List.mem_cons, List.not_mem_nil, or_false] at hw ⊢
    rcases hw with hw | hw
    · by_cases q : z = x
      · rw [if_pos q] at hw; exact .inl hw
      · rw [if_neg q] at hw; exact .inr ⟨.inl hw, fun e => q (hw.symm.trans e)⟩
    · by_cases q : r = x
      · rw [if_pos q] at hw; exact .inl hw
      · rw [if_neg q] at hw; exact .inr ⟨.inr hw, fun e => q (hw.symm.trans e)⟩⟩
  · simp only [Qf.val]; rw [up_put (e := e), up_put (e := e)]
  · have h1 : ¬ z = x := fun e => h (by simp [Qf.fv, e])
    have h2 : ¬ r = x := fun e => h (by simp [Qf.fv, e])
    rw [if_neg h1, if_neg h2]
  · have hw : w = (if z = x then t else z) ∨ w = (if r = x then t else r) := by simpa [Qf.nms] using hw
    simp only [Qf.dep]
    rcases hw with hw | hw
    · rw [hw]
      rcases put_sw x t z with e | e <;> rw [e]
      · exact hz.up (by omega)
      · exact ht.up (by omega)
    · rw [hw]
      rcases put_sw x t r with e | e <;> rw [e]
      · exact hr.up (by omega)
      · exact ht.up (by omega)
theorem pow_up {d d' : Nat} (h : d ≤ d') : L + 40 * 2 ^ d - 40 ≤ L + 40 * 2 ^ d' - 40 := by
  have := Nat.pow_le_pow_right (show 0 < 2 by omega) h
  omega
theorem PutQ.not (h : PutQ f x t L f') : PutQ (.not f) x t L (.not f') :=
  ⟨fun n R e => by simp only [Qf.val]; rw [h.v], fun hx => by rw [h.id hx], by simp only [Qf.dep, h.dep], h.rels, fun z hz => (h.nm z hz).up (pow_up (by simp only [Qf.dep]; omega)), h.fv⟩
theorem PutQ.bin (h : PutQ f x t L f') (k : PutQ g x t L g') : PutQ (.bin b f g) x t L (.bin b f' g') := by
  refine ⟨fun n R e => by cases b <;> simp only [Qf.val] <;> rw [h.v, k.v], fun hx => ?_, by simp only [Qf.dep, h.dep, k.dep], by simp only [Qf.rels, h.rels, k.rels], fun z hz => ?_, fun z hz => by
    simp only [Qf.fv, List.mem_append] at hz ⊢
    rcases hz with hz | hz
    · exact (h.fv z hz).imp (fun z => z) fun q => ⟨.inl q.1, q.2⟩
    · exact (k.fv z hz).imp (fun z => z) fun q => ⟨.inr q.1, q.2⟩⟩
  · simp only [Qf.fv, List.mem_append, not_or] at hx
    rw [h.id hx.1, k.id hx.2]
  · simp only [Qf.nms, List.mem_append] at hz
    rcases hz with hz | hz
    · exact (h.nm z hz).up (pow_up (by simp only [Qf.dep]; omega))
    · exact (k.nm z hz).up (pow_up (by simp only [Qf.dep]; omega))
theorem PutQ.qu1 (h : z = x ∨ x ∉ f.fv) (hn : ∀ w ∈ (Qf.qu b z f).nms, NmB L w) : PutQ (.qu b z f) x t L (.qu b z f) := by
  have hx : x ∉ (Qf.qu b z f).fv := fun m => by
    simp only [Qf.fv, List.mem_filter, decide_eq_true_eq] at m
    rcases h with h | h
    · exact m.2 h.symm
    · exact h m.1
  refine ⟨fun n R e => Qf.val_ext _ _ _ fun y hy => (up_ne fun (q : y = x) => hx (q ▸ hy)).symm, fun _ => rfl, rfl, rfl, fun w hw => (hn w hw).up ?_, fun w hw => .inr ⟨hw, fun e => hx (e ▸ hw)⟩⟩
  have := two_pos (Qf.qu b z f).dep
  omega
theorem PutQ.qu2 (hz : z ≠ x) (ht : t ≠ z) (nz : NmB L z) (h : PutQ f x t L f') : PutQ (.qu b z f) x t L (.qu b z f') := by
  have hv : ∀ n R e k, f'.val n R (up e z k) = f.val n R (up (up e x (e t)) z k) := fun n R e k => by
    rw [h.v, up_ne ht]
    refine Qf.val_ext _ _ _ fun y _ => ?_
    unfold up
    by_cases h1 : y = x
    · have : ¬ y = z := fun e => hz (e.symm.trans h1)
      rw [if_pos h1, if_neg this, if_pos h1]
    · rw [if_neg h1, if_neg h1]
  refine ⟨fun n R e => by cases b <;> simp only [Qf.val, hv], fun hx => ?_, by simp only [Qf.dep, h.dep], h.rels, fun w hw => ?_, fun w hw => by
    simp only [Qf.fv, List.mem_filter, decide_eq_true_eq] at hw ⊢
    exact (h.fv w hw.1).imp (fun z => z) fun q => ⟨⟨q.1, hw.2⟩, q.2⟩⟩
  · rw [h.id fun m => hx (by simp only [Qf.fv, List.mem_filter, decide_eq_true_eq]; exact ⟨m, fun e => hz e.symm⟩)]
  · have := two_pos (Qf.qu b z f).dep
    simp only [Qf.nms, List.mem_cons] at hw
    rcases hw with rfl | hw
    · exact nz.up (by omega)
    · exact (h.nm w hw).up (pow_up (by simp only [Qf.dep]; omega))
theorem PutQ.qu3 (hz : z ≠ x) (hx : x ∈ f.fv) (n1 : new ∉ f.fv) (n2 : new ≠ x) (n3 : new ≠ z) (nn : NmB (L + 35) new) (h1 : PutQ f z new (L + 35) f1) (h2 : PutQ f1 x z (L + 35 + 40 * 2 ^ f.dep - 40) f2) : PutQ (.qu b z f) x z L (.qu b new f2) := by
  have hv : ∀ n R e k, f2.val n R (up e new k) = f.val n R (up (up e x (e z)) z k) := fun n R e k => by
    rw [h2.v, h1.v]
    refine Qf.val_ext _ _ _ fun y hy => ?_
    have hy' : y ≠ new := fun e => n1 (e ▸ hy)
    by_cases h1 : y = z
    · subst h1
      rw [up_eq, up_eq, up_ne n2, up_eq]
    · rw [up_ne h1, up_ne h1]
      by_cases h2 : y = x
      · subst h2
        rw [up_eq, up_eq, up_ne n3.symm]
      · rw [up_ne h2, up_ne h2, up_ne hy']
  refine ⟨fun n R e => by cases b <;> simp only [Qf.val, hv], fun m => ?_, by simp only [Qf.dep, h2.dep, h1.dep], by simp only [Qf.rels]; rw [h2.rels, h1.rels], fun w hw => ?_, fun w hw => by
    simp only [Qf.fv, List.mem_filter, decide_eq_true_eq] at hw ⊢
    rcases h2.fv w hw.1 with q | ⟨q, q2⟩
    · exact .inl q
    · rcases h1.fv w q with p | ⟨p, p2⟩
      · exact absurd p hw.2
      · exact .inr ⟨⟨p, p2⟩, q2⟩⟩
  · exact absurd (by simp only [Qf.fv, List.mem_filter, decide_eq_true_eq]; exact ⟨hx, fun e => hz e.symm⟩) m
  · have p := two_pos f.dep
    simp only [Qf.nms, List.mem_cons] at hw
    simp only [Qf.dep, Nat.pow_succ]
    rcases hw with rfl | hw
    · exact nn.up (by omega)
    · have := h2.nm w hw
      rw [h1.dep] at this
      exact this.up (by omega)
end
end Sq
set_option Elab.async false
set_option linter.all false
set_option maxRecDepth 100000
set_option maxHeartbeats 2000000
namespace Sq
open PySem PySem.Spec PyProof.Rows L2
/-! ### rows of texts: in, sorted, text of a number behind -/
/-- a tuple or a list of texts -/
def SqS (K : PySem.W.Frag) (H : Hp) (p : Addr) (ns : List Str) : Prop := tupF K H p = some (ns.map V.str) ∨ H p = some (.lst (ns.map V.str))
def rInQ (K : PySem.W.Frag) (neg : Bool) : R2 := fun x y H Q => ∃ (n : Str) (p : Addr) (ns : List Str), x = .str n ∧ y = .ref p ∧ SqS K H p ns ∧ Q (.bl (if neg then !decide (n ∈ ns) else decide (n ∈ ns))) H
section
variable {X : Cx}
theorem op_inQS (K : PySem.W.Frag) (hK : X.K = K := by rfl) : OpR X (compareOp .In) (rInQ K false) := by
  subst hK
  intro pins s σ H x y v u Q I rx ry ⟨n, p, ns, e1, e2, h, q⟩
  subst e1 e2
  refine op_in_seq pins s σ H _ _ v u Q I rx ry ⟨p, ns.map V.str, rfl, ?_, rfl, flat_strs ns, ?_⟩
  · rcases h with h | h
    · exact .inr (tupF_sq h)
    · exact .inl (SqL.of h)
  · rw [inV_strs]; exact q
theorem op_ninQS (K : PySem.W.Frag) (hK : X.K = K := by rfl) : OpR X (compareOp .NotIn) (rInQ K true) := by
  subst hK
  intro pins s σ H x y v u Q I rx ry ⟨n, p, ns, e1, e2, h, q⟩
  subst e1 e2
  refine op_notIn_seq pins s σ H _ _ v u Q I rx ry ⟨p, ns.map V.str, rfl, ?_, rfl, flat_strs ns, ?_⟩
  · rcases h with h | h
    · exact .inr (tupF_sq h)
    · exact .inl (SqL.of h)
  · rw [inV_strs]; exact q
def rSrtQ (K : PySem.W.Frag) : List V → Hp → VK → Prop := fun xs H Q => ∃ (a : Addr) (ks : List Str), xs = [.ref a] ∧ SqS K H a ks ∧ ks.length < 64 ∧ ∀ ys p H2, ys.Perm ks → sortedS ys = true → H p = none → Ext [] H H2 → H2 p = some (.lst (ys.map V.str)) → Q (.ref p) H2
theorem call_sortedQ (K : PySem.W.Frag) (hK : X.K = K := by rfl) : CallR X (.builtin "sorted") (rSrtQ K) := by
  subst hK
  intro pins s σ H xs us Q I r ⟨a, ks, ex, h, h64, q⟩
  rcases h with h | h
  · subst ex
    obtain ⟨u, eu, rx⟩ := vals1 r
    subst eu
    cases rx
    obtain ⟨its, rv, ⟨o, ho, hc, n, hd⟩, hz⟩ := I.tuple (tupF_sq h)
    refine Calls.call_function_entry PyProof.Rows.kind_sorted PyProof.Rows.plain_sorted PyProof.Rows.entry_sorted (PyProof.Rows.args_sorted1 _) ?_
    unfold Builtin.«sorted»
    refine wpAny_bind (m := checkCount "sorted" 1 1 _) (wpAny_pure ?_)
    have hal : its.length = ks.length := by rw [← rv.length, List.length_map]
    refine wpAny_bind (wpAny_collect_seq (A := X.A.in1) a (.inr rfl) ho hc hd (fun h' hk => ?_) (by rw [List.size_toArray, hal, sizeLine_eq]; omega))
    have hS : StrsAre its ks := rv.strs
    have I1 : Inv X pins σ H { s with heap := h', toks := s.toks } := I.kept hk
    refine wpAny_bind (wpAny_newList ?_ (by simp; rw [hal, sizeLine_eq]; omega))
    have hoL : (h'.push (seqObj "list" its.toArray 0)).get? h'.objs.size = some (seqObj "list" its.toArray 0) := Heap.get?_push_size _ rfl
    show wpAny _ _ _ _ _ { s with heap := h'.push (seqObj "list" its.toArray 0) }
    refine wpAny_bind (wpAny_holding (wpAny_call_entry PyProof.Rows.slot_list_sort ⟨_, hoL, rfl⟩ PyProof.Rows.entry_list_sort
      (list_sort_treeK strKind_oneLt (s := { s with heap := h'.push (seqObj "list" its.toArray 0) }) hoL hS.keysOf (fun v₁ v₂ rest e => keyKind_strs (by rw [← e]; exact hS)) (by rw [hal]; exact h64) fun st' hp hs => ⟨_, rfl, ?_⟩)
      (PyProof.Rows.args_list_sort _)))
    obtain ⟨ys, g1, g2, g3⟩ := sorted_out_str hS hp hs
    obtain ⟨e', he'⟩ := PyProof.Rows.sortedHeap_at (vs := its) (out := (arrOf st').map (·.2)) hoL
    have hlen : (ys.map V.str).length ≤ sizeLine := by
      rw [List.length_map, g2.length_eq]
      exact Nat.le_trans (Nat.le_of_lt h64) (by decide)
    have hp0 := I1.hok.fresh (Nat.le_refl _)
    refine wpAny_pure ⟨_, rfl, .ref h'.objs.size, upd H h'.objs.size (.lst (ys.map V.str)), I1.laid (t' := s.toks) (fun b u e => ?_) (Nat.le_refl _)
      (show ObjOk X.prog X.w _ _ _ (.lst (ys.map V.str)) from ⟨hlen, ((arrOf st').map (·.2)).toList, e', vals_of_strs g1, by rw [Array.toArray_toList]; exact he'⟩), rfl, q ys _ _ g2 g3 hp0 (Ext.new hp0) upd_same⟩
    have hb : b < h'.objs.size := Heap.lt_size e
    rw [PyProof.Rows.sortedHeap_old (Nat.ne_of_lt hb) (by rw [size_push']; exact Nat.lt_succ_of_lt hb)]
    exact Heap.get?_push_of_some _ e
  · exact cr_sortedS pins s σ H xs us Q I r ⟨a, ks, ex, SqL.of h, h64, fun ys p g1 g2 g3 => q ys p _ g1 g2 g3 (Ext.new g3) upd_same⟩
end
def rStripC : V → List V → Hp → VK → Prop := fun x xs H Q => ∃ a b, x = .str a ∧ xs = [.str b] ∧ a.length ≤ sizeLine ∧ Q (.str (Txt.rstripChars a b)) H
theorem mt_rstripC {X : Cx} : MtR X "str.rstrip" rStripC := mt_rstripChars
/-! ### the text of a small number -/
def numS (k : Nat) : Str := (toString ((k : Nat) : Int) : String)
theorem numS_nodup : ((List.range 100).map numS).Nodup := by decide +kernel
theorem numS_small : ∀ k, k < 100 → (numS k).length ≤ 2 ∧ PyData.strOk (numS k) = true := by decide +kernel
theorem numS_inj {i j : Nat} (hi : i < 100) (hj : j < 100) (h : numS i = numS j) : i = j := by
  have nd := List.pairwise_iff_getElem.mp numS_nodup
  have key : ∀ a b, a < b → b < 100 → numS a ≠ numS b := fun a b hab hb e => nd a b (by simp; omega) (by simpa using hb) hab (by simpa using e)
  rcases Nat.lt_trichotomy i j with q | q | q
  · exact absurd h (key i j q hj)
  · exact q
  · exact absurd h.symm (key j i q hi)
theorem str_app_inj {a b c : Str} (h : a ++ b = a ++ c) : b = c := by
  have h1 : (a.cps ++ b.cps) = (a.cps ++ c.cps) := congrArg Str.cps h
  have h2 : b.cps = c.cps := by
    have := congrArg Array.toList h1
    rw [Array.toList_append, Array.toList_append] at this
    exact Array.toList_inj.mp (List.append_cancel_left this)
  cases b; cases c; simpa using h2
end Sq
set_option Elab.async false
set_option linter.all false
set_option maxRecDepth 100000
set_option maxHeartbeats 2000000
namespace Sq
open PySem PySem.Spec PyProof.Rows L2
/-! ### bound names told anew, quantifiers pulled out -/
def yS (k : Nat) : Str := Str.ofString "y" ++ numS k
theorem yS_inj {i j : Nat} (hi : i < 100) (hj : j < 100) (h : yS i = yS j) : i = j := numS_inj hi hj (str_app_inj h)
def ren (tb : List (Str × Str)) (x : Str) : Str := (lkG tb x).getD x
theorem ren_put {tb : List (Str × Str)} {x y z : Str} : ren (putG tb x y) z = if z = x then y else ren tb z := by
  unfold ren
  rw [lkG_put]
  by_cases h : z = x
  · rw [if_pos h, if_pos h]; rfl
  · rw [if_neg h, if_neg h]
namespace Qf
def anew : Qf → List (Str × Str) → Nat → Qf × Nat
  | rel r x, tb, c => (rel r (ren tb x), c)
  | same x y, tb, c => (same (ren tb x) (ren tb y), c)
  | not f, tb, c => (not (f.anew tb c).1, (f.anew tb c).2)
  | bin b f g, tb, c => (bin b (f.anew tb c).1 (g.anew tb (f.anew tb c).2).1, (g.anew tb (f.anew tb c).2).2)
  | qu b x f, tb, c => (qu b (yS c) (f.anew (putG tb x (yS c)) (c + 1)).1, (f.anew (putG tb x (yS c)) (c + 1)).2)
theorem anew_cnt : ∀ (f : Qf) (tb : List (Str × Str)) (c : Nat), (f.anew tb c).2 = c + f.qn
  | rel _ _, _, _ => rfl
  | same _ _, _, _ => rfl
  | not f, tb, c => anew_cnt f tb c
  | bin b f g, tb, c => by simp only [anew, qn]; rw [anew_cnt g, anew_cnt f]; omega
  | qu b x f, tb, c => by simp only [anew, qn]; rw [anew_cnt f]; omega
theorem anew_dep : ∀ (f : Qf) (tb : List (Str × Str)) (c : Nat), (f.anew tb c).1.dep = f.dep
  | rel _ _, _, _ => rfl
  | same _ _, _, _ => rfl
  | not f, tb, c => by simp only [anew, dep, anew_dep f]
  | bin b f g, tb, c => by simp only [anew, dep, anew_dep f, anew_dep g]
  | qu b x f, tb, c => by simp only [anew, dep, anew_dep f]
theorem anew_rels : ∀ (f : Qf) (tb : List (Str × Str)) (c : Nat), (f.anew tb c).1.rels = f.rels
  | rel _ _, _, _ => rfl
  | same _ _, _, _ => rfl
  | not f, tb, c => by simp only [anew, rels, anew_rels f]
  | bin b f g, tb, c => by simp only [anew, rels, anew_rels f, anew_rels g]
  | qu b x f, tb, c => by simp only [anew, rels, anew_rels f]
theorem anew_nnf : ∀ (f : Qf) (tb : List (Str × Str)) (c : Nat), f.nnf = true → (f.anew tb c).1.nnf = true
  | rel _ _, _, _, _ => rfl
  | same _ _, _, _, _ => rfl
  | not (rel _ _), _, _, _ => rfl
  | not (same _ _), _, _, _ => rfl
  | not (not f), _, _, h => by cases h
  | not (bin _ f g), _, _, h => by cases h
  | not (qu _ _ f), _, _, h => by cases h
  | bin b f g, tb, c, h => by
    simp only [nnf, Bool.and_eq_true] at h
    simp only [anew, nnf, anew_nnf f _ _ h.1, anew_nnf g _ _ h.2, Bool.and_self]
  | qu b x f, tb, c, h => anew_nnf f _ _ h
/-- pulled out: the quantifiers from the left, the rest -/
def pull : Qf → List (Bool × Str) × Qf
  | qu b x f => ((b, x) :: f.pull.1, f.pull.2)
  | bin b f g => (f.pull.1 ++ g.pull.1, bin b f.pull.2 g.pull.2)
  | f => ([], f)
def lay : List (Bool × Str) → Qf → Qf
  | [], f => f
  | (b, x) :: r, f => qu b x (lay r f)
theorem pull_dep : ∀ f : Qf, f.pull.2.dep ≤ f.dep
  | rel _ _ => Nat.le_refl _
  | same _ _ => Nat.le_refl _
  | not _ => Nat.le_refl _
  | bin b f g => by have := pull_dep f; have := pull_dep g; simp only [pull, dep]; omega
  | qu b x f => by have := pull_dep f; simp only [pull, dep]; omega
theorem pull_len : ∀ f : Qf, f.nnf = true → f.pull.1.length = f.qn ∧ f.pull.2.qn = 0
  | rel _ _, _ => ⟨rfl, rfl⟩
  | same _ _, _ => ⟨rfl, rfl⟩
  | not (rel _ _), _ => ⟨rfl, rfl⟩
  | not (same _ _), _ => ⟨rfl, rfl⟩
  | not (not f), h => by cases h
  | not (bin _ f g), h => by cases h
  | not (qu _ _ f), h => by cases h
  | bin b f g, h => by
    simp only [nnf, Bool.and_eq_true] at h
    obtain ⟨a1, a2⟩ := pull_len f h.1
    obtain ⟨b1, b2⟩ := pull_len g h.2
    simp only [pull, qn, List.length_append, a1, a2, b1, b2]
    exact ⟨trivial, trivial⟩
  | qu b x f, h => by
    obtain ⟨a1, a2⟩ := pull_len f h
    simp only [pull, qn, List.length_cons, a1, a2]
    exact ⟨trivial, trivial⟩
theorem lay_dep : ∀ (r : List (Bool × Str)) (f : Qf), (lay r f).dep = r.length + f.dep
  | [], f => by simp [lay]
  | (b, x) :: r, f => by simp only [lay, dep, lay_dep r f, List.length_cons]; omega
theorem lay_app : ∀ (r s : List (Bool × Str)) (f : Qf), lay (r ++ s) f = lay r (lay s f)
  | [], s, f => rfl
  | (b, x) :: r, s, f => by simp only [List.cons_append, lay, lay_app r s f]
theorem lay_rels : ∀ (r : List (Bool × Str)) (f : Qf), (lay r f).rels = f.rels
  | [], f => rfl
  | (b, x) :: r, f => lay_rels r f
variable {n : Nat} {R : Str → Nat → Bool}
theorem fv_lay : ∀ (r : List (Bool × Str)) (f : Qf), ∀ z ∈ (lay r f).fv, z ∈ f.fv
  | [], f, z, h => h
  | (b, x) :: r, f, z, h => by
    simp only [lay, fv, List.mem_filter] at h
    exact fv_lay r f z h.1
theorem val_congr_lay : ∀ (r : List (Bool × Str)) (f g : Qf), (∀ e, f.val n R e = g.val n R e) → ∀ e, (lay r f).val n R e = (lay r g).val n R e
  | [], f, g, h, e => h e
  | (b, x) :: r, f, g, h, e => by
    have := val_congr_lay r f g h
    cases b <;> simp only [lay, val, this]
theorem all_and {p : Nat → Bool} {q : Bool} {l : List Nat} (h : l ≠ []) : (l.all fun k => p k && q) = (l.all p && q) := by
  induction l with
  | nil => exact absurd rfl h
  | cons a l ih =>
    rw [List.all_cons, List.all_cons]
    cases l with
    | nil => simp
    | cons b l => rw [ih (by simp)]; cases p a <;> cases q <;> simp
theorem any_and {p : Nat → Bool} {q : Bool} {l : List Nat} : (l.any fun k => p k && q) = (l.any p && q) := by
  induction l with
  | nil => simp
  | cons a l ih => rw [List.any_cons, List.any_cons, ih]; cases p a <;> cases q <;> simp
theorem all_or {p : Nat → Bool} {q : Bool} {l : List Nat} : (l.all fun k => p k || q) = (l.all p || q) := by
  induction l with
  | nil => simp
  | cons a l ih => rw [List.all_cons, List.all_cons, ih]; cases p a <;> cases q <;> simp
theorem any_or {p : Nat → Bool} {q : Bool} {l : List Nat} (h : l ≠ []) : (l.any fun k => p k || q) = (l.any p || q) := by
  induction l with
  | nil => exact absurd rfl h
  | cons a l ih =>
    rw [List.any_cons, List.any_cons]
    cases l with
    | nil => simp
    | cons b l => rw [ih (by simp)]; cases p a <;> cases q <;> simp
theorem range_ne (h : 1 ≤ n) : List.range n ≠ [] := fun e => by
  have := congrArg List.length e
  rw [List.length_range, List.length_nil] at this
  omega
/-- quantifiers go ahead of a join where their names aren't open beside -/
theorem val_left (hn : 1 ≤ n) (j : Bool) (g : Qf) : ∀ (r : List (Bool × Str)) (f : Qf), (∀ p ∈ r, p.2 ∉ g.fv) → ∀ e, (lay r (bin j f g)).val n R e = (bin j (lay r f) g).val n R e
  | [], f, _, e => rfl
  | (b, x) :: r, f, h, e => by
    have ih := val_left hn j g r f fun p hp => h p (List.mem_cons_of_mem _ hp)
    have hg : ∀ k, g.val n R (up e x k) = g.val n R e := fun k => val_ext g _ _ fun y hy => up_ne fun e => h _ List.mem_cons_self (e ▸ hy)
    cases b <;> cases j <;> simp only [lay, val, ih, hg]
    · rw [any_or (range_ne hn)]
    · rw [any_and]
    · rw [all_or]
    · rw [all_and (range_ne hn)]
theorem val_comm (j : Bool) (f g : Qf) (e : Str → Nat) : (bin j f g).val n R e = (bin j g f).val n R e := by
  cases j <;> simp only [val]
  · exact Bool.or_comm _ _
  · exact Bool.and_comm _ _
theorem val_right (hn : 1 ≤ n) (j : Bool) (f g : Qf) (r : List (Bool × Str)) (h : ∀ p ∈ r, p.2 ∉ f.fv) (e : Str → Nat) : (lay r (bin j f g)).val n R e = (bin j f (lay r g)).val n R e := by
  rw [val_congr_lay r (bin j f g) (bin j g f) (fun e => val_comm j f g e), val_left hn j f r g h, val_comm]
/-- told anew, pulled out, laid back: what it was -/
theorem val_anew (hn : 1 ≤ n) : ∀ (f : Qf) (tb : List (Str × Str)) (c : Nat), f.nnf = true → c + f.qn ≤ 100 → (∀ x ∈ f.fv, ∀ k, c ≤ k → k < 100 → ren tb x ≠ yS k) →
    (∀ p ∈ (f.anew tb c).1.pull.1, ∃ k, c ≤ k ∧ k < c + f.qn ∧ p.2 = yS k) ∧
    (∀ z ∈ (f.anew tb c).1.pull.2.fv, (∃ x ∈ f.fv, z = ren tb x) ∨ ∃ k, c ≤ k ∧ k < c + f.qn ∧ z = yS k) ∧
    ∀ e, (lay (f.anew tb c).1.pull.1 (f.anew tb c).1.pull.2).val n R e = f.val n R fun x => e (ren tb x)
  | rel r x, tb, c, _, _, _ => ⟨fun p hp => by simp [anew, pull] at hp, fun z hz => .inl ⟨x, by simp [fv], by simpa [anew, pull, fv] using hz⟩, fun e => rfl⟩
  | same x y, tb, c, _, _, _ => ⟨fun p hp => by simp [anew, pull] at hp, fun z hz => by
      have hz : z = ren tb x ∨ z = ren tb y := by simpa [anew, pull, fv] using hz
      rcases hz with h | h
      · exact .inl ⟨x, by simp [fv], h⟩
      · exact .inl ⟨y, by simp [fv], h⟩, fun e => rfl⟩
  | not (rel r x), tb, c, _, _, _ => ⟨fun p hp => by simp [anew, pull] at hp, fun z hz => .inl ⟨x, by simp [fv], by simpa [anew, pull, fv] using hz⟩, fun e => rfl⟩
  | not (same x y), tb, c, _, _, _ => ⟨fun p hp => by simp [anew, pull] at hp, fun z hz => by
      have hz : z = ren tb x ∨ z = ren tb y := by simpa [anew, pull, fv] using hz
      rcases hz with h | h
      · exact .inl ⟨x, by simp [fv], h⟩
      · exact .inl ⟨y, by simp [fv], h⟩, fun e => rfl⟩
  | not (not f), _, _, h, _, _ => by cases h
  | not (bin _ f g), _, _, h, _, _ => by cases h
  | not (qu _ _ f), _, _, h, _, _ => by cases h
  | bin b f g, tb, c, h, hc, hr => by
    simp only [nnf, Bool.and_eq_true] at h
    simp only [qn] at hc
    have hcn := anew_cnt f tb c
    obtain ⟨a1, a2, a3⟩ := val_anew hn f tb c h.1 (by omega) fun x hx k h1 h2 => hr x (by simp [fv, hx]) k h1 h2
    obtain ⟨b1, b2, b3⟩ := val_anew hn g tb (f.anew tb c).2 h.2 (by omega) fun x hx k h1 h2 => hr x (by simp [fv, hx]) k (by omega) h2
    rw [hcn] at b1 b2 b3
    simp only [anew, pull, hcn, qn]
    refine ⟨fun p hp => ?_, fun z hz => ?_, fun e => ?_⟩
    · rcases List.mem_append.mp hp with hp | hp
      · obtain ⟨k, h1, h2, h3⟩ := a1 p hp
        exact ⟨k, h1, by omega, h3⟩
      · obtain ⟨k, h1, h2, h3⟩ := b1 p hp
        exact ⟨k, by omega, by omega, h3⟩
    · simp only [fv, List.mem_append] at hz
      rcases hz with hz | hz
      · rcases a2 z hz with ⟨x, h1, h2⟩ | ⟨k, h1, h2, h3⟩
        · exact .inl ⟨x, by simp [fv, h1], h2⟩
        · exact .inr ⟨k, h1, by omega, h3⟩
      · rcases b2 z hz with ⟨x, h1, h2⟩ | ⟨k, h1, h2, h3⟩
        · exact .inl ⟨x, by simp [fv, h1], h2⟩
        · exact .inr ⟨k, by omega, by omega, h3⟩
    · rw [lay_app]
      rw [val_congr_lay _ _ _ (fun e => val_right hn b _ _ _ (fun p hp z => ?_) e)]
      · rw [val_left hn b _ _ _ fun p hp z => ?_]
        · cases b <;> simp only [val, a3, b3]
        · obtain ⟨k, h1, h2, h3⟩ := a1 p hp
          rw [h3] at z
          rcases b2 _ (fv_lay _ _ _ z) with ⟨x, m1, m2⟩ | ⟨k', m1, m2, m3⟩
          · exact hr x (by simp [fv, m1]) k h1 (by omega) m2.symm
          · have := yS_inj (by omega) (by omega) m3
            omega
      · obtain ⟨k, h1, h2, h3⟩ := b1 p hp
        rw [h3] at z
        rcases a2 _ z with ⟨x, m1, m2⟩ | ⟨k', m1, m2, m3⟩
        · exact hr x (by simp [fv, m1]) k (by omega) (by omega) m2.symm
        · have := yS_inj (by omega) (by omega) m3
          omega
  | qu b x f, tb, c, h, hc, hr => by
    simp only [qn] at hc
    obtain ⟨a1, a2, a3⟩ := val_anew hn f (putG tb x (yS c)) (c + 1) h (by omega) fun z hz k h1 h2 => by
      rw [ren_put]
      by_cases e : z = x
      · rw [if_pos e]
        intro w
        have := yS_inj (by omega) h2 w
        omega
      · rw [if_neg e]
        exact hr z (by simp [fv, hz, e]) k (by omega) h2
    simp only [anew, pull, qn]
    refine ⟨fun p hp => ?_, fun z hz => ?_, fun e => ?_⟩
    · rcases List.mem_cons.mp hp with rfl | hp
      · exact ⟨c, by omega, by omega, rfl⟩
      · obtain ⟨k, h1, h2, h3⟩ := a1 p hp
        exact ⟨k, by omega, by omega, h3⟩
    · rcases a2 z hz with ⟨y, h1, h2⟩ | ⟨k, h1, h2, h3⟩
      · rw [ren_put] at h2
        by_cases e : y = x
        · rw [if_pos e] at h2
          exact .inr ⟨c, by omega, by omega, h2⟩
        · rw [if_neg e] at h2
          exact .inl ⟨y, by simp [fv, h1, e], h2⟩
      · exact .inr ⟨k, by omega, by omega, h3⟩
    · have hv : ∀ k, (lay (f.anew (putG tb x (yS c)) (c + 1)).1.pull.1 (f.anew (putG tb x (yS c)) (c + 1)).1.pull.2).val n R (up e (yS c) k) = f.val n R (up (fun z => e (ren tb z)) x k) := fun k => by
        rw [a3]
        refine val_ext f _ _ fun z hz => ?_
        rw [ren_put]
        by_cases q : z = x
        · rw [if_pos q, q, up_eq, up_eq]
        · rw [if_neg q, up_ne q, up_ne (hr z (by simp [fv, hz, q]) c (by omega) (by omega))]
      cases b <;> simp only [lay, val, hv]
end Qf
end Sq
set_option Elab.async false
set_option linter.all false
set_option maxRecDepth 100000
set_option maxHeartbeats 2000000
namespace Sq
open PySem PySem.Spec PyProof.Rows L2
/-! ### the data of formulas over things -/
theorem tv_pl (x : Str) : Pl (tv x) := .tup (.cons (.str _) (.cons (.str _) .nil))
theorem tv_inj {x y : Str} (h : tv x = tv y) : x = y := by
  unfold tv at h
  injection h with h
  injection h with _ h
  injection h with h _
  injection h
theorem eqv_tv (x y : Str) : PyData.eqv (tv x) (tv y) = decide (x = y) := by
  by_cases e : x = y
  · subst e
    rw [(eqv_pl (tv_pl x) (tv_pl x)).mpr rfl]; simp
  · rw [decide_eq_false e]
    exact Bool.eq_false_iff.mpr fun z => e (tv_inj ((eqv_pl (tv_pl x) (tv_pl y)).mp z))
theorem qk_ok : PyData.strOk "rel" = true ∧ PyData.strOk "same" = true ∧ PyData.strOk "not" = true ∧ PyData.strOk "and" = true ∧ PyData.strOk "or" = true ∧ PyData.strOk "all" = true ∧ PyData.strOk "some" = true ∧ PyData.strOk "v" = true := by decide +kernel
theorem tv_lay {x : Str} (h : PyData.strOk x = true) : (tv x).canLay0 = true := by
  unfold tv
  rw [Fm.lay_tup, Fm.lay_cons, Fm.lay_cons, Fm.lay_nil, Fm.lay_str, Fm.lay_str, h, qk_ok.2.2.2.2.2.2.2]; rfl
theorem tv_dep (x : Str) : (tv x).depth = 1 := by unfold tv; simp [PyData.depth, PyData.depthAll]
theorem tv_sh {x : Str} (h : PyData.strOk x = true) : SeqAt.shaped (tv x) = true := by
  unfold SeqAt.shaped
  rw [tv_lay h, tv_dep]; rfl
theorem bnm_ok (b : Bool) : PyData.strOk (bnm b) = true := by cases b <;> decide +kernel
theorem qnm_ok (b : Bool) : PyData.strOk (qnm b) = true := by cases b <;> decide +kernel
namespace Qf
theorem pl_data : ∀ f : Qf, Pl f.data
  | rel _ x => .tup (.cons (.str _) (.cons (.str _) (.cons (.tup (.cons (tv_pl x) .nil)) .nil)))
  | same x y => .tup (.cons (.str _) (.cons (tv_pl x) (.cons (tv_pl y) .nil)))
  | not f => .tup (.cons (.str _) (.cons f.pl_data .nil))
  | bin _ f g => .tup (.cons (.str _) (.cons f.pl_data (.cons g.pl_data .nil)))
  | qu _ _ f => .tup (.cons (.str _) (.cons (.str _) (.cons f.pl_data .nil)))
theorem eqv_self (f : Qf) : PyData.eqv f.data f.data = true := (eqv_pl f.pl_data f.pl_data).mpr rfl
theorem lay_data : ∀ f : Qf, (∀ x ∈ f.nms, PyData.strOk x = true) → (∀ x ∈ f.rels, PyData.strOk x = true) → f.data.canLay0 = true
  | rel r x, h, k => by
    simp only [data, Fm.lay_tup, Fm.lay_cons, Fm.lay_nil, Fm.lay_str, tv_lay (h x (by simp [nms])), k r (by simp [rels]), qk_ok.1, Bool.and_self]
  | same x y, h, _ => by
    simp only [data, Fm.lay_tup, Fm.lay_cons, Fm.lay_nil, Fm.lay_str, tv_lay (h x (by simp [nms])), tv_lay (h y (by simp [nms])), qk_ok.2.1, Bool.and_self]
  | not f, h, k => by
    simp only [data, Fm.lay_tup, Fm.lay_cons, Fm.lay_nil, Fm.lay_str, lay_data f h k, qk_ok.2.2.1, Bool.and_self]
  | bin b f g, h, k => by
    simp only [data, Fm.lay_tup, Fm.lay_cons, Fm.lay_nil, Fm.lay_str, lay_data f (fun x hx => h x (by simp [nms, hx])) (fun x hx => k x (by simp [rels, hx])), lay_data g (fun x hx => h x (by simp [nms, hx])) (fun x hx => k x (by simp [rels, hx])), bnm_ok, Bool.and_self]
  | qu b x f, h, k => by
    simp only [data, Fm.lay_tup, Fm.lay_cons, Fm.lay_nil, Fm.lay_str, h x (by simp [nms]), lay_data f (fun x hx => h x (by simp [nms, hx])) k, qnm_ok, Bool.and_self]
theorem depth_le : ∀ f : Qf, f.data.depth ≤ f.dep + 2
  | rel r x => by simp only [data, PyData.depth, PyData.depthAll, tv_dep, dep]; omega
  | same x y => by simp only [data, PyData.depth, PyData.depthAll, tv_dep, dep]; omega
  | not f => by have := depth_le f; simp only [data, PyData.depth, PyData.depthAll, dep]; omega
  | bin b f g => by have := depth_le f; have := depth_le g; simp only [data, PyData.depth, PyData.depthAll, dep]; omega
  | qu b x f => by have := depth_le f; simp only [data, PyData.depth, PyData.depthAll, dep]; omega
theorem shaped {f : Qf} (h : ∀ x ∈ f.nms, PyData.strOk x = true) (k : ∀ x ∈ f.rels, PyData.strOk x = true) (hd : f.dep ≤ 60) : SeqAt.shaped f.data = true := by
  unfold SeqAt.shaped
  have := depth_le f
  rw [lay_data f h k, decide_eq_true (by omega)]
  rfl
end Qf
/-! ### taken apart -/
section
variable {K : PySem.W.Frag} {H : Hp} {v : V} {x y r : Str} {f g : Qf} {b : Bool}
theorem td_tv (h : Td K H v (tv x)) : ∃ p, v = .ref p ∧ tupF K H p = some [.str "v", .str x] := by
  cases h with
  | tup e r => cases r with
    | cons h1 r => cases r with
      | cons h2 r => cases r; cases h1; cases h2; exact ⟨_, rfl, e⟩
theorem qd_rel (h : Td K H v (Qf.rel r x).data) : ∃ p q u, v = .ref p ∧ tupF K H p = some [.str "rel", .str r, .ref q] ∧ tupF K H q = some [u] ∧ Td K H u (tv x) := by
  cases h with
  | tup e r => cases r with
    | cons h1 r => cases r with
      | cons h2 r => cases r with
        | cons h3 r =>
          cases r; cases h1; cases h2
          cases h3 with
          | tup e2 r2 => cases r2 with
            | cons h4 r2 => cases r2; exact ⟨_, _, _, rfl, e, e2, h4⟩
theorem qd_same (h : Td K H v (Qf.same x y).data) : ∃ p u w, v = .ref p ∧ tupF K H p = some [.str "same", u, w] ∧ Td K H u (tv x) ∧ Td K H w (tv y) := by
  cases h with
  | tup e r => cases r with
    | cons h1 r => cases r with
      | cons h2 r => cases r with
        | cons h3 r => cases r; cases h1; exact ⟨_, _, _, rfl, e, h2, h3⟩
theorem qd_not (h : Td K H v (Qf.not f).data) : ∃ p u, v = .ref p ∧ tupF K H p = some [.str "not", u] ∧ Td K H u f.data := by
  cases h with
  | tup e r => cases r with
    | cons h1 r => cases r with
      | cons h2 r => cases r; cases h1; exact ⟨_, _, rfl, e, h2⟩
theorem qd_bin (h : Td K H v (Qf.bin b f g).data) : ∃ p u w, v = .ref p ∧ tupF K H p = some [.str (bnm b), u, w] ∧ Td K H u f.data ∧ Td K H w g.data := by
  cases h with
  | tup e r => cases r with
    | cons h1 r => cases r with
      | cons h2 r => cases r with
        | cons h3 r => cases r; cases h1; exact ⟨_, _, _, rfl, e, h2, h3⟩
theorem qd_qu (h : Td K H v (Qf.qu b x f).data) : ∃ p u, v = .ref p ∧ tupF K H p = some [.str (qnm b), .str x, u] ∧ Td K H u f.data := by
  cases h with
  | tup e r => cases r with
    | cons h1 r => cases r with
      | cons h2 r => cases r with
        | cons h3 r => cases r; cases h1; cases h2; exact ⟨_, _, rfl, e, h3⟩
/-- every formula is a tuple with its kind ahead -/
theorem qd_hd (h : Td K H v f.data) : ∃ p us, v = .ref p ∧ tupF K H p = some (.str f.hd :: us) := by
  cases f with
  | rel r x => obtain ⟨p, q, u, e, h1, _⟩ := qd_rel h; exact ⟨p, _, e, h1⟩
  | same x y => obtain ⟨p, u, w, e, h1, _⟩ := qd_same h; exact ⟨p, _, e, h1⟩
  | not f => obtain ⟨p, u, e, h1, _⟩ := qd_not h; exact ⟨p, _, e, h1⟩
  | bin b f g => obtain ⟨p, u, w, e, h1, _⟩ := qd_bin h; exact ⟨p, _, e, h1⟩
  | qu b x f => obtain ⟨p, u, e, h1, _⟩ := qd_qu h; exact ⟨p, _, e, h1⟩
end
theorem hd_ne : ("rel" : Str) ≠ "same" ∧ ("rel" : Str) ≠ "not" ∧ ("same" : Str) ≠ "rel" := by decide +kernel
end Sq
set_option Elab.async false
set_option linter.all false
set_option maxRecDepth 100000
set_option maxHeartbeats 2000000
namespace Sq
open PySem PySem.Spec PyProof.Rows L2
/-! ### tuples of which the very object is known: their methods may be called -/
def TupN (H : Hp) (p : Addr) (xs : List V) : Prop := ∃ o : Obj, H p = some (.frz o (.tup xs)) ∧ o.dict = none
theorem TupN.ext {S : List Addr} {H H' : Hp} {p : Addr} {xs : List V} (h : TupN H p xs) (e : Ext S H H') : TupN H' p xs := let ⟨o, a, b⟩ := h; ⟨o, e.frz p o _ a, b⟩
theorem tupF_frz {K : PySem.W.Frag} {H : Hp} {a : Addr} {xs : List V} {o : Obj} (n : K.lookup a = none) (h : H a = some (.frz o (.tup xs))) : tupF K H a = some xs := by
  unfold tupF
  rw [dif_neg, h]
  rintro ⟨ys, hw⟩
  obtain ⟨o', _, _, hk, _⟩ := hw
  rw [n] at hk
  cases hk
section
variable {X : Cx}
theorem laidN {pins : List (Addr × Obj)} {σ : L2.St} {H : Hp} {s : Shared} {Q : VK} {xs : List V} {us : List Value} (I : Inv X pins σ H s) (r : Vals xs us) (z : xs.length ≤ sizeLine) (q : ∀ p H2, Ext [] H H2 → tupF X.K H2 p = some xs → TupN H2 p xs → Q (.ref p) H2) :
    EP X pins σ Q (.ref s.heap.objs.size) { s with heap := s.heap.push { cls := .type "tuple", data := .seq us.toArray } } := by
  have hf : H s.heap.objs.size = none := I.hok.fresh (Nat.le_refl _)
  let ob : Obj := { cls := .type "tuple", data := .seq us.toArray }
  refine ep_nk ⟨.ref s.heap.objs.size, upd H s.heap.objs.size (.frz ob (.tup xs)), I.laid (t' := s.toks) (fun b u e => Heap.get?_push_of_some _ e) (Nat.le_refl _) ?_, rfl, fun n => q _ _ (Ext.new hf) (tupF_frz (NK.at n upd_same) upd_same) ⟨ob, upd_same, rfl⟩⟩
  exact ⟨Heap.get?_push_size _ rfl, z, us, r, ⟨_, Heap.get?_push_size _ rfl, rfl, _, rfl⟩⟩
/-- (a, b, ..) -/
def tTupN (K : PySem.W.Frag) (t : TA) : TE := fun σ H Q => t σ H fun xs H1 => xs.length ≤ sizeLine ∧ ∀ p H2, Ext [] H1 H2 → tupF K H2 p = some xs → TupN H2 p xs → Q (.ref p) H2
theorem pe_tupN (K : PySem.W.Frag) {es : List Expr} {x1 : Nat} {pos : Pos} {t : TA} (h : PA X es t) (hK : X.K = K := by rfl) : PE X (.Tuple es x1 pos) (tTupN K t) := by
  subst hK
  refine ⟨fun pins s σ H Q I hq => ?_⟩
  exact wpAny_Tuple_spliced (thn (h.run pos pins s σ H _ I hq) fun us s1 ⟨xs, H1, I1, r, z, q⟩ => ⟨by rw [← r.length]; exact z, laidN I1 r z q⟩)
/-- t + u -/
def rCatN (K : PySem.W.Frag) : R2 := fun x y H Q => ∃ a b xs ys, x = .ref a ∧ y = .ref b ∧ tupF K H a = some xs ∧ TupN H a xs ∧ tupF K H b = some ys ∧ xs ≠ [] ∧ xs.length + ys.length ≤ sizeLine ∧ ∀ p H2, Ext [] H H2 → tupF K H2 p = some (xs ++ ys) → TupN H2 p (xs ++ ys) → Q (.ref p) H2
theorem op_catN (K : PySem.W.Frag) (hK : X.K = K := by rfl) : OpR X (binaryOp .Add) (rCatN K) := by
  subst hK
  intro pins s σ H x y v u Q I rx ry ⟨a, b, xs, ys, e1, e2, ha, hn, hb, hx, hz, q⟩
  subst e1 e2
  cases rx
  cases ry
  obtain ⟨its, r1, p1, _⟩ := I.tuple (tupF_sq ha)
  obtain ⟨its2, r2, p2, _⟩ := I.tuple (tupF_sq hb)
  refine HT.cat_tup p1 p2 (fun z => hx (r1.nil_iff.mp z)) (fun z => ⟨.ref a, H, I, rfl, ?_⟩) (fun z => ?_) (by rw [← r1.length, ← r2.length]; exact hz)
  · have e := r2.nil_iff.mp z
    subst e
    exact q a H (Ext.refl _ _) (by rw [List.append_nil]; exact ha) (by rw [List.append_nil]; exact hn)
  · exact laidN I (r1.append r2) (by rw [List.length_append]; exact hz) q
/-- t.index(x) -/
def tTIxN (K : PySem.W.Frag) (to : TE) (te : TA) : TE := fun σ H Q => to σ H fun x H1 => ∃ p xs, x = .ref p ∧ TupN H1 p xs ∧ te σ H1 fun us H2 => rTIndex K (.ref p) us H2 Q
theorem pe_tindexN (K : PySem.W.Frag) {o e : Expr} {apos cpos : Pos} {to : TE} {te : TA} (ho : PE X o to) (ha : PA X [e] te)
    (hbase : attributeBase o "index" X.env (eval o X.env) = eval o X.env := by rfl)
    (hfew : ((backTo cpos (starEach [e] X.env)).all (fun x => !x.1) && (backToKw cpos (keywordEach [] X.env)).all (fun x => x.1.isSome)
      && decide ([e].length + ([] : List Keyword).length + (if ([] : List Keyword).isEmpty then 0 else 1) < 30)) = true := by rfl)
    (hline : (apos.endLine == cpos.line) = true := by rfl) (hs : starEach [e] X.env = (false, eval e X.env) :: starEach [] X.env := by rfl) (hplain : (backTo cpos (starEach [] X.env)).any (·.1) = false := by rfl) (hK : X.K = K := by rfl) :
    PE X (.Call (.Attribute o "index" apos) [e] [] cpos) (tTIxN K to te) := by
  subst hK
  refine ⟨fun pins s σ H Q I hq => ?_⟩
  refine wpAny_Call_method_late hbase hfew hline rfl (thn (ho.run pins s σ H _ I hq) fun v s1 ⟨x, H1, I1, r1, p, xs, e1, hn, q1⟩ => ?_)
  subst e1
  cases r1
  obtain ⟨ob, hob, hdi⟩ := hn
  have ok := I1.hok p _ hob
  obtain ⟨hg, _, its, _, ⟨o', ho', hc', _⟩⟩ := ok
  rw [hg] at ho'
  cases ho'
  refine ⟨"tuple", "tuple.index", PySem.F.plainAttrs_tuple, PySem.F.slot_tuple_index, PySem.F.type_tuple_index, ⟨_, hg, hc'⟩, fun a e => ?_, ?_⟩
  · cases e
    exact ⟨_, hg, hdi⟩
  · have hA := ha.run cpos pins s1 σ H1 _ I1 q1
    rw [hs] at hA ⊢
    refine Calls.callWith_builtin (by show (false || (backTo cpos (starEach [] X.env)).any (·.1)) = false; rw [hplain] <;> rfl) (Calls.evalArgs_plain ?_)
    exact thn hA fun vs s2 ⟨ws, H2, I2, r2, q2⟩ => mt_tindexK X.K rfl pins s2 σ H2 (.ref p) ws _ vs Q I2 rfl r2 q2
end
end Sq
set_option Elab.async false
set_option linter.all false
set_option maxRecDepth 100000
set_option maxHeartbeats 2000000
namespace Sq.It
open PySem PySem.W PySem.Calls PyProof.Rows PyProof.V PySem.Spec
/-! ### d.items() sorted: keys are texts, values are things -/
section
variable {prog : Program} {w : World} {A : Around} {E : Value → Shared → Prop} {s : Shared}
theorem eqBool_self {b : Addr} {Q : Bool → Shared → Prop} (h : Q true s) : wpAny (model prog w) A (eqBool (.ref b) (.ref b)) Q E s := by
  unfold eqBool
  refine wpAny_holding ?_
  rw [if_pos (by simp)]
  exact wpAny_bind (wpAny_rule (wpAny_pure h))
def keyTx (h : Heap) (v : Value) : Str := DT.txOf (DT.seqAt0 h (DT.refOf (some v)))
/-- v is a pair: a tuple of the text y and the thing at b -/
def PairIn (h : Heap) (v : Value) (y : Str) (b : Addr) : Prop := ∃ (a : Addr) (t : Tok), v = .ref a ∧ IsTup h a #[.str y t, .ref b]
theorem PairIn.tx {h : Heap} {v : Value} {y : Str} {b : Addr} (x : PairIn h v y b) : keyTx h v = y := by
  obtain ⟨a, t, rfl, h1⟩ := x
  show DT.txOf (DT.seqAt0 h a) = y
  rw [DT.seqAt0_of h1]
  rfl
theorem firsts_of {h : Heap} : ∀ vs : List Value, (∀ v ∈ vs, ∃ y b, PairIn h v y b) → ∃ fs : List Value, KatTups h vs fs ∧ fs.length = vs.length ∧ ∀ f ∈ fs, ∃ (y : Str) (t : Tok), f = Value.str y t
  | [], _ => ⟨[], KatTups.nil, rfl, fun f hf => by simp at hf⟩
  | v :: vs, x => by
    obtain ⟨fs, k, hl, hi⟩ := firsts_of vs fun u hu => x u (List.mem_cons_of_mem _ hu)
    obtain ⟨y, b, a, t, rfl, ⟨o, ho, hc, n, hd⟩⟩ := x v (List.mem_cons_self ..)
    refine ⟨.str y t :: fs, KatTups.cons ho hc hd rfl k, by rw [List.length_cons, List.length_cons, hl], fun f hf => ?_⟩
    rcases List.mem_cons.mp hf with rfl | hf
    · exact ⟨y, t, rfl⟩
    · exact hi f hf
theorem kind_ts {vs : List Value} {ρ : Str → Int} (h2 : 2 ≤ vs.length) (x : ∀ v ∈ vs, ∃ y b, PairIn s.heap v y b) (inj : ∀ v ∈ vs, ∀ u ∈ vs, keyTx s.heap v = keyTx s.heap u → v = u)
    (hρ : ∀ v ∈ vs, ∀ u ∈ vs, decide ((keyTx s.heap v).cps.toList < (keyTx s.heap u).cps.toList) = decide (ρ (keyTx s.heap v) < ρ (keyTx s.heap u))) (Q : SortKind → Shared → Prop)
    (h : ∀ κ, TS.Cmp prog w A s κ (pairsOf vs) (fun v => ρ (keyTx s.heap v)) → Q κ s) : wpAny (model prog w) A (keyKind' vs.toArray) Q E s := by
  obtain ⟨fs, k, hl, hi⟩ := firsts_of vs x
  refine kat_kind (T := Value.type "str") k (by omega) (fun f hf => ?_) rfl (h _ ?_)
  · obtain ⟨y, t, rfl⟩ := hi f hf
    exact .now
  · have hb : (Value.type "str" != Value.type "tuple") = true := by first | rfl | decide | simp
    rw [hb]
    intro p q hp hq Q' E' hQ
    rw [pairsOf_toList] at hp hq
    have mp := (mem_zip_self hp).2
    have mq := (mem_zip_self hq).2
    obtain ⟨y, b, py⟩ := x _ mp
    obtain ⟨z, c, pz⟩ := x _ mq
    have hr := hρ _ mp _ mq
    have hin := inj _ mp _ mq
    have hQ' : Q' (decide (y.cps.toList < z.cps.toList)) s := by
      rw [py.tx, pz.tx] at hr
      rw [hr]
      have hQ2 : Q' (decide (ρ (keyTx s.heap p.1) < ρ (keyTx s.heap q.1))) s := hQ
      rw [py.tx, pz.tx] at hQ2
      exact hQ2
    rw [py.tx, pz.tx] at hin
    obtain ⟨a, t, e1, ⟨o, ho, hc, n, hd⟩⟩ := py
    obtain ⟨a', t', e2, ⟨o', ho', hc', n', hd'⟩⟩ := pz
    rw [e1, e2] at hin
    rw [e1, e2]
    refine kat_lt ho hd ho' hd' ?_
    show KatLex prog w A true false Q' [(Value.str y t, Value.str z t'), (Value.ref b, Value.ref c)] 0 s
    by_cases e : y = z
    · have irr : decide (y.cps.toList < z.cps.toList) = false := by
        rw [e]
        first | exact decide_eq_false (List.lt_irrefl _) | simp
      rw [irr] at hQ'
      have ea : a = a' := Value.ref.inj (hin e)
      subst ea
      rw [ho] at ho'
      cases ho'
      rw [hd] at hd'
      have hd3 := congrArg (fun d => match d with | Data.seq xs _ => xs.toList | _ => []) hd'
      have hd3 : [Value.str y t, Value.ref b] = [Value.str z t', Value.ref c] := hd3
      injection hd3 with h1 h2
      injection h2 with h2 _
      injection h2 with h2
      subst h2
      refine kat_cons (wpAny_eqBool_str ?_)
      rw [decide_eq_true e]
      refine kat_go (fun _ => ?_) (fun e0 => by cases e0)
      refine kat_yes (kat_cons (eqBool_self ?_))
      refine kat_go (fun _ => ?_) (fun e0 => by cases e0)
      exact kat_yes (kat_nil hQ')
    · refine kat_cons (wpAny_eqBool_str ?_)
      rw [decide_eq_false e]
      refine kat_go (fun e0 => by cases e0) (fun _ => kat_no ?_)
      exact oneLt_str hQ'
end
end Sq.It
namespace Sq
open PySem PySem.Spec PyProof.Rows L2 L2.DX
section
variable {X : Cx}
/-- d.items() -/
def rItemsQ : V → List V → Hp → VK → Prop := fun x xs H Q => ∃ (a : Addr) (kvs : List (Key × V)), x = .ref a ∧ xs = [] ∧ H a = some (.dK kvs) ∧ ∀ p H2, H p = none → Ext [] H H2 → (∀ b o, H b = some o → H2 b = some o) → H2 p = some (itemsO p a) → Q (.ref p) H2
theorem mt_itemsQ : MtR X "dict.items" rItemsQ := by
  intro pins s σ H x xs v us Q I rx rxs h
  obtain ⟨a, kvs, rfl, rfl, ha, q⟩ := h
  cases rx
  cases rxs
  obtain ⟨z, hd, vs, rel, o, es, ep, ho, hx, hdat, _⟩ := dk_of I.hok ha
  refine DT.callItems (es := es) (ep := ep) hd ⟨o, ho, hx, hdat⟩ ?_
  have hf : H s.heap.objs.size = none := I.hok.fresh (Nat.le_refl _)
  exact ⟨.ref s.heap.objs.size, upd H s.heap.objs.size (itemsO s.heap.objs.size a), I.laid (t' := s.toks) (fun b u e => Heap.get?_push_of_some _ e) (Nat.le_refl _) (itemsO_ok (Heap.get?_push_size _ rfl)), rfl, q _ _ hf (Ext.new hf) (fun b o e => by rw [upd_ne (ne_of_none e hf)]; exact e) upd_same⟩
theorem key_str {P : Program} {w : World} {y : Str} {v : Value} (h : (mixKind P w).is (.inr y) v = true) : ∃ t, v = Value.str y t := by
  rcases keyIs_shape (k := Sum.inr y) (v := v) (by rw [mixKind_is] at h; exact h) with ⟨i, t, e, _⟩ | ⟨x, t, e, e2⟩
  · cases e
  · cases e; exact ⟨t, e2⟩
abbrev entK (e : Str × Addr) : Key × V := (Sum.inr e.1, V.ref e.2)
/-- sorted(d.items()); ρ the texts' rank -/
def rSortQ (K : PySem.W.Frag) : List V → Hp → VK → Prop := fun vs H Q => ∃ (p a : Addr) (ks : List (Str × Addr)) (ρ : Str → Int), vs = [.ref p] ∧ H p = some (itemsO p a) ∧ H a = some (.dK (ks.map entK)) ∧ ks.length < 64 ∧
  (∀ e ∈ ks, ∀ f ∈ ks, decide (e.1.cps.toList < f.1.cps.toList) = decide (ρ e.1 < ρ f.1)) ∧
  ∀ (H' : Hp) (l : Addr) (ps : List (Addr × Str × Addr)), Ext [] H H' → H l = none → (ps.map (·.2)).Perm ks → (ps.map (·.2)).Pairwise (fun e f => ρ e.1 ≤ ρ f.1) → H' l = some (.lst (ps.map fun z => V.ref z.1)) →
    (∀ z ∈ ps, tupF K H' z.1 = some [.str z.2.1, .ref z.2.2]) → Q (.ref l) H'
theorem ext_of {H H' : Hp} (h : ∀ b o, H b = some o → H' b = some o) : Ext [] H H' :=
  ⟨fun b o e _ _ => h b o e, fun b xs e => h b _ e, fun b o u e => h b _ e, fun P ⟨ps, e, t⟩ => ⟨ps, h _ _ e, t⟩, fun P ps e _ => h P _ e⟩
theorem call_sortedItems (K : PySem.W.Frag) (hc : X.calm = true) (hK : X.K = K := by rfl) : CallR X (.builtin "sorted") (rSortQ K) := by
  subst hK
  intro pins s σ H xs us Q I r h
  obtain ⟨p, a, ks, ρ, rfl, hp, ha, h64, hρ, q⟩ := h
  obtain rfl := Vals.ref1 r
  have view : s.heap.IsItemsView p a := (show ObjOk X.prog X.w H s.heap p (itemsO p a) from I.hok p _ hp).1
  obtain ⟨z, hd, vs, rel, o, es, ep, ho, hx, hdat, hko, his, hn⟩ := dk_of I.hok ha
  have l1 : (ks.map entK).length = vs.length := Paired.length rel
  rw [List.length_map] at l1
  have l2 : es.size = vs.length := by rw [← his.length]; exact Array.length_toList.symm
  have hh : X.A.handled = none := I.ok.hd hc
  refine DT.sortedI (es := es) (ep := ep) hh view ⟨o, ho, hx, hdat⟩ (by rw [sizeLine_eq]; omega) fun h' tk as hk hlt hl hG => ?_
  have lak : as.length = ks.length := by omega
  have nd : as.Nodup := List.Pairwise.imp (fun h => Nat.ne_of_lt h) hG.rise
  -- the pairs that were made
  have pr : ∀ (j : Nat) (b : Addr), as[j]? = some b → ∃ (e : Str × Addr) (t : Tok), ks[j]? = some e ∧ h'.get? b = some { cls := .type "tuple", data := .seq #[Value.str e.1 t, Value.ref e.2] } := by
    intro j b hj
    obtain ⟨en, he, hg⟩ := hG.pairs j b hj
    have hjl : j < ks.length := by
      have := (List.getElem?_eq_some_iff.mp hj).1
      omega
    obtain ⟨e, hkj⟩ : ∃ e, ks[j]? = some e := ⟨_, List.getElem?_eq_getElem hjl⟩
    obtain ⟨kv, hvj⟩ : ∃ kv, vs[j]? = some kv := ⟨_, List.getElem?_eq_getElem (by omega)⟩
    obtain ⟨e0, he0, r1, r2⟩ := pget rel hvj
    rw [List.getElem?_map, hkj] at he0
    cases he0
    obtain ⟨g1, g2⟩ := his.get? (i := j) (e := en) (k := kv.1) (v := kv.2) (by rw [Array.getElem?_toList]; exact he) hvj
    rw [← r1] at g1
    obtain ⟨t, ht⟩ := key_str g1
    have r2 : kv.2 = Value.ref e.2 := r2
    exact ⟨e, t, hkj, by rw [hg, ht, g2, r2]⟩
  have ndk : (ks.map (·.1)).Nodup := by
    have e1 : (ks.map entK).map (·.1) = vs.map (·.1) := by
      refine List.ext_getElem? fun j => ?_
      rw [List.getElem?_map, List.getElem?_map (l := vs)]
      cases hv : vs[j]? with
      | none =>
        have : (ks.map entK)[j]? = none := List.getElem?_eq_none (by rw [List.length_map]; have := List.getElem?_eq_none_iff.mp hv; omega)
        rw [this]; rfl
      | some kv =>
        obtain ⟨e0, he0, r1, _⟩ := pget rel hv
        rw [he0]
        exact congrArg some r1
    rw [← e1, List.map_map] at hn
    have e2 : ks.map ((·.1) ∘ entK) = (ks.map (·.1)).map Sum.inr := by rw [List.map_map]; rfl
    rw [e2] at hn
    exact (List.pairwise_map.mp hn).imp fun h e => h (by rw [e])
  -- the heap of the sort
  have hob : (h'.push { cls := .type "list", data := .seq (as.map Value.ref).toArray }).get? h'.objs.size = some (seqObj "list" (as.map Value.ref).toArray 0) := Heap.get?_push_size _ rfl
  have kb : ∀ b o, s.heap.get? b = some o → (h'.push { cls := .type "list", data := .seq (as.map Value.ref).toArray }).get? b = some o := fun b o e => Heap.get?_push_of_some _ (hk b o e)
  have ne0 : ∀ b o, h'.get? b = some o → b ≠ h'.objs.size := fun b o e => Nat.ne_of_lt (Heap.lt_size e)
  generalize hh2 : h'.push { cls := .type "list", data := .seq (as.map Value.ref).toArray } = h2 at hob kb ⊢
  have ka : ∀ b o, h'.get? b = some o → h2.get? b = some o := fun b o e => by rw [← hh2]; exact Heap.get?_push_of_some _ e
  have pin : ∀ (j : Nat) (b : Addr), as[j]? = some b → ∃ e : Str × Addr, ks[j]? = some e ∧ It.PairIn (TS.midHeap h2 h'.objs.size (as.map Value.ref)) (.ref b) e.1 e.2 := by
    intro j b hj
    obtain ⟨e, t, he, hg⟩ := pr j b hj
    exact ⟨e, he, b, t, rfl, ⟨_, TS.midHeap_old (ne0 _ _ hg) (ka _ _ hg), rfl, 0, rfl⟩⟩
  have tx : ∀ (j : Nat) (b : Addr) (e : Str × Addr), as[j]? = some b → ks[j]? = some e → It.keyTx (TS.midHeap h2 h'.objs.size (as.map Value.ref)) (.ref b) = e.1 := by
    intro j b e hj he
    obtain ⟨e', he', hp'⟩ := pin j b hj
    have ee : e' = e := Option.some.inj (he'.symm.trans he)
    rw [← ee]
    exact hp'.tx
  have at_ : ∀ v ∈ as.map Value.ref, ∃ (j : Nat) (b : Addr) (e : Str × Addr), v = .ref b ∧ as[j]? = some b ∧ ks[j]? = some e := by
    intro v hv'
    obtain ⟨b, hb, rfl⟩ := List.mem_map.mp hv'
    obtain ⟨j, hj⟩ := List.mem_iff_getElem?.mp hb
    obtain ⟨e, _, he, _⟩ := pr j b hj
    exact ⟨j, b, e, rfl, hj, he⟩
  refine wpAny_call_entry PyProof.Rows.slot_list_sort ⟨_, hob, rfl⟩ PyProof.Rows.entry_list_sort
    (SK.plain_sort (s := { s with heap := h2, toks := tk }) (r := fun v => ρ (It.keyTx (TS.midHeap h2 h'.objs.size (as.map Value.ref)) v)) hob (by rw [List.length_map]; omega) (fun h2' Qk hQk => ?_) fun ps out o1 o2 o3 => ⟨.none, rfl, ?_⟩) (PyProof.Rows.args_list_sort _)
  · refine It.kind_ts (s := { s with heap := TS.midHeap h2 h'.objs.size (as.map Value.ref), toks := tk }) (ρ := ρ) h2' (fun v hv' => ?_) (fun v hv' u hu' hvu => ?_) (fun v hv' u hu' => ?_) Qk hQk
    · obtain ⟨j, b, e, rfl, hj, he⟩ := at_ v hv'
      obtain ⟨e', _, hp'⟩ := pin j b hj
      exact ⟨e'.1, e'.2, hp'⟩
    · obtain ⟨j, b, e, rfl, hj, he⟩ := at_ v hv'
      obtain ⟨j2, b2, e2, rfl, hj2, he2⟩ := at_ u hu'
      have hvu : It.keyTx (TS.midHeap h2 h'.objs.size (as.map Value.ref)) (.ref b) = It.keyTx (TS.midHeap h2 h'.objs.size (as.map Value.ref)) (.ref b2) := hvu
      rw [tx j b e hj he, tx j2 b2 e2 hj2 he2] at hvu
      have hjj : j = j2 := by
        have q1 : (ks.map (·.1))[j]? = some e.1 := by rw [List.getElem?_map, he]; rfl
        have q2 : (ks.map (·.1))[j2]? = some e.1 := by rw [List.getElem?_map, he2, hvu]; rfl
        exact (List.getElem?_inj (List.getElem?_eq_some_iff.mp q1).1 ndk).mp (q1.trans q2.symm)
      subst hjj
      rw [Option.some.inj (hj.symm.trans hj2)]
    · obtain ⟨j, b, e, rfl, hj, he⟩ := at_ v hv'
      obtain ⟨j2, b2, e2, rfl, hj2, he2⟩ := at_ u hu'
      show decide ((It.keyTx (TS.midHeap h2 h'.objs.size (as.map Value.ref)) (.ref b)).cps.toList < (It.keyTx (TS.midHeap h2 h'.objs.size (as.map Value.ref)) (.ref b2)).cps.toList) = decide (ρ (It.keyTx (TS.midHeap h2 h'.objs.size (as.map Value.ref)) (.ref b)) < ρ (It.keyTx (TS.midHeap h2 h'.objs.size (as.map Value.ref)) (.ref b2)))
      rw [tx j b e hj he, tx j2 b2 e2 hj2 he2]
      exact hρ e (List.mem_of_getElem? he) e2 (List.mem_of_getElem? he2)
  · show EP X pins σ Q (.ref h'.objs.size) { s with heap := sortedHeap h2 h'.objs.size (as.map Value.ref) out, toks := tk }
    obtain ⟨zs, pz, ez⟩ := perm_lift (fun z : Addr × Str × Addr => (Value.ref z.1, Value.ref z.1)) o2 (as.zip ks) (zip_self Value.ref as ks lak)
    have idx : ∀ z ∈ zs, ∃ j : Nat, as[j]? = some z.1 ∧ ks[j]? = some z.2 := by
      intro z' hz'
      obtain ⟨j, hj⟩ := List.mem_iff_getElem?.mp (pz.mem_iff.mp hz')
      exact ⟨j, List.getElem?_zip_eq_some.mp hj⟩
    have hout : out.toList = zs.map fun z => Value.ref z.1 := by
      rw [o1, ← ez, List.map_map]
      all_goals rfl
    have hperm : (zs.map (·.2)).Perm ks := by
      have e := pz.map (·.2)
      have m2 : (as.zip ks).map (·.2) = ks := List.map_snd_zip (by rw [lak]; exact Nat.le_refl _)
      rw [m2] at e
      exact e
    have hsort : (zs.map (·.2)).Pairwise (fun e f => ρ e.1 ≤ ρ f.1) := by
      rw [← ez, List.pairwise_map] at o3
      rw [List.pairwise_map]
      refine List.Pairwise.imp_of_mem (fun {x y} hx hy h => ?_) o3
      obtain ⟨j, j1, j2⟩ := idx x hx
      obtain ⟨i, i1, i2⟩ := idx y hy
      have h' : ρ (It.keyTx (TS.midHeap h2 h'.objs.size (as.map Value.ref)) (.ref x.1)) ≤ ρ (It.keyTx (TS.midHeap h2 h'.objs.size (as.map Value.ref)) (.ref y.1)) := h
      rw [tx j _ _ j1 j2, tx i _ _ i1 i2] at h'
      exact h'
    -- behind the sort
    have kF : ∀ b o, b ≠ h'.objs.size → h2.get? b = some o → (sortedHeap h2 h'.objs.size (as.map Value.ref) out).get? b = some o := fun b o hb e => (PyProof.Rows.sortedHeap_old hb (Heap.lt_size e)).trans e
    have kS : ∀ b o, s.heap.get? b = some o → (sortedHeap h2 h'.objs.size (as.map Value.ref) out).get? b = some o := fun b o e => kF b o (ne0 _ _ (hk b o e)) (kb b o e)
    obtain ⟨eF, heF⟩ := PyProof.Rows.sortedHeap_at (vs := as.map Value.ref) (out := out) hob
    have I1 : Inv X pins σ H { s with heap := sortedHeap h2 h'.objs.size (as.map Value.ref) out, toks := tk } := I.kept (t' := tk) kS
    have hn0 : H h'.objs.size = none := I.hok.fresh (Nat.le_of_lt hlt)
    have hlen : (zs.map fun z => V.ref z.1).length ≤ sizeLine := by
      have e := hperm.length_eq
      rw [List.length_map] at e
      rw [List.length_map, sizeLine_eq]
      omega
    have rv : Vals (zs.map fun z => V.ref z.1) out.toList := by
      rw [hout]
      exact vals_maps (fun z : Addr × Str × Addr => V.ref z.1) (fun z => Value.ref z.1) zs fun _ _ => rfl
    have I2 : Inv X pins σ (upd H h'.objs.size (.lst (zs.map fun z => V.ref z.1))) { s with heap := sortedHeap h2 h'.objs.size (as.map Value.ref) out, toks := tk } :=
      I1.take (h' := sortedHeap h2 h'.objs.size (as.map Value.ref) out) (t' := tk) (fun b ob _ e => e) (I.fpOk (Nat.le_of_lt hlt) hn0) ⟨hlen, out.toList, eF, rv, heF⟩
    obtain ⟨H2, I3, g, qt⟩ := takeT (P := fun b vs => ∃ (j : Nat) (e : Str × Addr), as[j]? = some b ∧ ks[j]? = some e ∧ vs = [.str e.1, .ref e.2]) I as _ I2 nd fun b hb => by
      obtain ⟨j, hj⟩ := List.mem_iff_getElem?.mp hb
      obtain ⟨e, t, he, hg⟩ := pr j b hj
      have hbl : s.heap.objs.size ≤ b := Nat.le_of_lt (hG.above b hb)
      refine ⟨hbl, ?_, [.str e.1, .ref e.2], ⟨j, e, hj, he, rfl⟩, fun H3 => ⟨(by rw [sizeLine_eq]; show 2 ≤ 16777216; omega), [Value.str e.1 t, Value.ref e.2], .cons ⟨t, rfl⟩ (.cons rfl .nil), ⟨_, kF _ _ (ne0 _ _ hg) (ka _ _ hg), rfl, 0, rfl⟩⟩⟩
      rw [upd_ne (ne0 _ _ hg)]
      exact I.hok.fresh hbl
    have gr : ∀ b o, H b = some o → H2 b = some o := fun b o e => g b o (by rw [upd_ne (ne_of_none e hn0)]; exact e)
    have nk := inv_nk I3
    refine ⟨.ref h'.objs.size, H2, I3, rfl, q H2 h'.objs.size zs (ext_of gr) hn0 hperm hsort (g _ _ upd_same) fun z' hz' => ?_⟩
    obtain ⟨i, i1, i2⟩ := idx z' hz'
    obtain ⟨vs, ⟨j, e, j1, j2, ev⟩, hH⟩ := qt z'.1 (List.mem_of_getElem? i1)
    have eij : i = j := (List.getElem?_inj (List.getElem?_eq_some_iff.mp i1).1 nd).mp (i1.trans j1.symm)
    subst eij
    have ee : e = z'.2 := Option.some.inj (j2.symm.trans i2)
    rw [ev, ee] at hH
    exact tupF_at (NK.at nk hH) hH
end
end Sq
set_option Elab.async false
set_option linter.all false
set_option maxRecDepth 100000
set_option maxHeartbeats 2000000
namespace Sq
open PySem PySem.Spec PyProof.Rows L2 L2.DX
/-! ### tuple(xs) whose object is known; dict(t) of a tuple of pairs -/
section
variable {X : Cx}
def rTupN (K : PySem.W.Frag) : List V → Hp → VK → Prop := fun xs H Q => ∃ p ys, xs = [.ref p] ∧ H p = some (.lst ys) ∧ ∀ q H2, Ext [] H H2 → tupF K H2 q = some ys → TupN H2 q ys → Q (.ref q) H2
theorem call_tupN (K : PySem.W.Frag) (hK : X.K = K := by rfl) : CallR X (.type "tuple") (rTupN K) := by
  subst hK
  intro pins s σ H xs us Q I r ⟨p, ys, e, h, q⟩
  subst e
  obtain ⟨u, rfl, rx⟩ := vals1 r
  cases rx
  obtain ⟨its, r', pl, hz⟩ := I.list (SqL.of h)
  have hlen := r'.length
  refine call_tuple_list pl.isList (fun h' kp => ?_) (by simp only [List.size_toArray] <;> omega)
  have I1 : Inv X pins σ H { s with heap := h' } := I.kept (t' := s.toks) kp
  exact laidN I1 r' hz q
def rDictT (K : PySem.W.Frag) : List V → Hp → VK → Prop := fun vs H Q => ∃ (a : Addr) (ps : List Addr) (kvs : List (Key × V)), vs = [.ref a] ∧ tupF K H a = some (ps.map V.ref) ∧ TupN H a (ps.map V.ref) ∧ Paired (fun p kv => tupF K H p = some [kV kv.1, kv.2]) ps kvs ∧
  ∀ p H2, H p = none → Ext [] H H2 → H2 p = some (.dK (mergeK [] kvs)) → Q (.ref p) H2
theorem paired_sq {K : PySem.W.Frag} {H : Hp} : ∀ {ps : List Addr} {kvs : List (Key × V)}, Paired (fun p kv => tupF K H p = some [kV kv.1, kv.2]) ps kvs → Paired (fun p kv => SqT K H p [kV kv.1, kv.2]) ps kvs
  | _, _, .nil => .nil
  | _, _, .cons h t => .cons (tupF_sq h) (paired_sq t)
theorem call_dictT (K : PySem.W.Frag) (hc : X.calm = true) (hK : X.K = K := by rfl) : CallR X (.type "dict") (rDictT K) := by
  subst hK
  intro pins s σ H xs us Q I r ⟨a, ps, kvs, e, h, hn, hp, q⟩
  subst e
  obtain ⟨u, rfl, rx⟩ := vals1 r
  cases rx
  obtain ⟨its, rv, pl, hz⟩ := I.tuple (tupF_sq h)
  obtain ⟨ob, hob, hdi⟩ := hn
  obtain ⟨hg, _, its2, rv2, ⟨o2, ho2, hc2, n2, hd2⟩⟩ := (show ObjOk X.prog X.w H s.heap a (.frz ob (.tup (ps.map V.ref))) from I.hok a _ hob)
  rw [hg] at ho2
  cases ho2
  have ei := refs_at rv2
  subst ei
  rw [List.length_map] at hz
  obtain ⟨prs, rel, hl, hpr⟩ := pairs_of I (paired_sq hp)
  -- the keys' values
  let kys : List Value := ps.map fun b => (DT.seqAt0 s.heap b).getD .none
  have hky : ∀ (j : Nat) (q' : Key × Value) (b : Addr) (u : Value), prs[j]? = some q' → ps[j]? = some b → IsTup s.heap b #[u, q'.2] → kys[j]? = some u := fun j q' b u _ e2 e3 => by
    show (ps.map _)[j]? = _
    rw [List.getElem?_map, e2]
    show some ((DT.seqAt0 s.heap b).getD .none) = _
    rw [DT.seqAt0_of e3]
    rfl
  have kl : kys.length = prs.length := by show (ps.map _).length = _; rw [List.length_map, hl]
  let pv : List (Value × Value) := kys.zip (prs.map (·.2))
  have hpv : pv.length = prs.length := by show (kys.zip _).length = _; rw [List.length_zip, kl, List.length_map, Nat.min_self]
  have pvat : ∀ (j : Nat) (k v : Value), pv[j]? = some (k, v) → ∃ (q' : Key × Value) (b : Addr), prs[j]? = some q' ∧ ps[j]? = some b ∧ v = q'.2 ∧ IsTup s.heap b #[k, v] ∧ keyIs q'.1 k = true := fun j k v e => by
    obtain ⟨e1, e2⟩ := List.getElem?_zip_eq_some.mp e
    rw [List.getElem?_map] at e2
    cases hj : prs[j]? with
    | none => rw [hj] at e2; cases e2
    | some q' =>
      rw [hj] at e2
      cases e2
      obtain ⟨b, u, g1, g2, g3⟩ := hpr j q' hj
      have e1 : kys[j]? = some k := e1
      rw [hky j q' b u hj g1 g2] at e1
      cases e1
      exact ⟨q', b, rfl, g1, rfl, g2, g3⟩
  refine call_dict_pairs (knd := mixKind X.prog X.w) (kvs := prs) (PairArg.tuple a (ps.map Value.ref).toArray (fun j => ps.getD j 0) pv) (I.ok.hd hc) ⟨⟨ob, n2, hg, hc2, hdi, hd2⟩, ?_, fun j k v e => ?_⟩ ⟨hpv.symm, fun i key v e => ?_⟩ (by rw [hpv, hl]; exact hz) fun h' tk hd' hk => ?_
  · rw [List.size_toArray, List.length_map, hpv, hl]
  · obtain ⟨q', b, _, g2, _, g4, _⟩ := pvat j k v e
    have eb : ps.getD j 0 = b := by rw [List.getD_eq_getElem?_getD, g2]; rfl
    dsimp only
    rw [eb]
    refine ⟨by simp [g2], .inl ?_⟩
    obtain ⟨o, ho, hc, n, hd⟩ := g4
    exact ⟨o, ho, hc, n, hd⟩
  · obtain ⟨q', b, g1, _, g3, _, g5⟩ := pvat i key v e
    exact ⟨q'.1, by rw [g1, g3], by rw [mixKind_is]; exact g5⟩
  · have hm : (s.heap.objs.size == sysModules) = false := beq_eq_false_iff_ne.mpr (Nat.ne_of_gt I.big)
    have hlen : (mergeK [] kvs).length ≤ sizeLine := by
      refine Nat.le_trans (length_mergeK kvs []) ?_
      rw [List.length_nil, Nat.zero_add, rel.length, hl]
      exact hz
    have hf := I.hok.fresh (Nat.le_refl s.heap.objs.size)
    exact ⟨.ref s.heap.objs.size, upd H s.heap.objs.size (.dK (mergeK [] kvs)), I.laid (t' := tk) (fun b o e => hk b o (by simp) e) (Nat.le_refl _) (show ObjOk X.prog X.w _ _ _ (.dK (mergeK [] kvs)) from ⟨hlen, hm, merged [] prs, KV.merge rel .nil, hd'⟩), rfl, q _ _ hf (Ext.new hf) upd_same⟩
end
end Sq
set_option Elab.async false
set_option linter.all false
set_option maxRecDepth 100000
set_option maxHeartbeats 2000000
namespace Sq
open PySem PySem.Spec PyProof.Rows L2 RZ
/-! ### dict(zip(names, row)) of two tuples -/
section
variable {prog : Program} {w : World} {z TI TO i1 i2 a1 a2 d : Addr} {us vs : Array Value}
/-- what stays while the pairs are drawn -/
structure DzB (i1 i2 a1 a2 TI : Addr) (us vs : Array Value) (n : Nat) (g : Heap) : Prop where
  ti : IsPair g TI (.ref i1) (.ref i2)
  x1 : g.IsTupleIter i1 a1 n
  x2 : g.IsTupleIter i2 a2 n
  y1 : g.IsTuple a1 us
  y2 : g.IsTuple a2 vs
/-- how the zip stands: before its first pair, or with a pair given out -/
def DzZ (z TI TO i1 i2 d : Addr) (g : Heap) : Prop := (IsZip g z TI TO .none ∧ ∃ p q, IsPair g TO p q) ∨ ∃ T f o, IsZipHeld g z TI TO T f ∧ g.get? T = some o ∧ (T ≠ z ∧ T ≠ i1 ∧ T ≠ i2 ∧ T ≠ d)
theorem DzB.to {n m : Nat} {g g' : Heap} (D : ZipApart z TI TO i1 i2 a1 a2) (s : DzB i1 i2 a1 a2 TI us vs n g) (k : ∀ c o, c ≠ z → c ≠ TO → c ≠ i1 → c ≠ i2 → g.get? c = some o → g'.get? c = some o)
    (x1 : g'.IsTupleIter i1 a1 m) (x2 : g'.IsTupleIter i2 a2 m) : DzB i1 i2 a1 a2 TI us vs m g' :=
  ⟨k _ _ D.TIz D.TITO D.TIi1 D.TIi2 s.ti, x1, x2, s.y1.at fun o e => k _ o D.l1z D.l1TO D.l1i1 D.l1i2 e, s.y2.at fun o e => k _ o D.l2z D.l2TO D.l2i1 D.l2i2 e⟩
theorem DzB.all {n : Nat} {g g' : Heap} (s : DzB i1 i2 a1 a2 TI us vs n g) (k : ∀ c, c ∈ [TI, i1, i2, a1, a2] → ∀ o, g.get? c = some o → g'.get? c = some o) : DzB i1 i2 a1 a2 TI us vs n g' :=
  ⟨k _ (by simp) _ s.ti, s.x1.at fun o e => k _ (by simp) o e, s.x2.at fun o e => k _ (by simp) o e, s.y1.at fun o e => k _ (by simp) o e, s.y2.at fun o e => k _ (by simp) o e⟩
theorem DzZ.all {g g' : Heap} (s : DzZ z TI TO i1 i2 d g) (k : ∀ c o, c ≠ d → g.get? c = some o → g'.get? c = some o) (n1 : z ≠ d) (n2 : TO ≠ d) : DzZ z TI TO i1 i2 d g' := by
  rcases s with ⟨s1, p, q, s2⟩ | ⟨T, f, o, s1, s2, s3⟩
  · exact .inl ⟨k _ _ n1 s1, p, q, k _ _ n2 s2⟩
  · exact .inr ⟨T, f, o, k _ _ n1 s1, k _ _ s3.2.2.2 s2, s3⟩
/-- all that the zip reads -/
def DzOk (z TI TO i1 i2 a1 a2 : Addr) (us vs : Array Value) (g : Heap) : Prop := DzB i1 i2 a1 a2 TI us vs 0 g ∧ IsZip g z TI TO .none ∧ ∃ p q, IsPair g TO p q
theorem argDz (D : ZipApart z TI TO i1 i2 a1 a2) : PairArg prog w "zip" z [z, TI, TO, i1, i2, a1, a2] [z, TO, i1, i2] (min us.size vs.size) (fun n k v => us[n]? = some k ∧ vs[n]? = some v) (DzOk z TI TO i1 i2 a1 a2 us vs) := by
  refine ⟨fun s ok => ⟨_, ok.2.1, rfl⟩, by decide, fun g g' ⟨b, s1, p, q, s2⟩ k => ⟨b.all fun c _ o e => k c o e, k _ _ s1, p, q, k _ _ s2⟩, fun g ⟨b, s1, p, q, s2⟩ c hc => ?_, fun c hc => ?_,
    fun A s Q E hA ok r => getAttrOr_miss_zip ok.2.1 rfl rfl rfl zip_no_keys (by decide +kernel) hA r, fun A s d Q E hA ok hd hn r => ?_⟩
  · obtain ⟨t0, ⟨o1, t1, _⟩, ⟨o2, t2, _⟩, ⟨o3, t3, _⟩, ⟨o4, t4, _⟩⟩ := b
    have hc : c = z ∨ c = TI ∨ c = TO ∨ c = i1 ∨ c = i2 ∨ c = a1 ∨ c = a2 := by simpa using hc
    rcases hc with e | e | e | e | e | e | e <;> subst e
    · exact ⟨_, s1⟩
    · exact ⟨_, t0⟩
    · exact ⟨_, s2⟩
    · exact ⟨_, t1⟩
    · exact ⟨_, t2⟩
    · exact ⟨_, t3⟩
    · exact ⟨_, t4⟩
  · have hc : c = z ∨ c = TO ∨ c = i1 ∨ c = i2 := by simpa using hc
    rcases hc with e | e | e | e <;> subst e <;> simp
  · obtain ⟨b, s1, p, q, s2⟩ := ok
    have nd : ∀ c, c ∈ [z, TI, TO, i1, i2, a1, a2] → c ≠ d := fun c hc e => hn (e ▸ hc)
    refine wpAny_pyIter_zip s1 (r z [z, TO, i1, i2] (fun n g => DzB i1 i2 a1 a2 TI us vs n g ∧ DzZ z TI TO i1 i2 d g) s.heap s.toks ⟨fun hm => ?_, fun n g g' st k => ?_, fun n s1 Q1 E1 hn1 st hds rr => ?_, fun s1 Q1 E1 st rr => ?_⟩ ⟨b, .inl ⟨s1, p, q, s2⟩⟩ (fun _ _ e => e) fun c hc => .inl hc)
    · have hm : d = z ∨ d = TO ∨ d = i1 ∨ d = i2 := by simpa using hm
      rcases hm with e | e | e | e
      · exact nd z (by simp) e.symm
      · exact nd TO (by simp) e.symm
      · exact nd i1 (by simp) e.symm
      · exact nd i2 (by simp) e.symm
    · exact ⟨st.1.all fun c hc o e => k _ o (nd c (by simp at hc ⊢; rcases hc with h | h | h | h | h <;> simp [h])) e, st.2.all (fun c o h e => k c o h e) (nd z (by simp)) (nd TO (by simp))⟩
    · obtain ⟨sb, sz⟩ := st
      have e1 := Array.getElem?_eq_getElem (xs := us) (i := n) (by omega)
      have e2 := Array.getElem?_eq_getElem (xs := vs) (i := n) (by omega)
      have far : ∀ {c o}, s1.heap.get? c = some o → s1.heap.objs.size ≠ c := fun e => Nat.ne_of_gt (Heap.lt_size e)
      have f1 : s1.heap.objs.size ≠ i1 := by obtain ⟨_, e, _⟩ := sb.x1; exact far e
      have f2 : s1.heap.objs.size ≠ i2 := by obtain ⟨_, e, _⟩ := sb.x2; exact far e
      have out : ∀ {c : Addr}, c ∉ [z, TO, i1, i2] → c ≠ z ∧ c ≠ TO ∧ c ≠ i1 ∧ c ≠ i2 := fun h => by simpa [not_or] using h
      rcases sz with ⟨t1, p1, q1, t2⟩ | ⟨T, f, o, t1, t2, t3⟩
      · refine pyNext_zipT_item D t1 sb.ti t2 sb.x1 sb.x2 sb.y1 sb.y2 e1 e2 fun g w1 w2 w3 w4 w5 w6 k => ?_
        refine rr s1.heap.objs.size _ _ g s1.toks ⟨e1, e2⟩ (.inl ⟨_, w5, rfl, _, rfl⟩) ⟨sb.to D (fun c o c1 c2 c3 c4 e => k c o c1 c2 c3 c4 e) w3 w4, .inr ⟨s1.heap.objs.size, false, _, w1, w5, far t1, f1, f2, Nat.ne_of_gt hds⟩⟩ fun c o hc e => ?_
        obtain ⟨c1, c2, c3, c4⟩ := out hc
        exact k c o c1 c2 c3 c4 e
      · refine nextT_held_item D t1 t2 sb.ti sb.x1 sb.x2 sb.y1 sb.y2 e1 e2 fun g w1 w3 w4 w5 w6 k => ?_
        refine rr s1.heap.objs.size _ _ g s1.toks ⟨e1, e2⟩ (.inl ⟨_, w5, rfl, _, rfl⟩) ⟨sb.to D (fun c o c1 _ c3 c4 e => k c o c1 c3 c4 e) w3 w4, .inr ⟨T, true, o, w1, k _ _ t3.1 t3.2.1 t3.2.2.1 t2, t3⟩⟩ fun c o hc e => ?_
        obtain ⟨c1, c2, c3, c4⟩ := out hc
        exact k c o c1 c3 c4 e
    · obtain ⟨sb, sz⟩ := st
      have out : ∀ {c : Addr}, c ∉ [z, TO, i1, i2] → c ≠ z ∧ c ≠ TO ∧ c ≠ i1 ∧ c ≠ i2 := fun h => by simpa [not_or] using h
      have fin : us[min us.size vs.size]? = none ∨ vs[min us.size vs.size]? = none := by
        rcases Nat.le_total us.size vs.size with h | h
        · exact .inl (by rw [Array.getElem?_eq_none_iff]; omega)
        · exact .inr (by rw [Array.getElem?_eq_none_iff]; omega)
      rcases sz with ⟨t1, p1, q1, t2⟩ | ⟨T, f, o, t1, t2, t3⟩
      · exact pyNext_zipT_end hA D t1 sb.ti t2 sb.x1 sb.x2 sb.y1 sb.y2 fin fun g k => rr g s1.toks fun c o hc e => by
          obtain ⟨c1, c2, c3, c4⟩ := out hc
          exact k c o c1 c2 c3 c4 e
      · exact nextT_held_end hA D t1 t2 sb.ti sb.x1 sb.x2 sb.y1 sb.y2 fin fun g k => rr g s1.toks fun c o hc e => by
          obtain ⟨c1, c2, c3, c4⟩ := out hc
          exact k c o c1 c3 c4 e
end
theorem kv_zip : ∀ {ks : List Key} {ws : List V} {us : List Value}, Vals ws us → KV (ks.zip ws) (ks.zip us)
  | [], _, _, _ => .nil
  | _ :: _, _, _, .nil => .nil
  | _ :: _, _, _, .cons r rr => .cons ⟨rfl, r⟩ (kv_zip rr)
/-- names and values, told as keys and values -/
def nsKv (ns : List Str) (ws : List V) : List (Key × V) := (ns.map Sum.inr).zip ws
def tDZip (K : PySem.W.Frag) (ta : TA) : TE := fun σ H Q => ta σ H fun vs H1 => ∃ a b, ∃ ns : List Str, ∃ ws : List V, vs = [.ref a, .ref b] ∧ tupF K H1 a = some (ns.map V.str) ∧ tupF K H1 b = some ws ∧ ns.length = ws.length ∧ ns.length ≤ 100000 ∧
  ∀ S H2, H1 S = none → Ext [] H1 H2 → H2 S = some (.dK (mergeK [] (nsKv ns ws))) → Q (.ref S) H2
theorem pe_dzip {X : Cx} (K : PySem.W.Frag) {e e2 : Expr} {ta : TA} {p p2 pos pos2 : Pos} (hc : X.calm = true) (hg : Gl X "zip") (hm : X.mg "zip" = none) (hgl : Gl X "dict") (hml : X.mg "dict" = none) (ha : PA X [e, e2] ta)
    (hs : starEach [e, e2] X.env = (false, eval e X.env) :: starEach [e2] X.env := by rfl) (hpl : (backTo pos (starEach [e2] X.env)).any (·.1) = false := by rfl)
    (hs2 : starEach [.Call (.Name "zip" p) [e, e2] [] pos] X.env = [(false, eval (.Call (.Name "zip" p) [e, e2] [] pos) X.env)] := by rfl) (hK : X.K = K := by rfl) :
    PE X (.Call (.Name "dict" p2) [.Call (.Name "zip" p) [e, e2] [] pos] [] pos2) (tDZip K ta) := by
  subst hK
  refine ⟨fun pins s σ H Q I h => ?_⟩
  refine Call_ (ld_blt I hgl hml PyProof.Rows.boot_dict (PyProof.Rows.callWith_type1 ?_ hs2 rfl))
  rw [hs2]
  show wpAny _ _ (spliced ((false, eval (.Call (.Name "zip" p) [e, e2] [] pos) X.env) :: backTo pos2 (starEach [] X.env))) _ _ s
  refine Calls.spliced_cons ?_
  refine Call_ (ld_blt I hg hm PyProof.Rows.boot_zip (PyProof.Rows.callWith_type1 (thn (ha.run pos pins s σ H _ I h) fun us s1 ⟨vs, H1, I1, r1, q1⟩ => ?_) hs hpl))
  obtain ⟨a, b, ns, ws, ex, hqa, hqb, hlw, hl5, q⟩ := q1
  subst ex
  cases r1 with
  | cons r rr =>
  cases rr with
  | cons r' rr =>
  cases rr
  cases r
  cases r'
  have f5 : ∀ c, c ∈ [s1.heap.objs.size + 4, s1.heap.objs.size + 3, s1.heap.objs.size, s1.heap.objs.size + 1] → FpOk X pins H1 c := fun c hcm => by
    have hle : s1.heap.objs.size ≤ c := by
      simp only [List.mem_cons, List.not_mem_nil, or_false] at hcm
      omega
    exact I1.fpOk hle (I1.hok.fresh hle)
  obtain ⟨its, rv, p1, _⟩ := I1.tuple (tupF_sq hqa)
  obtain ⟨its2, rv2, p2, _⟩ := I1.tuple (tupF_sq hqb)
  obtain ⟨o1, ho1, _⟩ := id p1
  obtain ⟨o2, ho2, _⟩ := id p2
  have hl1 := rv.length
  have hl2 := rv2.length
  rw [List.length_map] at hl1
  refine call_zipT (show s1.heap.IsTuple a its.toArray from p1) (show s1.heap.IsTuple b its2.toArray from p2) fun h' hz hTI hTO h1 h2 hsz hk => Calls.spliced_nil ?_
  have I2 : L2.Inv X pins σ H1 { s1 with heap := h' } := I1.kept (t' := s1.toks) hk
  let prs : List (Key × Value) := (ns.map Sum.inr).zip its2
  have hpl2 : prs.length = ns.length := by show ((ns.map Sum.inr).zip its2).length = _; simp; omega
  have hpair : ∀ (i : Nat) (k v : Value), its.toArray[i]? = some k ∧ its2.toArray[i]? = some v → ∃ x, prs[i]? = some (x, v) ∧ (mixKind X.prog X.w).is x k = true := fun i k v ⟨h1, h2⟩ => by
    have h1 : its[i]? = some k := by simpa using h1
    have h2 : its2[i]? = some v := by simpa using h2
    obtain ⟨hi, _⟩ := List.getElem?_eq_some_iff.mp h1
    obtain ⟨y, hy⟩ : ∃ y, ns[i]? = some y := ⟨_, List.getElem?_eq_getElem (by omega)⟩
    have hy2 : (ns.map V.str)[i]? = some (.str y) := by simp [hy]
    obtain ⟨u, hu, ru⟩ := rv.get hy2
    rw [h1] at hu
    cases hu
    refine ⟨.inr y, ?_, ?_⟩
    · show ((ns.map Sum.inr).zip its2)[i]? = _
      rw [List.getElem?_zip_eq_some]
      exact ⟨by simp [hy], h2⟩
    · rw [mixKind_is]
      obtain ⟨t, rfl⟩ := ru
      simp [keyIs, Value.isStrOf]
  have D := PySem.W.ktu_apart s1.heap.objs.size a b (Heap.lt_size ho1) (Heap.lt_size ho2)
  refine PySem.call_dict_pairs (knd := mixKind X.prog X.w) (kvs := prs) (argDz D) (I.ok.hd hc) ⟨⟨hTI, h1, h2, (show s1.heap.IsTuple a its.toArray from p1).at fun o e => hk _ o e, (show s1.heap.IsTuple b its2.toArray from p2).at fun o e => hk _ o e⟩, hz, _, _, hTO⟩ ⟨?_, fun i k v e => ?_⟩ ?_ fun g tk hd' hkk => ?_
  · rw [hpl2]; simp; omega
  · exact hpair i k v e
  · simp; have : (100000 : Nat) ≤ sizeLine := by decide
    omega
  · have hm : (h'.objs.size == sysModules) = false := beq_eq_false_iff_ne.mpr (Nat.ne_of_gt I2.big)
    have rel : KV (nsKv ns ws) prs := kv_zip rv2
    have hlen : (mergeK [] (nsKv ns ws)).length ≤ sizeLine := by
      refine Nat.le_trans (length_mergeK _ []) ?_
      rw [List.length_nil, Nat.zero_add, rel.length, hpl2]
      exact Nat.le_trans hl5 (by decide)
    have hf := I2.hok.fresh (Nat.le_refl h'.objs.size)
    exact ⟨.ref h'.objs.size, upd H1 h'.objs.size (.dK (mergeK [] (nsKv ns ws))), I2.turnedNew (t' := tk) (ch := [s1.heap.objs.size + 4, s1.heap.objs.size + 3, s1.heap.objs.size, s1.heap.objs.size + 1]) hkk f5 (Nat.le_refl _) (show ObjOk X.prog X.w _ _ _ (.dK (mergeK [] (nsKv ns ws))) from ⟨hlen, hm, merged [] prs, KV.merge rel .nil, hd'⟩), rfl, q _ _ hf (Ext.new hf) upd_same⟩
end Sq
set_option Elab.async false
set_option linter.all false
set_option maxRecDepth 100000
set_option maxHeartbeats 2000000
namespace Sq
open PySem PySem.Spec PyProof.Rows L2 RT
/-! ### formulas over things: small rules, worlds, tables -/
/-- dict(d) -/
def rDictV : List V → Hp → VK → Prop := fun xs H Q => ∃ (a : Addr) (kvs : List (Key × V)), xs = [.ref a] ∧ dctF H a = some kvs ∧ ∀ p H2, H p = none → Ext [] H H2 → H2 p = some (.dK kvs) → Q (.ref p) H2
theorem call_dictV {X : Cx} : CallR X (.type "dict") rDictV := fun pins s σ H xs us Q I r ⟨a, kvs, e, h, q⟩ =>
  call_dictD pins s σ H xs us Q I r ⟨a, kvs, e, dctF_rd h, fun p hp => q p _ hp (Ext.new hp) upd_same⟩
theorem ip_addS {X : Cx} : PIp X .Add rAddS := fun pins s σ H x y v u Q I rx ry h => in_addS pins s σ H x y v u Q I rx ry h
namespace Qf
/-- formulas whose parts are formulas alone -/
def isJ : Qf → Bool
  | not _ => true
  | bin _ _ _ => true
  | _ => false
def args : Qf → List Qf
  | not f => [f]
  | bin _ f g => [f, g]
  | _ => []
/-- the names of a relation's or a same's terms -/
def tms : Qf → List Str
  | rel _ x => [x]
  | same x y => [x, y]
  | _ => []
theorem dep_arg {f g : Qf} (h : g ∈ f.args) : g.dep < f.dep := by
  cases f <;> simp [args] at h
  · subst h; simp [dep]
  · rcases h with rfl | rfl <;> simp only [dep] <;> omega
theorem args_len (f : Qf) : f.args.length ≤ 2 := by cases f <;> simp [args]
theorem fv_arg {f g : Qf} (h : g ∈ f.args) {x : Str} (hx : x ∈ g.fv) : x ∈ f.fv := by
  cases f <;> simp [args] at h
  · subst h; exact hx
  · rcases h with rfl | rfl <;> simp [fv, hx]
theorem nms_arg {f g : Qf} (h : g ∈ f.args) {x : Str} (hx : x ∈ g.nms) : x ∈ f.nms := by
  cases f <;> simp [args] at h
  · subst h; exact hx
  · rcases h with rfl | rfl <;> simp [nms, hx]
theorem fv_args {f : Qf} (h : f.isJ = true) {x : Str} : x ∈ f.fv ↔ ∃ g ∈ f.args, x ∈ g.fv := by
  cases f <;> simp [isJ] at h <;> simp [fv, args]
/-- a formula's data by its kind and parts -/
theorem data_J {f : Qf} (h : f.isJ = true) : f.data = .tuple (.str f.hd :: f.args.map data) := by
  cases f <;> simp [isJ] at h <;> rfl
end Qf
section
variable {K : PySem.W.Frag} {H H' : Hp} {v : V} {f : Qf}
theorem qd_J (hj : f.isJ = true) (h : Td K H v f.data) : ∃ p us, v = .ref p ∧ tupF K H p = some (.str f.hd :: us) ∧ TdAll K H us (f.args.map Qf.data) := by
  rw [Qf.data_J hj] at h
  cases h with
  | tup e r => cases r with
    | cons h1 r => cases h1; exact ⟨_, _, rfl, e, r⟩
theorem qd_arg {us : List V} {f : Qf} (hw : TdAll K H us (f.args.map Qf.data)) {j : Nat} {u : V} (h : us[j]? = some u) : ∃ g, f.args[j]? = some g ∧ g ∈ f.args ∧ Td K H u g.data := by
  obtain ⟨d, e, t⟩ := hw.get h
  rw [List.getElem?_map] at e
  cases hg : f.args[j]? with
  | none => rw [hg] at e; cases e
  | some g => rw [hg] at e; cases e; exact ⟨g, rfl, List.mem_of_getElem? hg, t⟩
/-- the kinds -/
theorem hd_J (h : f.isJ = true) : f.hd = "not" ∨ f.hd = "and" ∨ f.hd = "or" := by
  cases f with
  | not g => exact .inl rfl
  | bin b g k => cases b
                 · exact .inr (.inr rfl)
                 · exact .inr (.inl rfl)
  | _ => cases h
/-! worlds -/
/-- the rows of a relation -/
def rowsL (n : Nat) (P : Nat → Bool) : List Nat := (List.range n).filter P
def rowD (l : List Nat) : PyData := .tuple (l.map fun k => .tuple [.int (k : Nat)])
def relF (P Q : Nat → Bool) (r : Str) (k : Nat) : Bool := if r = "P" then P k else Q k
structure WorldAt (K : PySem.W.Frag) (H : Hp) (v : V) (n : Nat) (P Q : Nat → Bool) : Prop where
  few : 1 ≤ n ∧ n ≤ 3
  ex : ∃ p e r vP vQ, v = .ref p ∧ tupF K H p = some [.int (n : Nat), .ref e, .ref r] ∧ H e = some (.dK []) ∧ H r = some (.dK [(.inr "P", vP), (.inr "Q", vQ)]) ∧ Td K H vP (rowD (rowsL n P)) ∧ Td K H vQ (rowD (rowsL n Q))
theorem WorldAt.ext {n : Nat} {P Q : Nat → Bool} (e : Ext [] H H') (h : WorldAt K H v n P Q) : WorldAt K H' v n P Q := by
  obtain ⟨p, e1, r, vP, vQ, rfl, h1, h2, h3, h4, h5⟩ := h.ex
  exact ⟨h.few, p, e1, r, vP, vQ, rfl, tupF_ext e h1, e.dK0 h2, e.dK0 h3, h4.ext e, h5.ext e⟩
/-! tables of things -/
def iv (k : Nat) : V := .int (k : Nat)
def envL (l : List (Str × Nat)) (x : Str) : Nat := (lkG l x).getD 0
theorem envL_put {l : List (Str × Nat)} {x : Str} {k : Nat} : envL (putG l x k) = up (envL l) x k := by
  funext y
  unfold envL up
  rw [lkG_put]
  by_cases h : y = x
  · rw [if_pos h, if_pos h]; rfl
  · rw [if_neg h, if_neg h]
end
/-! names x and y -/
def XYs : List Str := ["x", "y"]
theorem xy_list {hs : List Str} (xy : ∀ z ∈ hs, z = "x" ∨ z = "y") (nd : hs.Nodup) (so : sortedS hs = true) : hs = XYs.filter fun n => decide (n ∈ hs) := by
  unfold XYs
  match hs, nd, so, xy with
  | [], _, _, _ => simp
  | [a], _, _, xy =>
    rcases xy a (by simp) with e | e <;> subst e <;> decide +kernel
  | [a, b], nd, so, xy =>
    rcases xy a (by simp) with e | e <;> rcases xy b (by simp) with e' | e' <;> subst e <;> subst e'
    · exact absurd nd (by decide +kernel)
    · decide +kernel
    · exact absurd so (by decide +kernel)
    · exact absurd nd (by decide +kernel)
  | a :: b :: c :: r, nd, _, xy =>
    exfalso
    have := nodup_sub nd (m := ["x", "y"]) fun z hz => by simpa using xy z hz
    simp at this
def Qf.XY (f : Qf) : Prop := ∀ x ∈ f.nms, x = "x" ∨ x = "y"
theorem walk_revQ {K : PySem.W.Frag} {a : Addr} {xs : List V} : Walk (ItvT K a xs.length) xs.length (fun H => SqT K H a xs) (fun i H x H' => H' = H ∧ xs[xs.length - 1 - i]? = some x) :=
  ⟨fun i _ hi q => ⟨hi, xs, xs[xs.length - 1 - i]'(by omega), q, by simp [show xs.length - 1 - i < xs.length by omega]⟩, fun _ _ => Nat.le_refl _, fun _ _ _ _ _ q y => ⟨y.1, y.2 xs q⟩⟩
theorem Ext.overQ {S : List Addr} {H H1 H2 : Hp} {D : Addr} (a : Ext S H H1) (n : H D = none) (b : Ext (D :: S) H1 H2) : Ext S H H2 := by
  refine ⟨fun c o e h m => ?_, fun c o e => b.tup c o (a.tup c o e), fun c o u e => b.frz c o u (a.frz c o u e), fun P h => b.tab P (a.tab P h), fun P ps h k => b.tbl P ps (a.tbl P ps h k) fun z => ?_⟩
  · refine b.keep c o (a.keep c o e h m) (fun z => ?_) m
    rcases List.mem_cons.mp z with z | z
    · rw [z, n] at e; cases e
    · exact h z
  · rcases List.mem_cons.mp z with z | z
    · rw [z, n] at h; cases h
    · exact k z
section
variable {K : PySem.W.Frag}
/-- a list of data, one for each item of a tuple; the object at R changes by turns -/
theorem lc_mapS {p R : Addr} {ws : List V} {ds : List PyData} {te : TE} {vs : List Nat} {σ : L2.St} {H1 : Hp} {Q : VK} {i : Nat} (st : Nat → Hp → Prop) (hs : ∀ j H D o, D ≠ R → st j H → st j (upd H D o)) (h0 : st 0 H1) {o0 : HO} (hR : H1 R = some o0)
    (hp : tupF K H1 p = some ws) (hlen : ds.length = ws.length) (hsz : ws.length ≤ 100000)
    (hσ : ∀ x, wipe ((wipe σ vs).set i (some x)) vs = wipe σ vs)
    (hte : ∀ (j : Nat) (x : V) (d : PyData) (H' : Hp) (T : VK), ws[j]? = some x → ds[j]? = some d → Ext [R] H1 H' → st j H' → (∀ y H'', Ext [R] H' H'' → st (j + 1) H'' → Td K H'' y d → T y H'') → te ((wipe σ vs).set i (some x)) H' T)
    (hd : ∀ D ys H', H1 D = none → Ext [R] H1 H' → st ws.length H' → H' D = some (.lst ys) → TdAll K H' ys ds → Q (.ref D) H') : LcB (Itt K p) (gName i) tYes te vs σ H1 Q := by
  have ne : ∀ {D}, H1 D = none → D ≠ R := fun h e => by rw [e, hR] at h; cases h
  refine lc_go walk_tup (fun D j ys H' => ys.length = j ∧ Ext [R] H1 H' ∧ st j H' ∧ TdAll K H' ys (ds.take j)) (fun D hD => ⟨rfl, (Ext.new hD).any, hs _ _ _ _ (ne hD) h0, by rw [List.take_zero]; exact .nil⟩) (fun D j ys H' ⟨_, e, _⟩ => tupF_sq (tupF_ext e hp)) (fun D j x ys H' H'' hD hj ⟨hl, e, s, t⟩ _ hys y => ?_) fun D ys H' hD ⟨hl, e, s, t⟩ hys _ => ?_
  · obtain ⟨rfl, hx⟩ := y
    have hj' : j < ds.length := by omega
    have hdj : ds[j]? = some (ds[j]) := List.getElem?_eq_getElem hj'
    have hs1 : (100000 : Nat) < sizeLine := by decide
    refine ⟨hσ x, ?_⟩
    simp only [tYes, if_true]
    refine hte j x _ _ _ hx hdj e s fun y H4 e4 s4 hy => ?_
    have hys4 := e4.lst hys (by simpa using ne hD)
    have es : Ext [D] H4 (upd H4 D (.lst (ys ++ [y]))) := Ext.setL List.mem_cons_self hys4
    refine ⟨ys, hys4, by omega, ys ++ [y], by rw [List.length_append, hl]; exact Nat.le_refl _, upd_same, by rw [List.length_append, hl]; rfl, (e.trans e4).overQ hD (es.mono fun b z => by simp at z; simp [z]), hs _ _ _ _ (ne hD) s4, ?_⟩
    rw [take_snoc hdj]
    exact ((t.ext e4).ext es).snoc (hy.ext es)
  · refine hd D ys H' hD e s hys ?_
    rw [← hlen, List.take_length] at t
    exact t
end
theorem merge_nq : ∀ (kvs done : List (Key × V)), ((done ++ kvs).map (·.1)).Nodup → mergeK done kvs = done ++ kvs
  | [], done, _ => by rw [List.append_nil]; rfl
  | (k, v) :: kvs, done, nd => by
    have h1 : putK done k v = done ++ [(k, v)] := by
      unfold putK
      have : (done.any fun kv => decide (kv.1 = k)) = false := by
        rw [List.any_eq_false]
        intro x hx e
        have e : x.1 = k := by simpa using e
        rw [List.map_append, List.nodup_append] at nd
        exact nd.2.2 x.1 (List.mem_map_of_mem hx) k (by simp) e
      rw [this]; rfl
    show mergeK (putK done k v) kvs = _
    rw [h1, merge_nq kvs (done ++ [(k, v)]) (by simpa using nd)]
    simp
theorem merge_ns {ns : List Str} {r : List Nat} (nd : ns.Nodup) (hl : ns.length = r.length) : mergeK [] (nsKv ns (r.map iv)) = kvG iv (ns.zip r) := by
  have e : nsKv ns (r.map iv) = kvG iv (ns.zip r) := by
    unfold nsKv kvG
    rw [List.zip_map]
    rfl
  rw [merge_nq, List.nil_append, e]
  rw [List.nil_append]
  unfold nsKv
  have : ((ns.map Sum.inr).zip (r.map iv)).map (·.1) = (ns.map (Sum.inr : Str → Key)) := by
    rw [List.map_fst_zip]
    simp [hl]
  rw [this]
  exact List.Pairwise.map _ (fun a b h e => h (Sum.inr.inj e)) nd
theorem lkG_zip {ns : List Str} {r : List Nat} (hl : ns.length = r.length) {x : Str} (hx : x ∈ ns) : ∃ k ∈ r, lkG (ns.zip r) x = some k := by
  induction ns generalizing r with
  | nil => cases hx
  | cons n ns ih =>
    cases r with
    | nil => cases hl
    | cons k r =>
      rw [List.zip_cons_cons]
      by_cases h : n = x
      · exact ⟨k, by simp, by simp [lkG, h]⟩
      · rcases List.mem_cons.mp hx with h1 | h1
        · exact absurd h1.symm h
        · obtain ⟨j, hj, e⟩ := ih (r := r) (by simpa using hl) h1
          exact ⟨j, by simp [hj], by simp [lkG, h, e]⟩
/-- a list of data, one for each item of a tuple, each told by a relation -/
theorem lc_rel {K : PySem.W.Frag} {p : Addr} {ws : List V} {te : TE} {vs : List Nat} {σ : L2.St} {H1 : Hp} {Q : VK} {i : Nat} (Rl : Nat → PyData → Prop)
    (hp : tupF K H1 p = some ws) (hsz : ws.length ≤ 100000)
    (hσ : ∀ x, wipe ((wipe σ vs).set i (some x)) vs = wipe σ vs)
    (hte : ∀ (j : Nat) (x : V) (H' : Hp) (T : VK), ws[j]? = some x → Ext [] H1 H' → (∀ y d H'', Ext [] H' H'' → Rl j d → Td K H'' y d → T y H'') → te ((wipe σ vs).set i (some x)) H' T)
    (hd : ∀ D ys ds H', H1 D = none → Ext [] H1 H' → H' D = some (.lst ys) → ds.length = ws.length → (∀ j d, ds[j]? = some d → Rl j d) → TdAll K H' ys ds → Q (.ref D) H') : LcB (Itt K p) (gName i) tYes te vs σ H1 Q := by
  refine lc_go walk_tup (fun D j ys H' => ys.length = j ∧ Ext [] H1 H' ∧ ∃ ds, ds.length = j ∧ TdAll K H' ys ds ∧ ∀ m d, ds[m]? = some d → Rl m d) (fun D hD => ⟨rfl, Ext.new hD, [], rfl, .nil, fun m d h => by simp at h⟩) (fun D j ys H' ⟨_, e, _⟩ => tupF_sq (tupF_ext e hp)) (fun D j x ys H' H'' hD hj ⟨hl, e, ds, hdl, t, hr⟩ _ hys y => ?_) fun D ys H' hD ⟨hl, e, ds, hdl, t, hr⟩ hys _ => hd D ys ds H' hD e hys hdl hr t
  obtain ⟨rfl, hx⟩ := y
  have hs1 : (100000 : Nat) < sizeLine := by decide
  refine ⟨hσ x, ?_⟩
  simp only [tYes, if_true]
  refine hte j x _ _ hx e fun y d H4 e4 hrd hy => ?_
  have hys4 := e4.lst0 hys
  have es : Ext [D] H4 (upd H4 D (.lst (ys ++ [y]))) := Ext.setL List.mem_cons_self hys4
  refine ⟨ys, hys4, by omega, ys ++ [y], by rw [List.length_append, hl]; exact Nat.le_refl _, upd_same, by rw [List.length_append, hl]; rfl, (e.trans e4).over hD es, ds ++ [d], by rw [List.length_append, hdl]; rfl, ((t.ext e4).ext es).snoc (hy.ext es), fun m d' h => ?_⟩
  by_cases hm : m < ds.length
  · rw [List.getElem?_append_left hm] at h
    exact hr m d' h
  · rw [List.getElem?_append_right (by omega)] at h
    have hm0 : m = ds.length := by
      have := (List.getElem?_eq_some_iff.mp h).1
      simp at this; omega
    subst hm0
    simp at h
    rw [← h, hdl]
    exact hrd
def qD (p : Bool × Str) : PyData := .tuple [.str (qnm p.1), .str p.2]
end Sq
set_option Elab.async false
set_option linter.all false
set_option pp.deepTerms false
set_option pp.deepTerms.threshold 14
set_option pp.maxSteps 200000
set_option format.width 2000
set_option format.indent 1
set_option maxRecDepth 100000
set_option maxHeartbeats 4000000
namespace Sq
open PySem PySem.Spec PyProof.Rows L2 RZ
/-! #### deep data compared -/
def DeepD (d : PyData) : Prop := d.canLay0 = true ∧ d.depth ≤ 180
def rEqQ (K : PySem.W.Frag) (neg : Bool) : R2 := fun x y H Q => ∃ d, Td K H x d ∧ ∃ e, Td K H y e ∧ DeepD d ∧ DeepD e ∧ Q (.bl (if neg then !PyData.eqv d e else PyData.eqv d e)) H
theorem unitsQ {k : Nat} {A : Around} (r : Room k A) : A.units + 190 < cLine := by have := r.un; omega
theorem op_eqQ {X : Cx} (K : PySem.W.Frag) (hu : X.A.units + 190 < cLine) (hK : X.K = K := by rfl) : OpR X (compareOp .Eq) (rEqQ K false) := by
  subst hK
  intro pins s σ H x y v u Q I rx ry ⟨d, hd, e, he, sd, se, q⟩
  obtain ⟨as, r1⟩ := Dp.reads I d x v hd.dp rx
  obtain ⟨bs, r2⟩ := Dp.reads I e y u he.dp ry
  exact SeqAt.compareEq_reads r1 r2 sd.1 se.1 (by have := sd.2; have := Nat.min_le_left d.depth e.depth; omega) ⟨.bl _, H, I, rfl, q⟩
theorem op_neQ {X : Cx} (K : PySem.W.Frag) (hu : X.A.units + 190 < cLine) (hK : X.K = K := by rfl) : OpR X (compareOp .NotEq) (rEqQ K true) := by
  subst hK
  intro pins s σ H x y v u Q I rx ry ⟨d, hd, e, he, sd, se, q⟩
  obtain ⟨as, r1⟩ := Dp.reads I d x v hd.dp rx
  obtain ⟨bs, r2⟩ := Dp.reads I e y u he.dp ry
  exact SeqAt.compareNe_reads r1 r2 sd.1 se.1 (by have := sd.2; have := Nat.min_le_left d.depth e.depth; omega) ⟨.bl _, H, I, rfl, q⟩
namespace Cg
def Ok : Cg → Prop
  | l _ => True
  | v x => PyData.strOk x = true
  | ap f a => f.Ok ∧ a.Ok
theorem nm_ok (k : Lt) : PyData.strOk k.nm = true := by cases k <;> decide +kernel
theorem lay : ∀ {t : Cg}, t.Ok → t.data.canLay0 = true
  | l k, _ => nm_ok k
  | v x, h => by
    have h : PyData.strOk x = true := h
    have : PyData.strOk "var" = true := by decide +kernel
    simp [data, PyData.canLay0, PyData.canLayAll0, h, this]
  | ap f a, h => by
    simp [data, PyData.canLay0, PyData.canLayAll0, lay h.1, lay h.2]
theorem dep_pos : ∀ t : Cg, 1 ≤ t.dep
  | l _ => Nat.le_refl _
  | v _ => by show 1 ≤ 2; decide
  | ap f a => Nat.succ_le_succ (Nat.zero_le _)
theorem dep_data : ∀ t : Cg, t.data.depth ≤ t.dep
  | l k => Nat.zero_le _
  | v x => by simp [data, PyData.depth, PyData.depthAll, dep]
  | ap f a => by
    have := dep_data f
    have := dep_data a
    have := dep_pos f
    simp [data, PyData.depth, PyData.depthAll, dep]
    omega
theorem deep {t : Cg} (h : t.Ok) (hd : t.dep ≤ 170) : DeepD t.data := ⟨lay h, Nat.le_trans (dep_data t) (by omega)⟩
theorem eqv_var : ∀ t : Cg, PyData.eqv t.data (.str "var") = false
  | l k => by cases k <;> decide +kernel
  | v _ => rfl
  | ap _ _ => rfl
theorem eqv_v : ∀ (t : Cg) (x : Str), PyData.eqv t.data (v x).data = decide (t = v x)
  | l k, x => by simp [data, PyData.eqv]
  | v y, x => by simp [data, PyData.eqv, PyData.eqvAll]; rw [Bool.eq_iff_iff]; simp
  | ap f a, x => by
    have := eqv_var f
    simp [data, PyData.eqv, PyData.eqvAll]
    intro h
    rw [h] at this; cases this
end Cg
section
variable {K : PySem.W.Frag} {H : Hp} {v : V}
theorem cg_v {x : Str} (h : Td K H v (Cg.data (.v x))) : ∃ p, v = .ref p ∧ tupF K H p = some [.str "var", .str x] := by
  cases h with
  | tup e r => cases r with
    | cons r1 r => cases r with
      | cons r2 r => cases r; cases r1; cases r2; exact ⟨_, rfl, e⟩
theorem cg_ap {f a : Cg} (h : Td K H v (Cg.data (.ap f a))) : ∃ p u w, v = .ref p ∧ tupF K H p = some [u, w] ∧ Td K H u f.data ∧ Td K H w a.data := by
  cases h with
  | tup e r => cases r with
    | cons r1 r => cases r with
      | cons r2 r => cases r; exact ⟨_, _, _, rfl, e, r1, r2⟩
theorem cg_l {k : Lt} (h : Td K H v (Cg.data (.l k))) : v = .str k.nm := by cases h; rfl
end
def LTS : List Str := ["S", "K", "I", "B", "C"]
structure GsL (K : PySem.W.Frag) (mg : Str → Option Value) (aLt : Addr) : Prop where
  g : mg "LETTERS" = some (.ref aLt)
  t : WrT K aLt (LTS.map V.str)
theorem nm_in (k : Lt) : k.nm ∈ LTS := by cases k <;> decide +kernel
local macro_rules | `(tactic| walk_at "rd") => `(tactic| simp only [tCont, tNever, iEnumL, tDG2, tTIdx, rU, tAugS, ipI, rGetN, iRng1, rIsTup, rIsStr, rEqF, rIsN, rNotN, tWhile, rEqQ, tDisp, tPairs, rIndexS, wipe, tNoPart, tDG2, tDGF, tDInF, tDNInF, sDPutF, tDNewF, rSortD, rInS, rInT, rEqLF, tDcF, tDc2F, tLcF, tForF, tAllF, tAnyF, tSumF, iStr, iEnumF, iZipF, iKeysF, iItems, tLZip, tYes, tSeq, tIfS, tNext, tRet, tRetN, tDrop, tTest, tB, tNot, tAnd, tOr, tChain, tOp, tUn, tCB, tCons, tNil, tC, tVar, tIf, tAndV, tOrV, tNotV, tAsg, tPar, tPar3, gName, gSub, gTupF, gCons, gNil, tTupF, tLstF, rI0, rI, rIxF, rIxG, rIxS, rSetF, rSlF, rCatF, rCatL, rTupL, rListT, rListL, rLenT, rLenL, iTupF, iLstF, rAppF, rExtF, rPopF, tBM, tBM0, tSl, tPart, rEq, rNe, tCall, L2.start,
  List.map_cons, List.map_nil, List.length_cons, List.length_nil, Nat.sub_self, List.replicate, List.append_nil, List.cons_append, List.nil_append, List.getElem?_cons_zero, List.getElem?_cons_succ, List.set_cons_zero, List.set_cons_succ,
  exSl, exI, exI2, exB, exS, exR, ex1, ex1', V.int.injEq, V.bl.injEq, V.ref.injEq, V.str.injEq, Option.some.injEq, List.cons.injEq, and_true, true_and, reduceCtorEq, false_and, and_false, or_false, false_or, exists_false, exists_and_left, exists_eq_left', decide_eq_true_eq, decide_true, decide_false, if_false, if_true, ite_true, ite_false, Bool.false_eq_true, Bool.not_true, Bool.not_false, Nat.reduceAdd, Nat.reduceSub, Nat.zero_add, atI_0, atI_1, atI_2, atI_3, ixN_0, ixN_1, ixN_2, cutV_1, cutV_2, Option.some.injEq, HO.lst.injEq, HO.dK.injEq, scal])
local macro_rules | `(tactic| walk_at "rdc") => `(tactic| simp (config := { contextual := true }) only [tCont, tNever, iEnumL, tDG2, tTIdx, rU, tAugS, ipI, rGetN, iRng1, rIsTup, rIsStr, rEqF, rIsN, rNotN, tWhile, rEqQ, tDisp, tPairs, rIndexS, wipe, tNoPart, tDG2, tDGF, tDInF, tDNInF, sDPutF, tDNewF, rSortD, rInS, rInT, rEqLF, tDcF, tDc2F, tLcF, tForF, tAllF, tAnyF, tSumF, iStr, iEnumF, iZipF, iKeysF, iItems, tLZip, tYes, tSeq, tIfS, tNext, tRet, tRetN, tDrop, tTest, tB, tNot, tAnd, tOr, tChain, tOp, tUn, tCB, tCons, tNil, tC, tVar, tIf, tAndV, tOrV, tNotV, tAsg, tPar, tPar3, gName, gSub, gTupF, gCons, gNil, tTupF, tLstF, rI0, rI, rIxF, rIxG, rIxS, rSetF, rSlF, rCatF, rCatL, rTupL, rListT, rListL, rLenT, rLenL, iTupF, iLstF, rAppF, rExtF, rPopF, tBM, tBM0, tSl, tPart, rEq, rNe, tCall, L2.start,
  List.map_cons, List.map_nil, List.length_cons, List.length_nil, Nat.sub_self, List.replicate, List.append_nil, List.cons_append, List.nil_append, List.getElem?_cons_zero, List.getElem?_cons_succ, List.set_cons_zero, List.set_cons_succ,
  exSl, exI, exI2, exB, exS, exR, ex1, ex1', V.int.injEq, V.bl.injEq, V.ref.injEq, V.str.injEq, Option.some.injEq, List.cons.injEq, and_true, true_and, reduceCtorEq, false_and, and_false, or_false, false_or, exists_false, exists_and_left, exists_eq_left', decide_eq_true_eq, decide_true, decide_false, if_false, if_true, ite_true, ite_false, Bool.false_eq_true, Bool.not_true, Bool.not_false, Nat.reduceAdd, Nat.reduceSub, Nat.zero_add, atI_0, atI_1, atI_2, atI_3, ixN_0, ixN_1, ixN_2, cutV_1, cutV_2, Option.some.injEq, HO.lst.injEq, HO.dK.injEq, scal, *])
section
variable {P : Program} {w : World} {K : PySem.W.Frag} {mg : Str → Option Value} {base : Heap} {f c aLt aB : Addr} {fd : FuncData}
abbrev s_is_pair : Stmt := top 19
abbrev n_is_pair : List Str := ["thing"]
theorem sc_is_pair : FnScope n_is_pair ["thing"] (defScope s_is_pair) := ⟨rfl, rfl, rfl, by decide +kernel, rfl, by decide +kernel, by decide +kernel⟩
def spIsp (K : PySem.W.Frag) : Sp := fun vs H Q _ => ∃ (v : V) (t : Cg), vs = [v] ∧ Td K H v t.data ∧ t.Ok ∧ t.dep ≤ 160 ∧ Q (.bl t.isAp) H
theorem strvar : DeepD (.str "var") := ⟨by decide +kernel, by decide⟩
theorem ok_isp (F : Dn K mg "is_pair" s_is_pair f fd c) (B : Bl mg) : Cal P w K mg base 1 "is_pair" (spIsp K) := by
  refine F.cal (ps := ["thing"]) (fun _ _ _ _ _ _ us hl => match us, hl with | [_], _ => rfl) sc_is_pair (fun vs H Q E h => ?_) (fun A outer s H vs Q E hr h => ?_)
  · obtain ⟨_, _, rfl, _⟩ := h; rfl
  obtain ⟨v, t, rfl, ht, hok, hd, q⟩ := h
  refine ⟨_, (pss_one (ps_ret (pe_and (pe_callB (call_isTup K) (by rfl) B.b_isinstance (by decide +kernel) (pa_cons (pv 0) (pa_cons (pe_bltn (v := .ty "tuple") (u := .type "tuple") (by rfl) B.b_tuple (by decide +kernel) rfl) pa_nil))) (pe_one (pe_cmpR (op_neQ K (unitsQ hr)) (pe_ix (ix_tupK K) (pv 0) pe_int (fun _ _ => rfl)) pe_str (nomark _)))))), ?_⟩
  walk_at "rd"
  refine .inl ⟨t.data, ht, ?_⟩
  cases t with
  | l k => rw [if_neg (by exact Bool.false_ne_true)]; exact q
  | v x =>
    obtain ⟨p, rfl, hp⟩ := cg_v ht
    rw [if_pos (by rfl)]
    refine ⟨p, rfl, _, hp, _, atI_0, _, .str _, _, .str _, strvar, strvar, ?_⟩
    exact q
  | ap g a =>
    obtain ⟨p, u, w2, rfl, hp, hu, hw⟩ := cg_ap ht
    rw [if_pos (by rfl)]
    have hg : g.dep ≤ 160 := by rw [Cg.dep] at hd; omega
    refine ⟨p, rfl, _, hp, _, atI_0, _, hu, _, .str _, Cg.deep hok.1 (by omega), strvar, ?_⟩
    rw [Cg.eqv_var]
    exact q
abbrev s_is_closed : Stmt := top 18
abbrev n_is_closed : List Str := ["thing"]
theorem sc_is_closed : FnScope n_is_closed ["thing"] (defScope s_is_closed) := ⟨rfl, rfl, rfl, by decide +kernel, rfl, by decide +kernel, by decide +kernel⟩
def spIcl (K : PySem.W.Frag) (k : Nat) : Sp := fun vs H Q _ => ∃ (v : V) (t : Cg), vs = [v] ∧ Td K H v t.data ∧ t.Ok ∧ t.dep ≤ k ∧ t.dep ≤ 160 ∧ Q (.bl true) H
theorem ok_icl (F : Dn K mg "is_closed" s_is_closed f fd c) (B : Bl mg) (GL : GsL K mg aLt) : ∀ k, Cal P w K mg base k "is_closed" (spIcl K k) := by
  refine F.calRec (ps := ["thing"]) (fun _ _ _ _ _ _ us hl => match us, hl with | [_], _ => rfl) (fun vs H Q E ⟨v, t, _, _, _, h, _⟩ => by have := t.dep_pos; omega) fun k G_is_closed => ?_
  refine F.ok sc_is_closed (fun vs H Q E h => ?_) (fun A outer s H vs Q E hr h => ?_)
  · obtain ⟨_, _, rfl, _⟩ := h; rfl
  obtain ⟨v, t, rfl, ht, hok, hk, hd, q⟩ := h
  refine ⟨_, (pss_cons (ps_if (pt_val (pe_callB (call_isStr K) (by rfl) B.b_isinstance (by decide +kernel) (pa_cons (pv 0) (pa_cons (pe_bltn (v := .ty "str") (u := .type "str") (by rfl) B.b_str (by decide +kernel) rfl) pa_nil)))) (pss_one (ps_ret (pe_cmpR (op_inSK K) (pv 0) (pe_glob (v := .ref aLt) (by rfl) GL.g rfl) (by rfl)))) pss_nil)
    (pss_cons (ps_if (PW.pt (pw_or (pt_not (pt_val (pe_callB (call_isTup K) (by rfl) B.b_isinstance (by decide +kernel) (pa_cons (pv 0) (pa_cons (pe_bltn (v := .ty "tuple") (u := .type "tuple") (by rfl) B.b_tuple (by decide +kernel) rfl) pa_nil))))) (pw_or1 (pt_cmpR op_ne (pe_callB (call_lenK K) (by rfl) B.b_len (by decide +kernel) (pa_cons (pv 0) pa_nil)) pe_int (nomark _))))) (pss_one (ps_ret pe_bl)) pss_nil)
    (pss_cons (ps_if (pt_cmpR (op_eqQ K (unitsQ hr)) (pe_ix (ix_tupK K) (pv 0) pe_int (fun _ _ => rfl)) pe_str (nomark _)) (pss_one (ps_ret (pe_callB (call_isStr K) (by rfl) B.b_isinstance (by decide +kernel) (pa_cons (pe_ix (ix_tupK K) (pv 0) pe_int (fun _ _ => rfl)) (pa_cons (pe_bltn (v := .ty "str") (u := .type "str") (by rfl) B.b_str (by decide +kernel) rfl) pa_nil))))) pss_nil)
    (pss_one (ps_ret (pe_and (C8.pe_c G_is_closed hr (by omega) (by rfl) (pa_cons (pe_ix (ix_tupK K) (pv 0) pe_int (fun _ _ => rfl)) pa_nil)) (pe_one (C8.pe_c G_is_closed hr (by omega) (by rfl) (pa_cons (pe_ix (ix_tupK K) (pv 0) pe_int (fun _ _ => rfl)) pa_nil))))))))), ?_⟩
  walk_at "rd"
  refine ⟨t.data, ht, ?_⟩
  cases t with
  | l k =>
    rw [if_pos (by rfl)]
    obtain rfl := cg_l ht
    refine ⟨_, rfl, LTS, tupF_wr GL.t, ?_⟩
    rw [decide_eq_true (nm_in k)]
    exact q
  | v x =>
    obtain ⟨p, rfl, hp⟩ := cg_v ht
    rw [if_neg (by exact Bool.false_ne_true)]
    refine .inl ⟨_, ht, ?_⟩
    rw [if_neg (by exact Bool.false_ne_true)]
    refine ⟨p, rfl, _, hp, p, rfl, _, hp, _, atI_0, _, .str _, _, .str _, strvar, strvar, ?_⟩
    rw [if_pos (by decide +kernel)]
    refine ⟨p, rfl, _, hp, _, atI_1, _, .str _, ?_⟩
    exact q
  | ap g a =>
    obtain ⟨p, u, w2, rfl, hp, hu, hw⟩ := cg_ap ht
    rw [if_neg (by exact Bool.false_ne_true)]
    refine .inl ⟨_, ht, ?_⟩
    rw [if_neg (by exact Bool.false_ne_true)]
    rw [Cg.dep] at hk hd
    refine ⟨p, rfl, _, hp, p, rfl, _, hp, _, atI_0, _, hu, _, .str _, Cg.deep hok.1 (by omega), strvar, ?_⟩
    rw [if_neg (by rw [Cg.eqv_var]; decide)]
    refine ⟨p, rfl, _, hp, _, atI_0, u, g, rfl, hu, hok.1, by omega, by omega, true, rfl, ?_⟩
    rw [if_pos rfl]
    refine ⟨p, rfl, _, hp, _, atI_1, w2, a, rfl, hw, hok.2, by omega, by omega, ?_⟩
    exact q
abbrev s_has : Stmt := top 20
abbrev n_has : List Str := ["thing", "name"]
theorem sc_has : FnScope n_has ["thing", "name"] (defScope s_has) := ⟨rfl, rfl, rfl, by decide +kernel, rfl, by decide +kernel, by decide +kernel⟩
def spHas (K : PySem.W.Frag) (k : Nat) : Sp := fun vs H Q _ => ∃ (v : V) (t : Cg) (x : Str), vs = [v, .str x] ∧ Td K H v t.data ∧ t.Ok ∧ PyData.strOk x = true ∧ t.dep + 1 ≤ k ∧ t.dep ≤ 160 ∧ ∀ H', Ext [] H H' → Q (.bl (t.has x)) H'
theorem ok_has (F : Dn K mg "has" s_has f fd c) (B : Bl mg) (G_is_pair0 : Cal P w K mg base 1 "is_pair" (spIsp K)) : ∀ k, Cal P w K mg base k "has" (spHas K k) := by
  refine F.calRec (ps := ["thing", "name"]) (fun _ _ _ _ _ _ us hl => match us, hl with | [_, _], _ => rfl) (fun vs H Q E ⟨v, t, _, _, _, _, _, h, _⟩ => by omega) fun k G_has => ?_
  by_cases hk1 : k < 1
  · exact ⟨fun vs H Q E ⟨v, t, _, _, _, _, _, h, _⟩ => by have := t.dep_pos; omega, fun A outer s H args us vs Q E _ _ _ _ ⟨v, t, _, _, _, _, _, h, _⟩ => by have := t.dep_pos; omega⟩
  have G_is_pair := G_is_pair0.mono (k := k) (by omega)
  refine F.ok sc_has (fun vs H Q E h => ?_) (fun A outer s H vs Q E hr h => ?_)
  · obtain ⟨_, _, _, rfl, _⟩ := h; rfl
  obtain ⟨v, t, x, rfl, ht, hok, hx, hk, hd, q⟩ := h
  refine ⟨_, (pss_cons (ps_if (pt_val (C8.pe_c G_is_pair hr (by omega) (by rfl) (pa_cons (pv 0) pa_nil))) (pss_one (ps_ret (pe_or (C8.pe_c G_has hr (by omega) (by rfl) (pa_cons (pe_ix (ix_tupK K) (pv 0) pe_int (fun _ _ => rfl)) (pa_cons (pv 1) pa_nil))) (pe_one (C8.pe_c G_has hr (by omega) (by rfl) (pa_cons (pe_ix (ix_tupK K) (pv 0) pe_int (fun _ _ => rfl)) (pa_cons (pv 1) pa_nil))))))) pss_nil)
    (pss_one (ps_ret (pe_cmpR (op_eqQ K (unitsQ hr)) (pv 0) (pe_tupK K (pa_cons pe_str (pa_cons (pv 1) pa_nil))) (nomark _))))), ?_⟩
  walk_at "rd"
  refine ⟨v, t, rfl, ht, hok, hd, ?_⟩
  dsimp only
  have key : t.isAp = false → ∀ p1 H1, Ext [] H H1 → tupF K H1 p1 = some [.str "var", .str x] → rEqQ K false v (.ref p1) H1 fun y H' => Q y H' := fun hn p1 H1 e1 h1 => by
    have hv : DeepD (Cg.v x).data := Cg.deep hx (by show 2 ≤ 170; decide)
    refine ⟨_, ht.ext e1, (Cg.v x).data, .tup h1 (.cons (.str _) (.cons (.str _) .nil)), Cg.deep hok (by omega), hv, ?_⟩
    have : t.has x = decide (t = .v x) := by
      cases t with
      | l k => rfl
      | v y => simp [Cg.has]
      | ap g a => cases hn
    have q' := q H1 e1
    rw [this] at q'
    rw [if_neg (by decide), Cg.eqv_v]
    exact q'
  refine ⟨_, rfl, ?_⟩
  cases t with
  | l k2 =>
    rw [if_neg (by exact Bool.false_ne_true)]
    exact ⟨by decide, fun p1 H1 e1 h1 => key rfl p1 H1 e1 h1⟩
  | v y =>
    rw [if_neg (by exact Bool.false_ne_true)]
    exact ⟨by decide, fun p1 H1 e1 h1 => key rfl p1 H1 e1 h1⟩
  | ap g a =>
    clear key
    rw [if_pos (by rfl)]
    obtain ⟨p, u, w2, rfl, hp, hu, hw⟩ := cg_ap ht
    rw [Cg.dep] at hk hd
    refine ⟨p, rfl, _, hp, _, atI_0, u, g, x, rfl, hu, hok.1, hx, by omega, by omega, fun H1 e1 => ?_⟩
    refine ⟨_, rfl, ?_⟩
    have hh : (Cg.ap g a).has x = (g.has x || a.has x) := rfl
    rw [hh] at q
    cases hg : g.has x with
    | true =>
      rw [if_pos rfl]
      have := q H1 e1
      rw [hg] at this
      exact this
    | false =>
      rw [if_neg (by decide)]
      refine ⟨p, rfl, _, tupF_ext e1 hp, _, atI_1, w2, a, x, rfl, hw.ext e1, hok.2, hx, by omega, by omega, fun H2 e2 => ?_⟩
      have := q H2 (e1.trans e2)
      rw [hg, Bool.false_or] at this
      exact this
abbrev s_without : Stmt := top 21
abbrev n_without : List Str := ["name", "thing", "one", "other"]
theorem sc_without : FnScope n_without ["name", "thing"] (defScope s_without) := ⟨rfl, rfl, rfl, by decide +kernel, rfl, by decide +kernel, by decide +kernel⟩
theorem Cg.wo_dep (x : Str) : ∀ t : Cg, (t.wo x).dep ≤ 2 * t.dep + 1
  | .l k => by show 2 ≤ 3; decide
  | .v y => by
    rw [Cg.wo]
    split
    · show 1 ≤ 5; decide
    · show 3 ≤ 5; decide
  | .ap g a => by
    have h1 := Cg.wo_dep x g
    have h2 := Cg.wo_dep x a
    have p1 := g.dep_pos
    have p2 := a.dep_pos
    have hd : (Cg.ap g a).dep = max g.dep a.dep + 1 := rfl
    rw [Cg.wo]
    split
    · show max 1 (Cg.ap g a).dep + 1 ≤ _; omega
    · split
      · omega
      · split
        · show max (max 1 g.dep + 1) (a.wo x).dep + 1 ≤ _; omega
        · split
          · show max (max 1 (g.wo x).dep + 1) a.dep + 1 ≤ _; omega
          · show max (max 1 (g.wo x).dep + 1) (a.wo x).dep + 1 ≤ _; omega
theorem Cg.wo_ok {x : Str} : ∀ {t : Cg}, t.Ok → (t.wo x).Ok
  | .l _, _ => ⟨trivial, trivial⟩
  | .v y, h => by
    rw [Cg.wo]
    split
    · trivial
    · exact ⟨trivial, h⟩
  | .ap g a, h => by
    rw [Cg.wo]
    split
    · exact ⟨trivial, h⟩
    · split
      · exact h.1
      · split
        · exact ⟨⟨trivial, h.1⟩, Cg.wo_ok h.2⟩
        · split
          · exact ⟨⟨trivial, Cg.wo_ok h.1⟩, h.2⟩
          · exact ⟨⟨trivial, Cg.wo_ok h.1⟩, Cg.wo_ok h.2⟩
def spWo (K : PySem.W.Frag) (k : Nat) : Sp := fun vs H Q _ => ∃ (v : V) (t : Cg) (x : Str), vs = [.str x, v] ∧ Td K H v t.data ∧ t.Ok ∧ PyData.strOk x = true ∧ t.dep + 2 ≤ k ∧ t.dep ≤ 160 ∧ ∀ v' H', Ext [] H H' → Td K H' v' (t.wo x).data → Q v' H'
theorem ok_wo (F : Dn K mg "without" s_without f fd c) (B : Bl mg) (G_has0 : ∀ k, Cal P w K mg base k "has" (spHas K k)) : ∀ k, Cal P w K mg base k "without" (spWo K k) := by
  refine F.calRec (ps := ["name", "thing"]) (fun _ _ _ _ _ _ us hl => match us, hl with | [_, _], _ => rfl) (fun vs H Q E ⟨v, t, _, _, _, _, _, h, _⟩ => by omega) fun k G_without => ?_
  have G_has := G_has0 k
  refine F.ok sc_without (fun vs H Q E h => ?_) (fun A outer s H vs Q E hr h => ?_)
  · obtain ⟨_, _, _, rfl, _⟩ := h; rfl
  obtain ⟨v, t, x, rfl, ht, hok, hx, hk, hd, q⟩ := h
  refine ⟨_, (pss_cons (ps_if (pt_not (pt_val (C8.pe_c G_has hr (by omega) (by rfl) (pa_cons (pv 1) (pa_cons (pv 0) pa_nil))))) (pss_one (ps_ret (pe_tupK K (pa_cons pe_str (pa_cons (pv 1) pa_nil))))) pss_nil)
    (pss_cons (ps_if (pt_cmpR (op_eqQ K (unitsQ hr)) (pv 1) (pe_tupK K (pa_cons pe_str (pa_cons (pv 0) pa_nil))) (nomark _)) (pss_one (ps_ret pe_str)) pss_nil)
    (pss_cons (ps_if (PW.pt (pw_and (pt_cmpR (op_eqQ K (unitsQ hr)) (pe_ix (ix_tupK K) (pv 1) pe_int (fun _ _ => rfl)) (pe_tupK K (pa_cons pe_str (pa_cons (pv 0) pa_nil))) (nomark _)) (pw_and1 (pt_not (pt_val (C8.pe_c G_has hr (by omega) (by rfl) (pa_cons (pe_ix (ix_tupK K) (pv 1) pe_int (fun _ _ => rfl)) (pa_cons (pv 0) pa_nil)))))))) (pss_one (ps_ret (pe_ix (ix_tupK K) (pv 1) pe_int (fun _ _ => rfl)))) pss_nil)
    (PSs.hide (pss_cons (ps_asg (pv 1) (pg_tupK K (n := 2) (by rfl) (pgs_cons (pg_name (i := 2) sc_without.nd rfl (by first | exact Or.inl rfl | exact Or.inr rfl)) (pgs_cons (pg_name (i := 3) sc_without.nd rfl (by first | exact Or.inl rfl | exact Or.inr rfl)) pgs_nil))))
    (pss_cons (ps_if (pt_not (pt_val (C8.pe_c G_has hr (by omega) (by rfl) (pa_cons (pv 2) (pa_cons (pv 0) pa_nil))))) (pss_one (ps_ret (pe_tupK K (pa_cons (pe_tupK K (pa_cons pe_str (pa_cons (pv 2) pa_nil))) (pa_cons (C8.pe_c G_without hr (by omega) (by rfl) (pa_cons (pv 0) (pa_cons (pv 3) pa_nil))) pa_nil))))) pss_nil)
    (pss_cons (ps_if (pt_not (pt_val (C8.pe_c G_has hr (by omega) (by rfl) (pa_cons (pv 3) (pa_cons (pv 0) pa_nil))))) (pss_one (ps_ret (pe_tupK K (pa_cons (pe_tupK K (pa_cons pe_str (pa_cons (C8.pe_c G_without hr (by omega) (by rfl) (pa_cons (pv 0) (pa_cons (pv 2) pa_nil))) pa_nil))) (pa_cons (pv 3) pa_nil))))) pss_nil)
    (pss_one (ps_ret (pe_tupK K (pa_cons (pe_tupK K (pa_cons pe_str (pa_cons (C8.pe_c G_without hr (by omega) (by rfl) (pa_cons (pv 0) (pa_cons (pv 2) pa_nil))) pa_nil))) (pa_cons (C8.pe_c G_without hr (by omega) (by rfl) (pa_cons (pv 0) (pa_cons (pv 3) pa_nil))) pa_nil)))))))))))), ?_⟩
  walk_at "rd"
  refine ⟨v, t, x, rfl, ht, hok, hx, by omega, by omega, fun H1 e1 => ⟨_, rfl, ?_⟩⟩
  have hv : DeepD (Cg.v x).data := Cg.deep hx (by show 2 ≤ 170; decide)
  by_cases hh : t.has x = false
  · rw [if_pos (by rw [hh]; rfl)]
    have hw : t.wo x = .ap (.l .K) t := by
      cases t with
      | l k => rfl
      | v y => rw [Cg.wo, if_neg (fun z => by rw [z] at hh; simp [Cg.has] at hh)]
      | ap g a => rw [Cg.wo, if_pos hh]
    rw [hw] at q
    exact ⟨by decide, fun p2 H2 e2 h2 => q _ H2 (e1.trans e2) (.tup h2 (.cons (.str _) (.cons ((ht.ext e1).ext e2) .nil)))⟩
  rw [if_neg (by simpa using hh)]
  refine ⟨by decide, fun p2 H2 e2 h2 => ⟨_, (ht.ext e1).ext e2, (Cg.v x).data, .tup h2 (.cons (.str _) (.cons (.str _) .nil)), Cg.deep hok (by omega), hv, ?_⟩⟩
  rw [Cg.eqv_v]
  cases t with
  | l k => exact absurd rfl hh
  | v y =>
    have hy : y = x := by simpa [Cg.has] using hh
    subst hy
    rw [if_pos (by simp)]
    rw [Cg.wo, if_pos rfl] at q
    exact q _ H2 (e1.trans e2) (.str _)
  | ap g a =>
    rw [if_neg (by simp)]
    have ht2 := (ht.ext e1).ext e2
    obtain ⟨p, u, w2, rfl, hp, hu, hw⟩ := cg_ap ht2
    have e12 := e1.trans e2
    clear ht ht2 e1 e2 h2
    rw [Cg.wo, if_neg hh] at q
    have hk' := hk
    have hd' := hd
    rw [Cg.dep] at hk' hd'
    refine ⟨p, rfl, _, hp, _, atI_1, by decide, fun p3 H3 e3 h3 => ⟨_, hw.ext e3, (Cg.v x).data, .tup h3 (.cons (.str _) (.cons (.str _) .nil)), Cg.deep hok.2 (by omega), hv, ?_⟩⟩
    rw [Cg.eqv_v]
    generalize hT : (hideS _ : TS) = T
    have tail : ∀ J, Ext [] H3 J → ¬ (a = .v x ∧ g.has x = false) → T { nx := fun _ H' => Q .non H', rt := Q } [some (.str x), some (.ref p), none, none] J := fun J eJ hn => by
      rw [if_neg hn] at q
      rw [← hT, hideS_eq]
      have hpJ := tupF_ext (e3.trans eJ) hp
      have huJ := hu.ext (e3.trans eJ)
      have hwJ := hw.ext (e3.trans eJ)
      have eHJ := e12.trans (e3.trans eJ)
      clear hT hp hu hw e3 eJ h3
      walk_at "rd"
      refine ⟨_, hpJ, rfl, _, _, rfl, _, _, rfl, rfl, u, g, x, rfl, huJ, hok.1, hx, by omega, by omega, fun H4 e4 => ⟨_, rfl, ?_⟩⟩
      have hu4 := huJ.ext e4
      have hw4 := hwJ.ext e4
      by_cases hg : g.has x = false
      · rw [if_pos (by rw [hg]; rfl)]
        rw [if_pos hg] at q
        refine ⟨by decide, fun p5 H5 e5 h5 => ⟨w2, a, x, rfl, hw4.ext e5, hok.2, hx, by omega, by omega, fun v6 H6 e6 h6 => ⟨by decide, fun p7 H7 e7 h7 => ?_⟩⟩⟩
        exact q _ H7 (eHJ.trans (e4.trans (e5.trans (e6.trans e7)))) (.tup h7 (.cons (.tup (tupF_ext (e6.trans e7) h5) (.cons (.str _) (.cons (hu4.ext (e5.trans (e6.trans e7))) .nil))) (.cons (h6.ext e7) .nil)))
      rw [if_neg (by simpa using hg)]
      rw [if_neg hg] at q
      refine ⟨w2, a, x, rfl, hw4, hok.2, hx, by omega, by omega, fun H5 e5 => ⟨_, rfl, ?_⟩⟩
      have hu5 := hu4.ext e5
      have hw5 := hw4.ext e5
      by_cases ha : a.has x = false
      · rw [if_pos (by rw [ha]; rfl)]
        rw [if_pos ha] at q
        refine ⟨u, g, x, rfl, hu5, hok.1, hx, by omega, by omega, fun v6 H6 e6 h6 => ⟨by decide, fun p7 H7 e7 h7 => ⟨by decide, fun p8 H8 e8 h8 => ?_⟩⟩⟩
        exact q _ H8 (eHJ.trans (e4.trans (e5.trans (e6.trans (e7.trans e8))))) (.tup h8 (.cons (.tup (tupF_ext e8 h7) (.cons (.str _) (.cons (h6.ext (e7.trans e8)) .nil))) (.cons (hw5.ext (e6.trans (e7.trans e8))) .nil)))
      rw [if_neg (by simpa using ha)]
      rw [if_neg ha] at q
      refine ⟨u, g, x, rfl, hu5, hok.1, hx, by omega, by omega, fun v6 H6 e6 h6 => ⟨by decide, fun p7 H7 e7 h7 => ⟨w2, a, x, rfl, hw5.ext (e6.trans e7), hok.2, hx, by omega, by omega, fun v8 H8 e8 h8 => ⟨by decide, fun p9 H9 e9 h9 => ?_⟩⟩⟩⟩
      exact q _ H9 (eHJ.trans (e4.trans (e5.trans (e6.trans (e7.trans (e8.trans e9)))))) (.tup h9 (.cons (.tup (tupF_ext (e8.trans e9) h7) (.cons (.str _) (.cons (h6.ext (e7.trans (e8.trans e9))) .nil))) (.cons (h8.ext e9) .nil)))
    by_cases hav : a = .v x
    · rw [if_pos (by rw [hav]; simp)]
      refine ⟨p, rfl, _, tupF_ext e3 hp, _, atI_0, u, g, x, rfl, hu.ext e3, hok.1, hx, by omega, by omega, fun H4 e4 => ⟨_, rfl, ?_⟩⟩
      by_cases hg : g.has x = false
      · rw [if_pos (by rw [hg]; rfl)]
        rw [if_pos ⟨hav, hg⟩] at q
        exact ⟨p, rfl, _, tupF_ext (e3.trans e4) hp, _, atI_0, q _ H4 (e12.trans (e3.trans e4)) (hu.ext (e3.trans e4))⟩
      · rw [if_neg (by simpa using hg)]
        exact tail H4 e4 fun z => hg z.2
    · rw [if_neg (by simpa using hav)]
      exact tail H3 (Ext.refl _ _) fun z => hav z.1
abbrev s_of_bare : Stmt := top 22
abbrev n_of_bare : List Str := ["bare"]
theorem sc_of_bare : FnScope n_of_bare ["bare"] (defScope s_of_bare) := ⟨rfl, rfl, rfl, by decide +kernel, rfl, by decide +kernel, by decide +kernel⟩
def Bt.bd : Bt → Nat
  | .var _ => 2
  | .app t u => max t.bd u.bd + 1
  | .fn _ t => 2 * t.bd + 1
  | _ => 1
def Bt.Ok3 : Bt → Prop
  | .var x => PyData.strOk x = true
  | .app t u => t.Ok3 ∧ u.Ok3
  | .fn x t => PyData.strOk x = true ∧ t.Ok3
  | _ => False
theorem ofB_ok : ∀ {b : Bt}, b.Ok3 → (ofB b).Ok ∧ (ofB b).dep ≤ b.bd
  | .var x, h => ⟨h, Nat.le_refl _⟩
  | .app t u, h => by
    have h1 := ofB_ok h.1
    have h2 := ofB_ok h.2
    exact ⟨⟨h1.1, h2.1⟩, by show max (ofB t).dep (ofB u).dep + 1 ≤ max t.bd u.bd + 1; omega⟩
  | .fn x t, h => by
    have h1 := ofB_ok h.2
    have h2 := Cg.wo_dep x (ofB t)
    exact ⟨Cg.wo_ok h1.1, by show ((ofB t).wo x).dep ≤ 2 * t.bd + 1; omega⟩
  | .pair _ _, h => h.elim
  | .fst _, h => h.elim
  | .snd _, h => h.elim
def spOfB (K : PySem.W.Frag) (k : Nat) (aB : Addr) : Sp := fun vs H Q E => ∃ v : V, vs = [v] ∧ ((∃ b : Bt, Td K H v b.data ∧ b.Ok3 ∧ b.bd ≤ 100 ∧ b.dep + 104 ≤ k ∧ ∀ v' H', Ext [] H H' → Td K H' v' (ofB b).data → Q v' H') ∨ (∃ p, v = .ref p ∧ tupF K H p = some [.str "unit"] ∧ 1 ≤ k ∧ E (.ref aB) none H))
theorem bt_app {H : Hp} {v : V} {t u : Bt} (h : Td K H v (Bt.data (.app t u))) : ∃ p w1 w2, v = .ref p ∧ tupF K H p = some [.str "app", w1, w2] ∧ Td K H w1 t.data ∧ Td K H w2 u.data := by
  cases h with
  | tup e r => cases r with
    | cons r1 r => cases r with
      | cons r2 r => cases r with
        | cons r3 r => cases r; cases r1; exact ⟨_, _, _, rfl, e, r2, r3⟩
theorem bt_fn {H : Hp} {v : V} {x : Str} {t : Bt} (h : Td K H v (Bt.data (.fn x t))) : ∃ p w, v = .ref p ∧ tupF K H p = some [.str "fun", .str x, w] ∧ Td K H w t.data := by
  cases h with
  | tup e r => cases r with
    | cons r1 r => cases r with
      | cons r2 r => cases r with
        | cons r3 r => cases r; cases r1; cases r2; exact ⟨_, _, rfl, e, r3⟩
theorem ok_ofB (F : Dn K mg "of_bare" s_of_bare f fd c) (B : Bl mg) (X_BadTerm : Xc K mg "BadTerm" aB) (G_without0 : ∀ k, Cal P w K mg base k "without" (spWo K k)) : ∀ k, CalX P w K mg base k "of_bare" (spOfB K k aB) := by
  refine F.calXRec (ps := ["bare"]) (fun _ _ _ _ _ _ us hl => match us, hl with | [_], _ => rfl) (fun vs H Q E ⟨v, _, h⟩ => ?_) fun k G_of_bare => ?_
  · rcases h with ⟨b, _, _, _, h, _⟩ | ⟨_, _, _, h, _⟩ <;> omega
  have G_without := G_without0 k
  refine F.okX sc_of_bare (fun vs H Q E h => ?_) (fun A outer s H vs Q E hr h => ?_)
  · obtain ⟨_, rfl, _⟩ := h; rfl
  obtain ⟨v, rfl, h⟩ := h
  refine ⟨_, (pss_cons (ps_if (pt_cmpR op_eq (pe_ix (ix_tupK K) (pv 0) pe_int (fun _ _ => rfl)) pe_str (nomark _)) (pss_one (ps_ret (pv 0))) pss_nil)
    (pss_cons (ps_if (pt_cmpR op_eq (pe_ix (ix_tupK K) (pv 0) pe_int (fun _ _ => rfl)) pe_str (nomark _)) (pss_one (ps_ret (pe_tupK K (pa_cons (pe_cX G_of_bare hr (by omega) (takes_of rfl rfl rfl rfl) (fun _ _ _ _ h => h) (by rfl) (pa_cons (pe_ix (ix_tupK K) (pv 0) pe_int (fun _ _ => rfl)) pa_nil)) (pa_cons (pe_cX G_of_bare hr (by omega) (takes_of rfl rfl rfl rfl) (fun _ _ _ _ h => h) (by rfl) (pa_cons (pe_ix (ix_tupK K) (pv 0) pe_int (fun _ _ => rfl)) pa_nil)) pa_nil))))) pss_nil)
    (pss_cons (ps_if (pt_cmpR op_ne (pe_ix (ix_tupK K) (pv 0) pe_int (fun _ _ => rfl)) pe_str (nomark _)) (pss_one (ps_raiseX X_BadTerm (takes_of rfl rfl rfl rfl))) pss_nil)
    (pss_one (ps_ret (C8.pe_c G_without hr (by omega) (by rfl) (pa_cons (pe_ix (ix_tupK K) (pv 0) pe_int (fun _ _ => rfl)) (pa_cons (pe_cX G_of_bare hr (by omega) (takes_of rfl rfl rfl rfl) (fun _ _ _ _ h => h) (by rfl) (pa_cons (pe_ix (ix_tupK K) (pv 0) pe_int (fun _ _ => rfl)) pa_nil)) pa_nil)))))))), ?_⟩
  walk_at "rd"
  rcases h with ⟨b, hb, hok, hbd, hk, q⟩ | ⟨p, rfl, hp, hk, hE⟩
  · cases b with
    | var x =>
      obtain ⟨p, rfl, hp⟩ := cg_v (x := x) hb
      refine ⟨p, rfl, _, hp, _, atI_0, rfl, ?_⟩
      rw [if_pos rfl]
      exact q _ H (Ext.refl _ _) hb
    | app t u =>
      obtain ⟨p, w1, w2, rfl, hp, h1, h2⟩ := bt_app hb
      rw [Bt.bd] at hbd
      rw [Bt.dep] at hk
      refine ⟨p, rfl, _, hp, _, atI_0, rfl, ?_⟩
      rw [if_neg (by decide)]
      refine ⟨p, rfl, _, hp, _, atI_0, rfl, ?_⟩
      rw [if_pos rfl]
      refine ⟨p, rfl, _, hp, _, atI_1, w1, rfl, .inl ⟨t, h1, hok.1, by omega, by omega, fun v1 H1 e1 d1 => ⟨p, rfl, _, tupF_ext e1 hp, _, atI_2, w2, rfl, .inl ⟨u, h2.ext e1, hok.2, by omega, by omega, fun v2 H2 e2 d2 => ⟨by decide, fun p3 H3 e3 h3 => ?_⟩⟩⟩⟩⟩
      exact q _ H3 (e1.trans (e2.trans e3)) (.tup h3 (.cons (d1.ext (e2.trans e3)) (.cons (d2.ext e3) .nil)))
    | fn x t =>
      obtain ⟨p, w1, rfl, hp, h1⟩ := bt_fn hb
      rw [Bt.bd] at hbd
      rw [Bt.dep] at hk
      refine ⟨p, rfl, _, hp, _, atI_0, rfl, ?_⟩
      rw [if_neg (by decide)]
      refine ⟨p, rfl, _, hp, _, atI_0, rfl, ?_⟩
      rw [if_neg (by decide)]
      refine ⟨p, rfl, _, hp, _, atI_0, rfl, ?_⟩
      rw [if_neg (by decide)]
      obtain ⟨o1, o2⟩ := ofB_ok hok.2
      refine ⟨p, rfl, _, hp, _, atI_1, p, rfl, _, hp, _, atI_2, w1, rfl, .inl ⟨t, h1, hok.2, by omega, by omega, fun v1 H1 e1 d1 => ?_⟩⟩
      refine ⟨v1, ofB t, x, rfl, d1, o1, hok.1, by omega, by omega, fun v2 H2 e2 d2 => q _ H2 (e1.trans e2) d2⟩
    | _ => exact hok.elim
  · refine ⟨p, rfl, _, hp, _, atI_0, rfl, ?_⟩
    rw [if_neg (by decide)]
    refine ⟨p, rfl, _, hp, _, atI_0, rfl, ?_⟩
    rw [if_neg (by decide)]
    refine ⟨p, rfl, _, hp, _, atI_0, rfl, ?_⟩
    rw [if_pos (by decide)]
    exact hE
abbrev s_weight : Stmt := top 31
abbrev n_weight : List Str := ["thing"]
theorem sc_weight : FnScope n_weight ["thing"] (defScope s_weight) := ⟨rfl, rfl, rfl, by decide +kernel, rfl, by decide +kernel, by decide +kernel⟩
def spWt (K : PySem.W.Frag) (k : Nat) : Sp := fun vs H Q _ => ∃ (v : V) (t : Cg), vs = [v] ∧ Td K H v t.data ∧ t.Ok ∧ t.dep + 1 ≤ k ∧ t.dep ≤ 160 ∧ ∀ n : Nat, 1 ≤ n → Q (.int (n : Nat)) H
theorem ok_wt (F : Dn K mg "weight" s_weight f fd c) (B : Bl mg) (G_is_pair0 : Cal P w K mg base 1 "is_pair" (spIsp K)) : ∀ k, Cal P w K mg base k "weight" (spWt K k) := by
  refine F.calRec (ps := ["thing"]) (fun _ _ _ _ _ _ us hl => match us, hl with | [_], _ => rfl) (fun vs H Q E ⟨v, t, _, _, _, h, _⟩ => by omega) fun k G_weight => ?_
  by_cases hk1 : k < 1
  · exact ⟨fun vs H Q E ⟨v, t, _, _, _, h, _⟩ => by have := t.dep_pos; omega, fun A outer s H args us vs Q E _ _ _ _ ⟨v, t, _, _, _, h, _⟩ => by have := t.dep_pos; omega⟩
  have G_is_pair := G_is_pair0.mono (k := k) (by omega)
  refine F.ok sc_weight (fun vs H Q E h => ?_) (fun A outer s H vs Q E hr h => ?_)
  · obtain ⟨_, _, rfl, _⟩ := h; rfl
  obtain ⟨v, t, rfl, ht, hok, hk, hd, q⟩ := h
  refine ⟨_, (pss_one (ps_ret (pe_ifExp (pt_val (C8.pe_c G_is_pair hr (by omega) (by rfl) (pa_cons (pv 0) pa_nil))) (pe_op op_add (C8.pe_c G_weight hr (by omega) (by rfl) (pa_cons (pe_ix (ix_tupK K) (pv 0) pe_int (fun _ _ => rfl)) pa_nil)) (C8.pe_c G_weight hr (by omega) (by rfl) (pa_cons (pe_ix (ix_tupK K) (pv 0) pe_int (fun _ _ => rfl)) pa_nil))) pe_int))), ?_⟩
  walk_at "rd"
  refine ⟨v, t, rfl, ht, hok, hd, ?_⟩
  refine ⟨_, rfl, ?_⟩
  cases t with
  | l k2 => rw [if_neg (by exact Bool.false_ne_true)]; exact q 1 (Nat.le_refl _)
  | v y => rw [if_neg (by exact Bool.false_ne_true)]; exact q 1 (Nat.le_refl _)
  | ap g a =>
    rw [if_pos (by rfl)]
    obtain ⟨p, u, w2, rfl, hp, hu, hw⟩ := cg_ap ht
    rw [Cg.dep] at hk hd
    refine ⟨p, rfl, _, hp, _, atI_0, u, g, rfl, hu, hok.1, by omega, by omega, fun n1 l1 => ?_⟩
    refine ⟨p, rfl, _, hp, _, atI_1, w2, a, rfl, hw, hok.2, by omega, by omega, fun n2 l2 => ?_⟩
    refine ⟨_, rfl, _, rfl, ?_⟩
    have := q (n1 + n2) (by omega)
    push_cast at this
    exact this
end
end Sq
set_option Elab.async false
set_option linter.all false
set_option pp.deepTerms false
set_option pp.deepTerms.threshold 14
set_option pp.maxSteps 200000
set_option format.width 2000
set_option format.indent 1
set_option maxRecDepth 100000
set_option maxHeartbeats 4000000
namespace Sq
open PySem PySem.Spec PyProof.Rows L2 RZ
local macro_rules | `(tactic| walk_at "rd") => `(tactic| simp only [tCont, tNever, iEnumL, tDG2, tTIdx, rU, tAugS, ipI, rGetN, iRng1, rIsTup, rIsStr, rEqF, rIsN, rNotN, tWhile, rEqQ, tDisp, tPairs, rIndexS, wipe, tNoPart, tDG2, tDGF, tDInF, tDNInF, sDPutF, tDNewF, rSortD, rInS, rInT, rEqLF, tDcF, tDc2F, tLcF, tForF, tAllF, tAnyF, tSumF, iStr, iEnumF, iZipF, iKeysF, iItems, tLZip, tYes, tSeq, tIfS, tNext, tRet, tRetN, tDrop, tTest, tB, tNot, tAnd, tOr, tChain, tOp, tUn, tCB, tCons, tNil, tC, tVar, tIf, tAndV, tOrV, tNotV, tAsg, tPar, tPar3, gName, gSub, gTupF, gCons, gNil, tTupF, tLstF, rI0, rI, rIxF, rIxG, rIxS, rSetF, rSlF, rCatF, rCatL, rTupL, rListT, rListL, rLenT, rLenL, iTupF, iLstF, rAppF, rExtF, rPopF, tBM, tBM0, tSl, tPart, rEq, rNe, tCall, L2.start,
  List.map_cons, List.map_nil, List.length_cons, List.length_nil, Nat.sub_self, List.replicate, List.append_nil, List.cons_append, List.nil_append, List.getElem?_cons_zero, List.getElem?_cons_succ, List.set_cons_zero, List.set_cons_succ,
  exSl, exI, exI2, exB, exS, exR, ex1, ex1', V.int.injEq, V.bl.injEq, V.ref.injEq, V.str.injEq, Option.some.injEq, List.cons.injEq, and_true, true_and, reduceCtorEq, false_and, and_false, or_false, false_or, exists_false, exists_and_left, exists_eq_left', decide_eq_true_eq, decide_true, decide_false, if_false, if_true, ite_true, ite_false, Bool.false_eq_true, Bool.not_true, Bool.not_false, Nat.reduceAdd, Nat.reduceSub, Nat.zero_add, atI_0, atI_1, atI_2, atI_3, ixN_0, ixN_1, ixN_2, cutV_1, cutV_2, Option.some.injEq, HO.lst.injEq, HO.dK.injEq, scal])
local macro_rules | `(tactic| walk_at "rdc") => `(tactic| simp (config := { contextual := true }) only [tCont, tNever, iEnumL, tDG2, tTIdx, rU, tAugS, ipI, rGetN, iRng1, rIsTup, rIsStr, rEqF, rIsN, rNotN, tWhile, rEqQ, tDisp, tPairs, rIndexS, wipe, tNoPart, tDG2, tDGF, tDInF, tDNInF, sDPutF, tDNewF, rSortD, rInS, rInT, rEqLF, tDcF, tDc2F, tLcF, tForF, tAllF, tAnyF, tSumF, iStr, iEnumF, iZipF, iKeysF, iItems, tLZip, tYes, tSeq, tIfS, tNext, tRet, tRetN, tDrop, tTest, tB, tNot, tAnd, tOr, tChain, tOp, tUn, tCB, tCons, tNil, tC, tVar, tIf, tAndV, tOrV, tNotV, tAsg, tPar, tPar3, gName, gSub, gTupF, gCons, gNil, tTupF, tLstF, rI0, rI, rIxF, rIxG, rIxS, rSetF, rSlF, rCatF, rCatL, rTupL, rListT, rListL, rLenT, rLenL, iTupF, iLstF, rAppF, rExtF, rPopF, tBM, tBM0, tSl, tPart, rEq, rNe, tCall, L2.start,
  List.map_cons, List.map_nil, List.length_cons, List.length_nil, Nat.sub_self, List.replicate, List.append_nil, List.cons_append, List.nil_append, List.getElem?_cons_zero, List.getElem?_cons_succ, List.set_cons_zero, List.set_cons_succ,
  exSl, exI, exI2, exB, exS, exR, ex1, ex1', V.int.injEq, V.bl.injEq, V.ref.injEq, V.str.injEq, Option.some.injEq, List.cons.injEq, and_true, true_and, reduceCtorEq, false_and, and_false, or_false, false_or, exists_false, exists_and_left, exists_eq_left', decide_eq_true_eq, decide_true, decide_false, if_false, if_true, ite_true, ite_false, Bool.false_eq_true, Bool.not_true, Bool.not_false, Nat.reduceAdd, Nat.reduceSub, Nat.zero_add, atI_0, atI_1, atI_2, atI_3, ixN_0, ixN_1, ixN_2, cutV_1, cutV_2, Option.some.injEq, HO.lst.injEq, HO.dK.injEq, scal, *])
section
variable {P : Program} {w : World} {K : PySem.W.Frag} {mg : Str → Option Value} {base : Heap} {f c aLt aB aL : Addr} {fd : FuncData}
abbrev s_head : Stmt := top 23
abbrev n_head : List Str := ["thing", "row"]
theorem sc_head : FnScope n_head ["thing"] (defScope s_head) := ⟨rfl, rfl, rfl, by decide +kernel, rfl, by decide +kernel, by decide +kernel⟩
def spHead (K : PySem.W.Frag) : Sp := fun vs H Q _ => ∃ (v : V) (t : Cg), vs = [v] ∧ Td K H v t.data ∧ t.Ok ∧ t.dep ≤ 160 ∧ ∀ p v1 R ws H', Ext [] H H' → tupF K H' p = some [v1, .ref R] → Td K H' v1 t.hd.1.data → H' R = some (.lst ws) → TdAll K H' ws (t.hd.2.map Cg.data) → Q (.ref p) H'
theorem ok_head (F : Dn K mg "head" s_head f fd c) (B : Bl mg) (G_is_pair : Cal P w K mg base 1 "is_pair" (spIsp K)) : Cal P w K mg base 2 "head" (spHead K) := by
  refine F.cal (k := 1) (ps := ["thing"]) (fun _ _ _ _ _ _ us hl => match us, hl with | [_], _ => rfl) sc_head (fun vs H Q E h => ?_) (fun A outer s H vs Q E hr h => ?_)
  · obtain ⟨_, _, rfl, _⟩ := h; rfl
  obtain ⟨v, t, rfl, ht, hok, hd, q⟩ := h
  refine ⟨_, (pss_cons (ps_set (i := 1) sc_head.nd rfl (by first | exact Or.inl rfl | exact Or.inr rfl) (pe_lstF pa_nil))
    (pss_cons (ps_while PassesOwn.never (pt_val (C8.pe_c G_is_pair hr (by omega) (by rfl) (pa_cons (pv 0) pa_nil))) (pss_cons (ps_set (i := 1) sc_head.nd rfl (by first | exact Or.inl rfl | exact Or.inr rfl) (pe_op op_catL (pe_lstF (pa_cons (pe_ix (ix_tupK K) (pv 0) pe_int (fun _ _ => rfl)) pa_nil)) (pv 1)))
    (pss_one (ps_set (i := 0) sc_head.nd rfl (by first | exact Or.inl rfl | exact Or.inr rfl) (pe_ix (ix_tupK K) (pv 0) pe_int (fun _ _ => rfl))))))
    (pss_one (ps_ret (pe_tupK K (pa_cons (pv 0) (pa_cons (pv 1) pa_nil))))))), ?_⟩
  walk_at "rd"
  refine ⟨Nat.zero_le _, fun R0 H0 n0 e0 h0 => ?_⟩
  refine ⟨fun m σ' H' => ∃ v' u R ws r, m = u.dep ∧ σ' = [some v', some (.ref R)] ∧ Ext [] H H' ∧ Td K H' v' u.data ∧ u.Ok ∧ u.dep ≤ 160 ∧ H' R = some (.lst ws) ∧ TdAll K H' ws (r.map Cg.data) ∧ r.length + u.dep ≤ 170 ∧ t.hd = (u.hd.1, u.hd.2 ++ r), ⟨_, v, t, R0, [], [], rfl, rfl, e0, ht.ext e0, hok, hd, h0, .nil, by simp; omega, by simp⟩, ?_⟩
  rintro m σ' H1 ⟨v', u, R, ws, r, rfl, rfl, e1, hu, huk, hud, hR, hws, hlr, hhd⟩
  walk_at "rd"
  refine ⟨v', u, rfl, hu, huk, hud, ?_⟩
  refine ⟨_, rfl, ?_⟩
  cases u with
  | l k =>
    rw [if_neg (by exact Bool.false_ne_true)]
    refine ⟨by decide, fun p2 H2 e2 h2 => q p2 v' R ws H2 (e1.trans e2) h2 ?_ (e2.lst0 hR) ?_⟩
    · rw [hhd]; exact hu.ext e2
    · rw [hhd]; exact hws.ext e2
  | v y =>
    rw [if_neg (by exact Bool.false_ne_true)]
    refine ⟨by decide, fun p2 H2 e2 h2 => q p2 v' R ws H2 (e1.trans e2) h2 ?_ (e2.lst0 hR) ?_⟩
    · rw [hhd]; exact hu.ext e2
    · rw [hhd]; exact hws.ext e2
  | ap g a =>
    rw [if_pos (by rfl)]
    obtain ⟨p, w1, w2, rfl, hp, h1, h2'⟩ := cg_ap hu
    rw [Cg.dep] at hud hlr
    refine ⟨_, fun σ' H' h => h, ?_⟩
    refine ⟨p, rfl, _, hp, w2, atI_1, by decide, fun p2 H2 n2 e2 h2 => ⟨_, h2, _, e2.lst0 hR, ?_, fun p3 H3 n3 e3 h3 => ?_⟩⟩
    · have hl := hws.length
      rw [List.length_map] at hl
      have : (10000 : Nat) ≤ sizeLine := by decide
      have := g.dep_pos
      rw [List.length_cons, List.length_nil]
      omega
    have e23 := e2.trans e3
    refine ⟨p, rfl, _, tupF_ext e23 hp, w1, atI_0, ?_⟩
    refine ⟨g.dep, ?_, w1, g, rfl, p3, rfl, e1.trans e23, h1.ext e23, huk.1, by omega, _, h3, a :: r, .cons (h2'.ext e23) (hws.ext e23), ?_, ?_⟩
    · show g.dep < max g.dep a.dep + 1
      omega
    · rw [List.length_cons]; omega
    · rw [hhd]
      show (g.hd.1, (g.hd.2 ++ [a]) ++ r) = (g.hd.1, g.hd.2 ++ (a :: r))
      rw [List.append_assoc]; rfl
abbrev s_rule : Stmt := top 25
abbrev n_rule : List Str := ["letter", "row"]
theorem sc_rule : FnScope n_rule ["letter", "row"] (defScope s_rule) := ⟨rfl, rfl, rfl, by decide +kernel, rfl, by decide +kernel, by decide +kernel⟩
def spRule (K : PySem.W.Frag) : Sp := fun vs H Q _ => ∃ (k : Lt) (R : Addr) (ws : List V) (ts : List Cg) (u : Cg), vs = [.str k.nm, .ref R] ∧ H R = some (.lst ws) ∧ TdAll K H ws (ts.map Cg.data) ∧ Cg.rule (.l k) ts = some u ∧ ∀ v' H', Ext [] H H' → Td K H' v' u.data → Q v' H'
theorem ok_rule (F : Dn K mg "rule" s_rule f fd c) (B : Bl mg) : Cal P w K mg base 1 "rule" (spRule K) := by
  refine F.cal (ps := ["letter", "row"]) (fun _ _ _ _ _ _ us hl => match us, hl with | [_, _], _ => rfl) sc_rule (fun vs H Q E h => ?_) (fun A outer s H vs Q E hr h => ?_)
  · obtain ⟨_, _, _, _, _, rfl, _⟩ := h; rfl
  obtain ⟨k, R, ws, ts, u, rfl, hR, hws, hu, q⟩ := h
  refine ⟨_, (pss_cons (ps_if (pt_cmpR op_eq (pv 0) pe_str (nomark _)) (pss_one (ps_ret (pe_ix ix_lstF (pv 1) pe_int (fun _ _ => rfl)))) pss_nil)
    (pss_cons (ps_if (pt_cmpR op_eq (pv 0) pe_str (nomark _)) (pss_one (ps_ret (pe_ix ix_lstF (pv 1) pe_int (fun _ _ => rfl)))) pss_nil)
    (pss_cons (ps_if (pt_cmpR op_eq (pv 0) pe_str (nomark _)) (pss_one (ps_ret (pe_tupK K (pa_cons (pe_tupK K (pa_cons (pe_ix ix_lstF (pv 1) pe_int (fun _ _ => rfl)) (pa_cons (pe_ix ix_lstF (pv 1) pe_int (fun _ _ => rfl)) pa_nil))) (pa_cons (pe_tupK K (pa_cons (pe_ix ix_lstF (pv 1) pe_int (fun _ _ => rfl)) (pa_cons (pe_ix ix_lstF (pv 1) pe_int (fun _ _ => rfl)) pa_nil))) pa_nil))))) pss_nil)
    (pss_cons (ps_if (pt_cmpR op_eq (pv 0) pe_str (nomark _)) (pss_one (ps_ret (pe_tupK K (pa_cons (pe_ix ix_lstF (pv 1) pe_int (fun _ _ => rfl)) (pa_cons (pe_tupK K (pa_cons (pe_ix ix_lstF (pv 1) pe_int (fun _ _ => rfl)) (pa_cons (pe_ix ix_lstF (pv 1) pe_int (fun _ _ => rfl)) pa_nil))) pa_nil))))) pss_nil)
    (pss_one (ps_ret (pe_tupK K (pa_cons (pe_tupK K (pa_cons (pe_ix ix_lstF (pv 1) pe_int (fun _ _ => rfl)) (pa_cons (pe_ix ix_lstF (pv 1) pe_int (fun _ _ => rfl)) pa_nil))) (pa_cons (pe_ix ix_lstF (pv 1) pe_int (fun _ _ => rfl)) pa_nil))))))))), ?_⟩
  walk_at "rd"
  have c1 : ∀ {x : Cg} {r : List Cg} {ws : List V}, TdAll K H ws ((x :: r).map Cg.data) → ∃ y ys, ws = y :: ys ∧ Td K H y x.data ∧ TdAll K H ys (r.map Cg.data) := fun {x r ws} h => by
    cases h with
    | cons a b => exact ⟨_, _, rfl, a, b⟩
  have three : ∀ (f g x : Cg) (r : List Cg), ts = f :: g :: x :: r → ∃ y1 y2 y3 ys, ws = y1 :: y2 :: y3 :: ys ∧ Td K H y1 f.data ∧ Td K H y2 g.data ∧ Td K H y3 x.data := fun f g x r e => by
    rw [e] at hws
    obtain ⟨y1, r1, rfl, d1, hws⟩ := c1 hws
    obtain ⟨y2, r2, rfl, d2, hws⟩ := c1 hws
    obtain ⟨y3, r3, rfl, d3, hws⟩ := c1 hws
    exact ⟨y1, y2, y3, r3, rfl, d1, d2, d3⟩
  cases k with
  | I =>
    rw [if_pos (by rfl)]
    cases ts with
    | nil => cases hu
    | cons x r =>
      cases hu
      obtain ⟨y1, r1, rfl, d1, _⟩ := c1 hws
      exact ⟨_, hR, y1, atI_0, q _ H (Ext.refl _ _) d1⟩
  | K =>
    rw [if_neg (by decide +kernel), if_pos (by rfl)]
    match ts, hu, hws with
    | x :: y :: r, hu, hws =>
      cases hu
      obtain ⟨y1, r1, rfl, d1, _⟩ := c1 hws
      exact ⟨_, hR, y1, atI_0, q _ H (Ext.refl _ _) d1⟩
  | S =>
    rw [if_neg (by decide +kernel), if_neg (by decide +kernel), if_pos (by rfl)]
    match hts : ts, hu with
    | f :: g :: x :: r, hu =>
      cases hu
      obtain ⟨y1, y2, y3, ys, rfl, d1, d2, d3⟩ := three f g x r rfl
      refine ⟨_, hR, y1, atI_0, _, hR, y3, atI_2, by decide, fun p1 H1 e1 h1 => ⟨_, e1.lst0 hR, y2, atI_1, _, e1.lst0 hR, y3, atI_2, by decide, fun p2 H2 e2 h2 => ⟨by decide, fun p3 H3 e3 h3 => ?_⟩⟩⟩
      have e13 := e1.trans (e2.trans e3)
      exact q _ H3 e13 (.tup h3 (.cons (.tup (tupF_ext (e2.trans e3) h1) (.cons (d1.ext e13) (.cons (d3.ext e13) .nil))) (.cons (.tup (tupF_ext e3 h2) (.cons (d2.ext e13) (.cons (d3.ext e13) .nil))) .nil)))
  | B =>
    rw [if_neg (by decide +kernel), if_neg (by decide +kernel), if_neg (by decide +kernel), if_pos (by rfl)]
    match hts : ts, hu with
    | f :: g :: x :: r, hu =>
      cases hu
      obtain ⟨y1, y2, y3, ys, rfl, d1, d2, d3⟩ := three f g x r rfl
      refine ⟨_, hR, y1, atI_0, _, hR, y2, atI_1, _, hR, y3, atI_2, by decide, fun p1 H1 e1 h1 => ⟨by decide, fun p3 H3 e3 h3 => ?_⟩⟩
      have e13 := e1.trans e3
      exact q _ H3 e13 (.tup h3 (.cons (d1.ext e13) (.cons (.tup (tupF_ext e3 h1) (.cons (d2.ext e13) (.cons (d3.ext e13) .nil))) .nil)))
  | C =>
    rw [if_neg (by decide +kernel), if_neg (by decide +kernel), if_neg (by decide +kernel), if_neg (by decide +kernel)]
    match hts : ts, hu with
    | f :: g :: x :: r, hu =>
      cases hu
      obtain ⟨y1, y2, y3, ys, rfl, d1, d2, d3⟩ := three f g x r rfl
      refine ⟨_, hR, y1, atI_0, _, hR, y3, atI_2, by decide, fun p1 H1 e1 h1 => ⟨_, e1.lst0 hR, y2, atI_1, by decide, fun p3 H3 e3 h3 => ?_⟩⟩
      have e13 := e1.trans e3
      exact q _ H3 e13 (.tup h3 (.cons (.tup (tupF_ext e3 h1) (.cons (d1.ext e13) (.cons (d3.ext e13) .nil))) (.cons (d2.ext e13) .nil)))
abbrev s_step : Stmt := top 24
abbrev n_step : List Str := ["thing", "letter", "row", "need", "found", "other", "k", "after", "j"]
theorem sc_step : FnScope n_step ["thing"] (defScope s_step) := ⟨rfl, rfl, rfl, by decide +kernel, rfl, by decide +kernel, by decide +kernel⟩
theorem Cg.red_sub {f a : Cg} (h : Cg.red (.ap f a) = none) : Cg.red f = none := by
  have h1 := Cg.red_none h
  unfold Cg.red
  rw [if_neg]
  intro h2
  refine h1 ⟨h2.1, ?_⟩
  show f.hd.1.need ≤ (f.hd.2 ++ [a]).length
  rw [List.length_append]
  exact Nat.le_trans h2.2 (Nat.le_add_right _ _)
theorem Cg.row_none : ∀ {t : Cg}, Cg.red t = none → (∀ (j : Nat) (x : Cg), t.hd.2[j]? = some x → x.step = none) → t.step = none
  | .l _, _, _ => rfl
  | .v _, _, _ => rfl
  | .ap f a, h, k => by
    have h1 : f.step = none := Cg.row_none (Cg.red_sub h) fun j x hx => k j x (by
      show (f.hd.2 ++ [a])[j]? = some x
      rw [List.getElem?_append_left (by rw [List.getElem?_eq_some_iff] at hx; exact hx.1)]
      exact hx)
    have h2 : a.step = none := k f.hd.2.length a (by
      show (f.hd.2 ++ [a])[f.hd.2.length]? = some a
      rw [List.getElem?_append_right (Nat.le_refl _), Nat.sub_self]; rfl)
    rw [Cg.step, h]
    dsimp only
    rw [h1, h2]; rfl
theorem Cg.row_some : ∀ {t : Cg} {j : Nat} {x u : Cg}, Cg.red t = none → (∀ (i : Nat) (y : Cg), i < j → t.hd.2[i]? = some y → y.step = none) → t.hd.2[j]? = some x → x.step = some u → t.step = some (Cg.un t.hd.1 (t.hd.2.set j u))
  | .l _, j, x, u, _, _, hx, _ => by cases hx
  | .v _, j, x, u, _, _, hx, _ => by cases hx
  | .ap f a, j, x, u, h, k, hx, hu => by
    have hx : (f.hd.2 ++ [a])[j]? = some x := hx
    show _ = some (Cg.un f.hd.1 ((f.hd.2 ++ [a]).set j u))
    rw [Cg.step, h]
    dsimp only
    have k' : ∀ i y, i < j → f.hd.2[i]? = some y → y.step = none := fun i y hi hy => k i y hi (by
      show (f.hd.2 ++ [a])[i]? = some y
      rw [List.getElem?_append_left (by rw [List.getElem?_eq_some_iff] at hy; exact hy.1)]
      exact hy)
    by_cases hj : j < f.hd.2.length
    · rw [List.getElem?_append_left hj] at hx
      rw [Cg.row_some (Cg.red_sub h) k' hx hu]
      dsimp only
      rw [List.set_append_left _ _ hj]
      unfold Cg.un
      rw [List.foldl_append]; rfl
    · have hj2 : j = f.hd.2.length := by
        have := (List.getElem?_eq_some_iff.mp hx).1
        rw [List.length_append, List.length_singleton] at this
        omega
      subst hj2
      rw [List.getElem?_append_right (Nat.le_refl _), Nat.sub_self] at hx
      cases hx
      have h1 : f.step = none := Cg.row_none (Cg.red_sub h) fun i y hy => k' i y (List.getElem?_eq_some_iff.mp hy).1 hy
      rw [h1]
      dsimp only
      rw [hu, List.set_append_right _ _ (Nat.le_refl _), Nat.sub_self]
      show some (Cg.ap f u) = some (Cg.un f.hd.1 (f.hd.2 ++ [u]))
      unfold Cg.un
      rw [List.foldl_append]
      have := Cg.un_hd f
      unfold Cg.un at this
      rw [this]; rfl
theorem Cg.red_step {t u : Cg} (h : Cg.red t = some u) : t.step = some u := by
  cases t with
  | ap f a => rw [Cg.step, h]
  | l k => unfold Cg.red at h; split at h; rename_i z; exact absurd z.2 (by cases k <;> decide); cases h
  | v x => unfold Cg.red at h; split at h; rename_i z; exact absurd z.1 (by exact Nat.lt_irrefl 0); cases h
theorem Cg.row_ok : ∀ {t : Cg}, t.Ok → t.hd.1.Ok ∧ ∀ x ∈ t.hd.2, x.Ok ∧ x.dep < t.dep
  | .l _, h => ⟨h, fun _ z => nomatch z⟩
  | .v _, h => ⟨h, fun _ z => nomatch z⟩
  | .ap f a, h => by
    obtain ⟨h1, h2⟩ := Cg.row_ok h.1
    refine ⟨h1, fun x hx => ?_⟩
    have hx : x ∈ f.hd.2 ++ [a] := hx
    have hd : (Cg.ap f a).dep = max f.dep a.dep + 1 := rfl
    rcases List.mem_append.mp hx with z | z
    · obtain ⟨i1, i2⟩ := h2 x z
      exact ⟨i1, by omega⟩
    · rw [List.mem_singleton.mp z]
      exact ⟨h.2, by omega⟩
theorem Cg.row_len : ∀ t : Cg, t.hd.2.length ≤ t.dep
  | .l _ => Nat.zero_le _
  | .v _ => Nat.zero_le _
  | .ap f a => by
    have := Cg.row_len f
    show (f.hd.2 ++ [a]).length ≤ max f.dep a.dep + 1
    rw [List.length_append, List.length_singleton]
    omega
theorem Cg.hd_ap0 : ∀ t : Cg, t.hd.1.isAp = false
  | .l _ => rfl
  | .v _ => rfl
  | .ap f _ => Cg.hd_ap0 f
def spStC (K : PySem.W.Frag) (k : Nat) : Sp := fun vs H Q _ => ∃ (v : V) (t : Cg), vs = [v] ∧ Td K H v t.data ∧ t.Ok ∧ t.dep + 3 ≤ k ∧ t.dep ≤ 150 ∧ ∀ v' H', Ext [] H H' → (match t.step with | none => v' = .non | some u => Td K H' v' u.data) → Q v' H'
theorem ok_stC (F : Dn K mg "step" s_step f fd c) (B : Bl mg) (G_head0 : Cal P w K mg base 2 "head" (spHead K)) (G_rule0 : Cal P w K mg base 1 "rule" (spRule K)) : ∀ k, Cal P w K mg base k "step" (spStC K k) := by
  refine F.calRec (ps := ["thing"]) (fun _ _ _ _ _ _ us hl => match us, hl with | [_], _ => rfl) (fun vs H Q E ⟨v, t, _, _, _, h, _⟩ => by omega) fun k G_step => ?_
  by_cases hk1 : k < 2
  · exact ⟨fun vs H Q E ⟨v, t, _, _, _, h, _⟩ => by have := t.dep_pos; omega, fun A outer s H args us vs Q E _ _ _ _ ⟨v, t, _, _, _, h, _⟩ => by have := t.dep_pos; omega⟩
  have G_head := G_head0.mono (k := k) (by omega)
  have G_rule := G_rule0.mono (k := k) (by omega)
  refine F.ok sc_step (fun vs H Q E h => ?_) (fun A outer s H vs Q E hr h => ?_)
  · obtain ⟨_, _, rfl, _⟩ := h; rfl
  obtain ⟨v, t, rfl, ht, hok, hk, hd, q⟩ := h
  refine ⟨_, (pss_cons (ps_asg (C8.pe_c G_head hr (by omega) (by rfl) (pa_cons (pv 0) pa_nil)) (pg_tupK K (n := 2) (by rfl) (pgs_cons (pg_name (i := 1) sc_step.nd rfl (by first | exact Or.inl rfl | exact Or.inr rfl)) (pgs_cons (pg_name (i := 2) sc_step.nd rfl (by first | exact Or.inl rfl | exact Or.inr rfl)) pgs_nil))))
    (pss_cons (ps_set (i := 3) sc_step.nd rfl (by first | exact Or.inl rfl | exact Or.inr rfl) (pe_ifExp (pt_val (pe_callB (call_isStr K) (by rfl) B.b_isinstance (by decide +kernel) (pa_cons (pv 1) (pa_cons (pe_bltn (v := .ty "str") (u := .type "str") (by rfl) B.b_str (by decide +kernel) rfl) pa_nil)))) (pe_dget2F (hu_of hr) (pe_disp (pps_cons pe_str pe_int (pps_cons pe_str pe_int (pps_cons pe_str pe_int (pps_cons pe_str pe_int (pps_cons pe_str pe_int pps_nil))))) (by rfl) (by rfl) (fun z => by cases z) (by decide)) (pv 1) pe_int ⟨rfl, rfl, rfl, rfl⟩) pe_int))
    (PSs.hide (pss_cons (ps_if (PW.pt (pw_and (pt_cmpR op_gt (pv 3) pe_int (nomark _)) (pw_and1 (pt_cmpR op_ge (pe_callB call_lenL (by rfl) B.b_len (by decide +kernel) (pa_cons (pv 2) pa_nil)) (pv 3) (nomark _))))) (pss_cons (ps_set (i := 4) sc_step.nd rfl (by first | exact Or.inl rfl | exact Or.inr rfl) (C8.pe_c G_rule hr (by omega) (by rfl) (pa_cons (pv 1) (pa_cons (pv 2) pa_nil))))
    (pss_cons (ps_forF PassesOwn.never rfl (pi_lstK K (pe_slice sl_list (pv 2) (po_some (pv 3)) po_none)) (pg_name (i := 5) sc_step.nd rfl (by first | exact Or.inl rfl | exact Or.inr rfl)) (pss_one (ps_set (i := 4) sc_step.nd rfl (by first | exact Or.inl rfl | exact Or.inr rfl) (pe_tupK K (pa_cons (pv 4) (pa_cons (pv 5) pa_nil))))))
    (pss_one (ps_ret (pv 4))))) pss_nil)
    (PSs.hide (pss_cons (ps_forF PassesOwn.never rfl (pi_range1 (by rfl) B.b_range (pa_cons (pe_callB call_lenL (by rfl) B.b_len (by decide +kernel) (pa_cons (pv 2) pa_nil)) pa_nil)) (pg_name (i := 6) sc_step.nd rfl (by first | exact Or.inl rfl | exact Or.inr rfl)) (pss_cons (ps_set (i := 7) sc_step.nd rfl (by first | exact Or.inl rfl | exact Or.inr rfl) (C8.pe_c G_step hr (by omega) (by rfl) (pa_cons (pe_ix ix_lstF (pv 2) (pv 6) (fun _ _ => rfl)) pa_nil)))
    (pss_one (ps_if (pt_cmpR op_notN (pv 7) pe_non (nomark _)) (pss_cons (ps_set (i := 4) sc_step.nd rfl (by first | exact Or.inl rfl | exact Or.inr rfl) (pv 1))
    (pss_cons (ps_forF PassesOwn.never rfl (pi_enumLK K (by rfl) B.b_enumerate (pa_cons (pv 2) pa_nil)) (pg_tupZ K (n := 2) (by rfl) (pgs_cons (pg_name (i := 8) sc_step.nd rfl (by first | exact Or.inl rfl | exact Or.inr rfl)) (pgs_cons (pg_name (i := 5) sc_step.nd rfl (by first | exact Or.inl rfl | exact Or.inr rfl)) pgs_nil))) (pss_one (ps_set (i := 4) sc_step.nd rfl (by first | exact Or.inl rfl | exact Or.inr rfl) (pe_tupK K (pa_cons (pv 4) (pa_cons (pe_ifExp (pt_cmpR op_eq (pv 8) (pv 6) (nomark _)) (pv 7) (pv 5)) pa_nil))))))
    (pss_one (ps_ret (pv 4))))) pss_nil))))
    (pss_one (ps_ret pe_non)))))))), ?_⟩
  walk_at "rd"
  refine ⟨v, t, rfl, ht, hok, by omega, fun p v1 R ws H1 e1 hp hv1 hR hws => ⟨p, rfl, _, hp, rfl, _, _, rfl, _, _, rfl, rfl, ?_⟩⟩
  have hnap : t.hd.1.isAp = false := Cg.hd_ap0 t
  generalize hT : (hideS _ : TS) = T
  have tail : ∀ (nd : Nat) (H2 : Hp), Ext [] H1 H2 → nd = t.hd.1.need → T { nx := fun _ H' => Q .non H', rt := Q } [some v, some v1, some (.ref R), some (.int (nd : Nat)), none, none, none, none, none] H2 := fun nd H2 e2 hnd => by
    rw [← hT, hideS_eq]
    have hR2 := e2.lst0 hR
    have hws2 := hws.ext e2
    have hv2 := hv1.ext e2
    have e02 := e1.trans e2
    clear hT hR hws hv1 e1 e2 hp T
    have hwl := hws2.length
    rw [List.length_map] at hwl
    generalize hT : (hideS _ : TS) = T
    have tail2 : ¬ (0 < nd ∧ nd ≤ ws.length) → T { nx := fun _ H' => Q .non H', rt := Q } [some v, some v1, some (.ref R), some (.int (nd : Nat)), none, none, none, none, none] H2 := fun hn => by
      rw [← hT, hideS_eq]
      have hrn : Cg.red t = none := by
        unfold Cg.red
        rw [if_neg]
        rw [← hnd, ← hwl]
        exact hn
      obtain ⟨ok1, ok2⟩ := Cg.row_ok hok
      have hlw : ws.length ≤ 200 := Nat.le_trans (by rw [hwl]; exact Cg.row_len t) (by omega)
      walk_at "rd"
      refine ⟨_, hR2, by omega, by omega, ?_⟩
      rw [Int.toNat_natCast]
      refine for_go walk_range (fun i σ' H' => (∃ y6 y7, σ' = [some v, some v1, some (.ref R), some (.int (nd : Nat)), none, none, y6, y7, none]) ∧ Ext [] H2 H' ∧ ∀ (j : Nat) (y : Cg), j < i → t.hd.2[j]? = some y → y.step = none) ⟨⟨_, _, rfl⟩, Ext.refl _ _, fun j y z => absurd z (Nat.not_lt_zero _)⟩ (fun _ _ _ _ _ => trivial) (fun i x σ' H3 H3' hi ⟨⟨y6, y7, hσ⟩, e3, hno⟩ yy => ?_) fun σ' H3 ⟨⟨y6, y7, hσ⟩, e3, hno⟩ => ?_
      · obtain ⟨rfl, rfl⟩ := yy
        subst hσ
        obtain ⟨xw, hxw⟩ : ∃ xw, ws[i]? = some xw := ⟨_, List.getElem?_eq_getElem hi⟩
        obtain ⟨d, hd1, hd2⟩ := hws2.get hxw
        rw [List.getElem?_map] at hd1
        obtain ⟨tx, htx, rfl⟩ := Option.map_eq_some_iff.mp hd1
        obtain ⟨okx, dx⟩ := ok2 tx (List.mem_of_getElem? htx)
        walk_at "rd"
        refine ⟨_, e3.lst0 hR2, xw, by rw [Int.zero_add]; exact atI_nat hxw, ?_⟩
        refine ⟨xw, tx, rfl, hd2.ext e3, okx, by omega, by omega, fun v4 H4 e4 hm => ?_⟩
        dsimp only
        cases hst : tx.step with
        | none =>
          rw [hst] at hm
          subst hm
          rw [if_neg (by decide)]
          refine ⟨⟨_, rfl⟩, e3.trans e4, fun j y hj hy => ?_⟩
          by_cases hji : j = i
          · subst hji; rw [htx] at hy; cases hy; exact hst
          · exact hno j y (by omega) hy
        | some u =>
          rw [hst] at hm
          have hm : Td K H4 v4 u.data := hm
          have hne : v4 ≠ .non := fun z => by
            rw [z] at hm
            cases u <;> cases hm
          rw [if_pos (by simpa using hne)]
          have hR4 := e4.lst0 (e3.lst0 hR2)
          refine ⟨_, hR4, ?_⟩
          have e24 := e3.trans e4
          refine for_go walk_enum (fun j σ' H' => (∃ fnd y5 y8, σ' = [some v, some v1, some (.ref R), some (.int (nd : Nat)), some fnd, y5, some (.int (0 + (i : Nat))), some v4, y8] ∧ Td K H' fnd (Cg.un t.hd.1 ((t.hd.2.set i u).take j)).data) ∧ Ext [] H4 H') ⟨⟨v1, _, _, rfl, hv2.ext e24⟩, Ext.refl _ _⟩ (fun j σ' H' _ ⟨_, e⟩ => SqL.of (e.lst0 hR4)) (fun j z σ' H5 H5' hj ⟨⟨fnd, y5, y8, hσ, hf⟩, e5⟩ y => ?_) fun σ' H5 ⟨⟨fnd, y5, y8, hσ, hf⟩, e5⟩ => ?_
          · subst hσ
            refine pair_tgt y fun kx vx hkx hvx eT => ?_
            cases hkx
            obtain ⟨d, hd3, hd4⟩ := hws2.get hvx
            rw [List.getElem?_map] at hd3
            obtain ⟨tz, htz, rfl⟩ := Option.map_eq_some_iff.mp hd3
            walk_at "rd"
            refine ⟨_, _, ⟨rfl, rfl⟩, _, _, rfl, rfl, rfl, ?_⟩
            have eT5 := e5.trans eT
            have hset : (t.hd.2.set i u)[j]? = some (if j = i then u else tz) := by
              rw [List.getElem?_set]
              by_cases z : i = j
              · rw [if_pos z, if_pos z.symm, if_pos (by rw [← hwl]; exact hi)]
              · rw [if_neg z, if_neg (fun w => z w.symm)]; exact htz
            have hun : Cg.un t.hd.1 ((t.hd.2.set i u).take (j + 1)) = .ap (Cg.un t.hd.1 ((t.hd.2.set i u).take j)) (if j = i then u else tz) := by
              rw [take_snoc hset]
              unfold Cg.un
              rw [List.foldl_append]; rfl
            rw [hun]
            by_cases hji : j = i
            · rw [if_pos (by rw [hji, Int.zero_add]), if_pos hji]
              refine ⟨by decide, fun p6 H6 e6 h6 => ?_⟩
              exact ⟨⟨_, _, _, ⟨rfl, rfl, rfl⟩, .tup h6 (.cons (hf.ext (eT.trans e6)) (.cons (hm.ext (eT5.trans e6)) .nil))⟩, eT5.trans e6⟩
            · rw [if_neg (by intro z; have := V.int.inj z; omega), if_neg hji]
              refine ⟨by decide, fun p6 H6 e6 h6 => ?_⟩
              exact ⟨⟨_, _, _, ⟨rfl, rfl, rfl⟩, .tup h6 (.cons (hf.ext (eT.trans e6)) (.cons (hd4.ext (e24.trans (eT5.trans e6))) .nil))⟩, eT5.trans e6⟩
          · subst hσ
            walk_at "rd"
            have hlen : ws.length = (t.hd.2.set i u).length := by rw [List.length_set]; exact hwl
            rw [hlen, List.take_length] at hf
            have hs := Cg.row_some hrn (fun a y ha hy => hno a y ha hy) htx hst
            refine q _ H5 (e02.trans (e24.trans e5)) ?_
            rw [hs]
            exact hf
      · subst hσ
        walk_at "rd"
        have hs := Cg.row_none hrn fun j y hy => hno j y (by have := (List.getElem?_eq_some_iff.mp hy).1; omega) hy
        refine q _ H3 (e02.trans e3) ?_
        rw [hs]
    walk_at "rd"
    by_cases hn : 0 < nd ∧ nd ≤ ws.length
    · rw [if_pos (by omega)]
      refine ⟨_, hR2, ?_⟩
      rw [if_pos (by omega)]
      obtain ⟨k2, hk2⟩ : ∃ k2, t.hd.1 = .l k2 := by
        cases hh : t.hd.1 with
        | l k2 => exact ⟨k2, rfl⟩
        | v y => rw [hh] at hnd; have : nd = 0 := hnd; omega
        | ap g a => rw [hh] at hnap; cases hnap
      obtain ⟨u, hu⟩ := Cg.rule_some (h := t.hd.1) (r := t.hd.2) (by omega) (by omega)
      have hred : Cg.red t = some (Cg.un u (t.hd.2.drop nd)) := by
        unfold Cg.red
        rw [if_pos (by rw [← hnd, ← hwl]; exact hn), hu, ← hnd]; rfl
      have hs := Cg.red_step hred
      rw [hk2] at hv2 hu
      obtain rfl := cg_l hv2
      refine ⟨k2, R, ws, t.hd.2, u, rfl, hR2, hws2, hu, fun v3 H3 e3 h3 => ?_⟩
      refine ⟨R, ws, rfl, SqL.of (e3.lst0 hR2), fun R2 n4 => ⟨R2, rfl, _, upd_same, ?_⟩⟩
      have hcut : cutV ws (some ((nd : Nat) : Int)) none = ws.drop nd := cutV_from
      rw [hcut]
      have e4 : Ext [] H3 (upd H3 R2 (.lst (ws.drop nd))) := Ext.new n4
      have hR4 : upd H3 R2 (.lst (ws.drop nd)) R2 = some (.lst (ws.drop nd)) := upd_same
      generalize upd H3 R2 (.lst (ws.drop nd)) = H4 at e4 hR4 ⊢
      show ForB (Itl K R2) _ _ _ _ _
      refine for_go walk_list (fun j σ' H' => (∃ fnd y5, σ' = [some v, some (.str k2.nm), some (.ref R), some (.int (nd : Nat)), some fnd, y5, none, none, none] ∧ Td K H' fnd (Cg.un u ((t.hd.2.drop nd).take j)).data) ∧ Ext [] H4 H') ⟨⟨v3, _, rfl, h3.ext e4⟩, Ext.refl _ _⟩ (fun j σ' H' _ ⟨_, e⟩ => SqL.of (e.lst0 hR4)) (fun j z σ' H5 H5' hj ⟨⟨fnd, y5, hσ, hf⟩, e5⟩ y => ?_) fun σ' H5 ⟨⟨fnd, y5, hσ, hf⟩, e5⟩ => ?_
      · obtain ⟨rfl, hz⟩ := y
        subst hσ
        obtain ⟨d, hd3, hd4⟩ := (hws2.drop nd).get hz
        rw [← List.map_drop, List.getElem?_map] at hd3
        obtain ⟨tz, htz, rfl⟩ := Option.map_eq_some_iff.mp hd3
        have e25 := e3.trans (e4.trans e5)
        walk_at "rd"
        refine ⟨by decide, fun p6 H6 e6 h6 => ⟨?_, e5.trans e6⟩⟩
        refine ⟨_, _, ⟨rfl, rfl⟩, ?_⟩
        have hun : Cg.un u ((t.hd.2.drop nd).take (j + 1)) = .ap (Cg.un u ((t.hd.2.drop nd).take j)) tz := by
          rw [take_snoc htz]
          unfold Cg.un
          rw [List.foldl_append]; rfl
        rw [hun]
        exact .tup h6 (.cons (hf.ext e6) (.cons (hd4.ext (e25.trans e6)) .nil))
      · subst hσ
        walk_at "rd"
        have hlen : (ws.drop nd).length = (t.hd.2.drop nd).length := by rw [List.length_drop, List.length_drop, hwl]
        rw [hlen, List.take_length] at hf
        refine q _ H5 (e02.trans (e3.trans (e4.trans e5))) ?_
        rw [hs]
        exact hf
    · have ht2 := tail2 hn
      by_cases h0 : (0 : Int) < (nd : Nat)
      · rw [if_pos h0]
        refine ⟨_, hR2, ?_⟩
        rw [if_neg (by omega)]
        exact ht2
      · rw [if_neg h0]; exact ht2
  refine ⟨_, hv1, ?_⟩
  cases hh : t.hd.1 with
  | l k2 =>
    rw [hh] at hv1
    obtain rfl := cg_l hv1
    rw [if_pos (by rfl)]
    intro pD nD
    refine ⟨upd_same, [(.inr "I", .int 1), (.inr "K", .int 2), (.inr "S", .int 3), (.inr "B", .int 3), (.inr "C", .int 3)], rfl, by decide, ?_⟩
    have hm : ∀ L : List (Key × V), L = [(.inr "I", .int 1), (.inr "K", .int 2), (.inr "S", .int 3), (.inr "B", .int 3), (.inr "C", .int 3)] → mergeK [] L = L := fun L e => by rw [e]; rfl
    rw [hm _ rfl]
    have eD : Ext [] H1 (upd (upd H1 pD (.dK [])) pD (.dK [(.inr "I", .int 1), (.inr "K", .int 2), (.inr "S", .int 3), (.inr "B", .int 3), (.inr "C", .int 3)])) := (Ext.new nD).over nD (Ext.setD List.mem_cons_self upd_same)
    refine ⟨_, dctF_dK upd_same, k2.nm, rfl, _, dctF_dK upd_same, ?_⟩
    cases k2 <;> exact tail _ _ eD (by rw [hh]; rfl)
  | v y =>
    rw [if_neg (by exact Bool.false_ne_true)]
    exact tail 0 H1 (Ext.refl _ _) (by rw [hh]; rfl)
  | ap g a => rw [hh] at hnap; cases hnap
abbrev s_end : Stmt := top 26
abbrev n_end : List Str := ["thing", "most", "count", "after"]
theorem sc_end : FnScope n_end ["thing", "most"] (defScope s_end) := ⟨rfl, rfl, rfl, by decide +kernel, rfl, by decide +kernel, by decide +kernel⟩
theorem Cg.un_dep {h : Cg} : ∀ (r : List Cg) {h' : Cg}, h'.dep ≤ h.dep + 1 → (Cg.un h' r).dep ≤ (Cg.un h r).dep + 1
  | [], _, k => k
  | a :: r, h', k => Cg.un_dep (h := .ap h a) r (h' := .ap h' a) (by show max h'.dep a.dep + 1 ≤ max h.dep a.dep + 1 + 1; omega)
theorem Cg.rule_dep {h u : Cg} {r : List Cg} (hr : Cg.rule h r = some u) : u.dep ≤ (Cg.un h (r.take h.need)).dep + 1 ∧ ((∀ x ∈ r, x.Ok) → u.Ok) := by
  unfold Cg.rule at hr
  split at hr
  · cases hr; exact ⟨by show _ ≤ max 1 u.dep + 1 + 1; omega, fun h => h _ (by simp)⟩
  · rename_i y _
    cases hr; exact ⟨by show _ ≤ max (max 1 u.dep + 1) y.dep + 1 + 1; omega, fun h => h _ (by simp)⟩
  · rename_i f g x _
    cases hr; exact ⟨by show max (max f.dep x.dep + 1) (max g.dep x.dep + 1) + 1 ≤ max (max (max 1 f.dep + 1) g.dep + 1) x.dep + 1 + 1; omega, fun h => ⟨⟨h _ (by simp), h _ (by simp)⟩, h _ (by simp), h _ (by simp)⟩⟩
  · rename_i f g x _
    cases hr; exact ⟨by show max f.dep (max g.dep x.dep + 1) + 1 ≤ max (max (max 1 f.dep + 1) g.dep + 1) x.dep + 1 + 1; omega, fun h => ⟨h _ (by simp), h _ (by simp), h _ (by simp)⟩⟩
  · rename_i f g x _
    cases hr; exact ⟨by show max (max f.dep x.dep + 1) g.dep + 1 ≤ max (max (max 1 f.dep + 1) g.dep + 1) x.dep + 1 + 1; omega, fun h => ⟨⟨h _ (by simp), h _ (by simp)⟩, h _ (by simp)⟩⟩
  · cases hr
theorem Cg.un_ok : ∀ {r : List Cg} {h : Cg}, h.Ok → (∀ x ∈ r, x.Ok) → (Cg.un h r).Ok
  | [], _, h, _ => h
  | a :: r, h', h, k => Cg.un_ok (r := r) (h := .ap h' a) ⟨h, k a List.mem_cons_self⟩ fun x hx => k x (List.mem_cons_of_mem _ hx)
theorem Cg.step_dep : ∀ {t u : Cg}, t.step = some u → t.Ok → u.dep ≤ t.dep + 1 ∧ u.Ok
  | .ap f a, u, h, hok => by
    rw [Cg.step] at h
    cases hr : Cg.red (.ap f a) with
    | some w =>
      rw [hr] at h
      cases h
      generalize ht : Cg.ap f a = t at hr hok
      obtain ⟨o1, o2⟩ := Cg.row_ok hok
      unfold Cg.red at hr
      by_cases hc : 0 < t.hd.1.need ∧ t.hd.1.need ≤ t.hd.2.length
      · rw [if_pos hc] at hr
        obtain ⟨w, hw, rfl⟩ := Option.map_eq_some_iff.mp hr
        obtain ⟨d1, d2⟩ := Cg.rule_dep hw
        have h2 := Cg.un_dep (t.hd.2.drop t.hd.1.need) d1
        have h3 : Cg.un (Cg.un t.hd.1 (t.hd.2.take t.hd.1.need)) (t.hd.2.drop t.hd.1.need) = t := by
          have := Cg.un_hd t
          unfold Cg.un at this ⊢
          rw [← List.foldl_append, List.take_append_drop]
          exact this
        rw [h3] at h2
        exact ⟨h2, Cg.un_ok (d2 fun x hx => (o2 x hx).1) fun x hx => (o2 x (List.mem_of_mem_drop hx)).1⟩
      · rw [if_neg hc] at hr; cases hr
    | none =>
      rw [hr] at h
      dsimp only at h
      have hd : (Cg.ap f a).dep = max f.dep a.dep + 1 := rfl
      cases hf : f.step with
      | some f' =>
        rw [hf] at h
        cases h
        obtain ⟨i1, i2⟩ := Cg.step_dep hf hok.1
        exact ⟨by show max f'.dep a.dep + 1 ≤ _; omega, i2, hok.2⟩
      | none =>
        rw [hf] at h
        obtain ⟨a', ha, rfl⟩ := Option.map_eq_some_iff.mp h
        obtain ⟨i1, i2⟩ := Cg.step_dep ha hok.2
        exact ⟨by show max f.dep a'.dep + 1 ≤ _; omega, hok.1, i2⟩
/-- the last thing on the way and the count: its end, or none -/
def spEndC (K : PySem.W.Frag) (aL : Addr) : Sp := fun vs H Q E => ∃ (vt : V) (t : Cg) (m : Nat), vs = [vt, .int (m : Nat)] ∧ Td K H vt t.data ∧ t.Ok ∧ t.dep + m ≤ 140 ∧ m ≤ 100 ∧ match Cg.endC (m + 1) t 0 with
  | some (u, n) => ∀ (p : Addr) v H', Ext [] H H' → tupF K H' p = some [v, .int (n : Nat)] → Td K H' v u.data → u.Ok → u.dep ≤ 150 → Q (.ref p) H'
  | none => ∀ H', Ext [] H H' → E (.ref aL) none H'
theorem ok_endC (F : Dn K mg "end" s_end f fd c) (B : Bl mg) (X_TooLarge : Xc K mg "TooLarge" aL) (G_step : Cal P w K mg base 160 "step" (spStC K 160)) : CalX P w K mg base 161 "end" (spEndC K aL) := by
  refine F.calX (ps := ["thing", "most"]) (fun _ _ _ _ _ _ us hl => match us, hl with | [_, _], _ => rfl) sc_end (fun vs H Q E h => ?_) (fun A outer s H vs Q E hr h => ?_)
  · obtain ⟨_, _, _, rfl, _⟩ := h; rfl
  obtain ⟨vt, t, m, rfl, ht, hok, hdm, hm, h⟩ := h
  refine ⟨_, (pss_cons (ps_forF (passes_of rfl) rfl (pi_range1 (by rfl) B.b_range (pa_cons (pe_op op_add (pv 1) pe_int) pa_nil)) (pg_name (i := 2) sc_end.nd rfl (by first | exact Or.inl rfl | exact Or.inr rfl)) (pss_cons (ps_set (i := 3) sc_end.nd rfl (by first | exact Or.inl rfl | exact Or.inr rfl) (C8.pe_c G_step hr (by omega) (by rfl) (pa_cons (pv 0) pa_nil)))
    (pss_cons (ps_if (pt_cmpR op_isN (pv 3) pe_non (nomark _)) (pss_one (ps_ret (pe_tupK K (pa_cons (pv 0) (pa_cons (pv 2) pa_nil))))) pss_nil)
    (pss_one (ps_set (i := 0) sc_end.nd rfl (by first | exact Or.inl rfl | exact Or.inr rfl) (pv 3))))))
    (pss_one (ps_raiseX X_TooLarge (takes_of rfl rfl rfl rfl)))), ?_⟩
  walk_at "rd"
  refine ⟨by omega, by omega, ?_⟩
  rw [show ((m : Int) + 1).toNat = m + 1 by omega]
  obtain ⟨R0, hR0⟩ : ∃ r, r = Cg.endC (m + 1) t 0 := ⟨_, rfl⟩
  rw [← hR0] at h
  refine for_go walk_range (fun i σ' H' => ∃ v u y2 y3, σ' = [some v, some (.int (m : Nat)), y2, y3] ∧ Ext [] H H' ∧ Td K H' v u.data ∧ u.Ok ∧ u.dep ≤ t.dep + i ∧ R0 = Cg.endC (m + 1 - i) u i) ⟨vt, t, _, _, rfl, Ext.refl _ _, ht, hok, Nat.le_refl _, hR0⟩ (fun _ _ _ _ _ => trivial) (fun i x σ' H2 H2' hi ⟨v, u, y2, y3, hσ, e2, hu, huk, hud, hend⟩ yy => ?_) fun σ' H2 ⟨v, u, y2, y3, hσ, e2, hu, huk, hud, hend⟩ => ?_
  · obtain ⟨rfl, rfl⟩ := yy
    subst hσ
    walk_at "rd"
    have hk : m + 1 - i = (m - i) + 1 := by omega
    rw [hk, Cg.endC] at hend
    refine ⟨v, u, rfl, hu, huk, by omega, by omega, fun v2 H3 e3 hm2 => ?_⟩
    dsimp only
    cases hst : u.step with
    | none =>
      rw [hst] at hm2 hend
      subst hm2
      rw [if_pos (by decide)]
      dsimp only at hend
      rw [hend] at h
      refine ⟨by decide, fun p H4 e4 h4 => h p _ H4 (e2.trans (e3.trans e4)) ?_ (hu.ext (e3.trans e4)) huk (by omega)⟩
      rw [h4, Int.zero_add]
    | some u' =>
      rw [hst] at hm2 hend
      have hne : v2 ≠ .non := fun z => by
        rw [z] at hm2
        cases u' <;> cases hm2
      rw [if_neg (by simpa using hne)]
      obtain ⟨d1, d2⟩ := Cg.step_dep hst huk
      refine ⟨v2, u', _, _, ⟨rfl, rfl, rfl⟩, e2.trans e3, hm2, d2, by omega, ?_⟩
      rw [hend, show m + 1 - (i + 1) = m - i by omega]
  · subst hσ
    walk_at "rd"
    rw [Nat.sub_self, Cg.endC] at hend
    rw [hend] at h
    exact h H2 e2
end
end Sq
set_option Elab.async false
set_option linter.all false
set_option maxRecDepth 100000
set_option maxHeartbeats 4000000
namespace Sq
open PySem PySem.Spec PyProof.Rows L2
theorem UG.stepG {NS fr : List Str} {l : Tab} {rl : FP} (h : UG NS fr l rl) : match stepU fr l rl with
    | .out _ => True
    | .go l' rl' => UG NS fr l' rl' := by
  cases rl with
  | nil => trivial
  | cons pr rest =>
    obtain ⟨t, u⟩ := pr
    obtain ⟨a1, b1⟩ := h.prs t u List.mem_cons_self
    have ft := h.fresh a1
    have fu := h.fresh b1
    show match stepP fr l rest (t.fill (lk l)) (u.fill (lk l)) with
      | .out _ => True
      | .go l' rl' => UG NS fr l' rl'
    revert ft fu
    generalize t.fill (lk l) = t'
    generalize u.fill (lk l) = u'
    intro ft fu
    unfold stepP
    by_cases e : t' = u'
    · rw [if_pos e]; exact h.tail
    · rw [if_neg e]
      have key : ∀ p o : Fm, (∀ y ∈ p.names, y ∈ NS ∧ lk l y = none) → (∀ y ∈ o.names, y ∈ NS ∧ lk l y = none) →
          (match stepQ fr l rest p o with
          | .out _ => True
          | .go l' rl' => UG NS fr l' rl') := by
        intro p o hp ho
        cases p with
        | name x =>
          obtain ⟨x1, x2⟩ := hp x (by simp [Fm.names])
          unfold stepQ
          by_cases xf : x ∈ fr
          · simp only [if_pos xf]
            by_cases z : x ∈ o.names
            · simp only [if_pos z]
            · simp only [if_neg z]
              exact h.tail.bind xf x2 ho z
          · simp only [if_neg xf]
        | one => trivial
        | none => trivial
        | bin j s r =>
          cases o with
          | bin k s' r' =>
            unfold stepQ
            by_cases z : j = k
            · simp only [if_pos z]
              exact h.tail.split hp ho
            · simp only [if_neg z]
          | _ => trivial
      by_cases hv : u'.isV fr = true ∧ t'.isV fr = false
      · rw [if_pos hv]; exact key u' t' fu ft
      · rw [if_neg hv]; exact key t' u' ft fu
theorem runS_ok {fr : List Str} {r : Option Tab} : ∀ {n : Nat} {l : Tab} {rl : FP}, runS fr n l rl = some r → UG LET fr l rl → runU fr n l rl = some r ∧ SafeU LET fr n l rl
  | 0, _, _, h, _ => nomatch h
  | n + 1, l, rl, h, hU => by
    rw [runS] at h
    split at h
    · rename_i hc
      rw [Bool.and_eq_true, Bool.and_eq_true, List.all_eq_true, List.all_eq_true, decide_eq_true_eq] at hc
      obtain ⟨⟨h1, h2⟩, h3⟩ := hc
      have hW : UW LET fr l rl := ⟨hU, fun n t hm => of_decide_eq_true (h1 (n, t) hm), fun t u hm => by
        have := h2 (t, u) hm
        rw [Bool.and_eq_true, decide_eq_true_eq, decide_eq_true_eq] at this
        exact this, by omega⟩
      have hg := hU.stepG
      unfold runU SafeU
      cases hs : stepU fr l rl with
      | out r' => rw [hs] at h; exact ⟨h, hW, trivial⟩
      | go l' rl' =>
        rw [hs] at h hg
        obtain ⟨i1, i2⟩ := runS_ok h hg
        exact ⟨i1, hW, i2⟩
    · cases h
theorem ug_start {fr : List Str} {ps : FP} (h : prsB ps = true) : UG LET fr [] ps.reverse := by
  refine ⟨List.nodup_nil, fun n hn => (by cases hn), fun n t hn => (by cases hn), fun t u hm => ?_⟩
  have := List.all_eq_true.mp h (t, u) (List.mem_reverse.mp hm)
  rw [Bool.and_eq_true, List.all_eq_true, List.all_eq_true] at this
  exact ⟨fun x hx => of_decide_eq_true (this.1 x hx), fun x hx => of_decide_eq_true (this.2 x hx)⟩
/-- what lies behind type_of's answer -/
theorem tyR_out {t : Cg} {r : Option (Option Fm)} (h : tyR t = some r) : ∃ g k qs, gsC t 0 = some (g, k, qs) ∧ g.dep ≤ 40 ∧ prsB qs = true ∧
    ((26 < k ∧ r = none) ∨ (k ≤ 26 ∧ ∃ r2, runU LET 200 [] qs.reverse = some r2 ∧ SafeU LET LET 200 [] qs.reverse ∧ ((r2 = none ∧ r = some none) ∨ ∃ l, r2 = some l ∧ r = some (some (g.fill (lk l))) ∧ (g.fill (lk l)).dep ≤ 30 ∧ ∀ x ∈ (g.fill (lk l)).names, x ∈ LET))) := by
  unfold tyR at h
  cases hg : gsC t 0 with
  | none => rw [hg] at h; cases h
  | some z =>
    obtain ⟨g, k, qs⟩ := z
    rw [hg] at h
    dsimp only at h
    split at h
    · rename_i hc
      refine ⟨g, k, qs, rfl, hc.1, hc.2, ?_⟩
      split at h
      · rename_i hk; cases h; exact .inl ⟨hk, rfl⟩
      · rename_i hk
        refine .inr ⟨by omega, ?_⟩
        cases hr : runS LET 200 [] qs.reverse with
        | none => rw [hr] at h; cases h
        | some r2 =>
          obtain ⟨i1, i2⟩ := runS_ok hr (ug_start hc.2)
          refine ⟨r2, i1, i2, ?_⟩
          rw [hr] at h
          cases r2 with
          | none => cases h; exact .inl ⟨rfl, rfl⟩
          | some l =>
            dsimp only at h
            split at h
            · rename_i hd
              cases h
              exact .inr ⟨l, rfl, rfl, hd.1, fun x hx => of_decide_eq_true (List.all_eq_true.mp hd.2 x hx)⟩
            · cases h
    · cases h
/-- what lies behind principal's answer -/
theorem prR_out {b : Bt} {r : Option Fm} (h : prR b = some r) : (gs b [] 0 = none ∧ r = none) ∨ ∃ g m ps, gs b [] 0 = some (g, m, ps) ∧ g.dep ≤ 40 ∧ ∃ r2, runU (LET.take m) 200 [] ps.reverse = some r2 ∧ SafeU LET (LET.take m) 200 [] ps.reverse ∧ ((r2 = none ∧ r = none) ∨ ∃ l, r2 = some l ∧ r = some (g.fill (lk l)) ∧ (g.fill (lk l)).dep ≤ 40 ∧ ∀ x ∈ (g.fill (lk l)).names, x ∈ LET) := by
  unfold prR at h
  cases hg : gs b [] 0 with
  | none => rw [hg] at h; cases h; exact .inl ⟨rfl, rfl⟩
  | some z =>
    obtain ⟨g, k, ps⟩ := z
    rw [hg] at h
    dsimp only at h
    split at h
    · rename_i hc
      refine .inr ⟨g, k, ps, rfl, hc.1, ?_⟩
      cases hr : runS (LET.take k) 200 [] ps.reverse with
      | none => rw [hr] at h; cases h
      | some r2 =>
        obtain ⟨i1, i2⟩ := runS_ok hr (ug_start hc.2)
        refine ⟨r2, i1, i2, ?_⟩
        rw [hr] at h
        cases r2 with
        | none => cases h; exact .inl ⟨rfl, rfl⟩
        | some l =>
          dsimp only at h
          split at h
          · rename_i hd
            cases h
            exact .inr ⟨l, rfl, rfl, hd.1, fun x hx => of_decide_eq_true (List.all_eq_true.mp hd.2 x hx)⟩
          · cases h
    · cases h
end Sq
set_option Elab.async false
set_option linter.all false
set_option maxRecDepth 100000
set_option maxHeartbeats 4000000
namespace Sq
open PySem PySem.Spec PyProof.Rows L2
section
variable {K : PySem.W.Frag}
/-- a list over a range -/
theorem lc_rngD {n : Nat} {te : TE} {vs : List Nat} {σ : L2.St} {H1 : Hp} {Q : VK} {i : Nat} {J : It} {G : Hp → Prop} {Y : Nat → Hp → V → Hp → Prop} (wk : Walk J n G Y) (hG : ∀ H', G H') (hY : ∀ j H x H', Y j H x H' → H' = H ∧ x = .int (j : Nat)) (ds : Nat → PyData) (hn : n ≤ 1000)
    (hσ : ∀ x, wipe ((wipe σ vs).set i (some x)) vs = wipe σ vs)
    (hte : ∀ (j : Nat) (H' : Hp) (R : VK), j < n → Ext [] H1 H' → (∀ y H'', Ext [] H' H'' → Td K H'' y (ds j) → R y H'') → te ((wipe σ vs).set i (some (.int (j : Nat)))) H' R)
    (hd : ∀ D ys H', H1 D = none → Ext [] H1 H' → H' D = some (.lst ys) → TdAll K H' ys ((List.range n).map ds) → Q (.ref D) H') : LcB J (gName i) tYes te vs σ H1 Q := by
  refine lc_go wk (fun D j ys H' => ys.length = j ∧ Ext [] H1 H' ∧ TdAll K H' ys ((List.range j).map ds)) (fun D hD => ⟨rfl, Ext.new hD, .nil⟩) (fun D j ys H' _ => hG _) (fun D j x ys H' H'' hD hj ⟨hl, e, t⟩ _ hys y => ?_) fun D ys H' hD ⟨hl, e, t⟩ hys _ => hd D ys H' hD e hys t
  obtain ⟨rfl, rfl⟩ := hY _ _ _ _ y
  have hs1 : (100000 : Nat) < sizeLine := by decide
  refine ⟨hσ _, ?_⟩
  simp only [tYes, if_true]
  refine hte j _ _ hj e fun y H4 e4 hy => ⟨ys, e4.lst0 hys, by omega, ys ++ [y], by rw [List.length_append, hl]; exact Nat.le_refl _, upd_same, by rw [List.length_append, hl]; rfl, (e.trans e4).over hD (Ext.setL List.mem_cons_self (e4.lst0 hys)), ?_⟩
  have es : Ext [D] H4 (upd H4 D (.lst (ys ++ [y]))) := Ext.setL List.mem_cons_self (e4.lst0 hys)
  rw [List.range_succ, List.map_append]
  exact ((t.ext e4).ext es).snoc (hy.ext es)
end
end Sq
set_option Elab.async false
set_option linter.all false
set_option maxRecDepth 100000
set_option maxHeartbeats 4000000
namespace Sq
open PySem PySem.Spec PyProof.Rows L2 RZ
def rDictC : List V → Hp → VK → Prop := fun xs H Q => ∃ (a : Addr) (kvs : List (Key × V)), xs = [.ref a] ∧ dctF H a = some kvs ∧ ∀ p H2, H p = none → Ext [] H H2 → H2 p = some (.dK kvs) → Q (.ref p) H2
theorem call_dictC {X : Cx} : CallR X (.type "dict") rDictC := fun pins s σ H xs us Q I r ⟨a, kvs, e, h, q⟩ =>
  call_dictD pins s σ H xs us Q I r ⟨a, kvs, e, dctF_rd h, fun p hp => q p _ hp (Ext.new hp) upd_same⟩
local macro_rules | `(tactic| walk_at "rd") => `(tactic| simp only [tCont, tNever, iEnumL, iRng1, rPop0, rTIndex, rKdIx, rKdNin, tDG2, rU, tTIdx, iZipS, rDictC, rDictP, tDisp, tPairs, rIndexS, wipe, tNoPart, tDG2, tDGF, tDInF, tDNInF, sDPutF, tDNewF, rSortD, rInS, rInT, rEqLF, tDcF, tDc2F, tLcF, tForF, tAllF, tAnyF, tSumF, iStr, iEnumF, iZipF, iKeysF, iItems, tLZip, tYes, tSeq, tIfS, tNext, tRet, tRetN, tDrop, tTest, tB, tNot, tAnd, tOr, tChain, tOp, tUn, tCB, tCons, tNil, tC, tVar, tIf, tAndV, tOrV, tNotV, tAsg, tPar, tPar3, gName, gSub, gTupF, gCons, gNil, tTupF, tLstF, rI0, rI, rIxF, rIxG, rIxS, rSetF, rSlF, rCatF, rCatL, rTupL, rListT, rListL, rLenT, rLenL, iTupF, iLstF, rAppF, rExtF, rPopF, tBM, tBM0, tSl, tPart, rEq, rNe, tCall, L2.start,
  List.map_cons, List.map_nil, List.length_cons, List.length_nil, Nat.sub_self, List.replicate, List.append_nil, List.cons_append, List.nil_append, List.getElem?_cons_zero, List.getElem?_cons_succ, List.set_cons_zero, List.set_cons_succ,
  exSl, exI, exI2, exB, exS, exR, ex1, ex1', V.int.injEq, V.bl.injEq, V.ref.injEq, V.str.injEq, Option.some.injEq, List.cons.injEq, and_true, true_and, reduceCtorEq, false_and, and_false, or_false, false_or, exists_false, exists_and_left, exists_eq_left', decide_eq_true_eq, decide_true, decide_false, if_false, if_true, ite_true, ite_false, Bool.false_eq_true, Bool.not_true, Bool.not_false, Nat.reduceAdd, Nat.reduceSub, Nat.zero_add, atI_0, atI_1, atI_2, atI_3, ixN_0, ixN_1, ixN_2, cutV_1, cutV_2, Option.some.injEq, HO.lst.injEq, HO.dK.injEq, scal])
local macro_rules | `(tactic| walk_at "rdc") => `(tactic| simp (config := { contextual := true }) only [tCont, tNever, iEnumL, iRng1, rPop0, rTIndex, rKdIx, rKdNin, tDG2, rU, tTIdx, iZipS, rDictC, rDictP, tDisp, tPairs, rIndexS, wipe, tNoPart, tDG2, tDGF, tDInF, tDNInF, sDPutF, tDNewF, rSortD, rInS, rInT, rEqLF, tDcF, tDc2F, tLcF, tForF, tAllF, tAnyF, tSumF, iStr, iEnumF, iZipF, iKeysF, iItems, tLZip, tYes, tSeq, tIfS, tNext, tRet, tRetN, tDrop, tTest, tB, tNot, tAnd, tOr, tChain, tOp, tUn, tCB, tCons, tNil, tC, tVar, tIf, tAndV, tOrV, tNotV, tAsg, tPar, tPar3, gName, gSub, gTupF, gCons, gNil, tTupF, tLstF, rI0, rI, rIxF, rIxG, rIxS, rSetF, rSlF, rCatF, rCatL, rTupL, rListT, rListL, rLenT, rLenL, iTupF, iLstF, rAppF, rExtF, rPopF, tBM, tBM0, tSl, tPart, rEq, rNe, tCall, L2.start,
  List.map_cons, List.map_nil, List.length_cons, List.length_nil, Nat.sub_self, List.replicate, List.append_nil, List.cons_append, List.nil_append, List.getElem?_cons_zero, List.getElem?_cons_succ, List.set_cons_zero, List.set_cons_succ,
  exSl, exI, exI2, exB, exS, exR, ex1, ex1', V.int.injEq, V.bl.injEq, V.ref.injEq, V.str.injEq, Option.some.injEq, List.cons.injEq, and_true, true_and, reduceCtorEq, false_and, and_false, or_false, false_or, exists_false, exists_and_left, exists_eq_left', decide_eq_true_eq, decide_true, decide_false, if_false, if_true, ite_true, ite_false, Bool.false_eq_true, Bool.not_true, Bool.not_false, Nat.reduceAdd, Nat.reduceSub, Nat.zero_add, atI_0, atI_1, atI_2, atI_3, ixN_0, ixN_1, ixN_2, cutV_1, cutV_2, Option.some.injEq, HO.lst.injEq, HO.dK.injEq, scal, *])
section
variable {P : Program} {w : World} {K : PySem.W.Frag} {mg : Str → Option Value} {base : Heap} {f c : Addr} {fd : FuncData}
abbrev s_with_name : Stmt := top 33
abbrev n_with_name : List Str := ["context", "name", "what", "found"]
theorem sc_with_name : FnScope n_with_name ["context", "name", "what"] (defScope s_with_name) := ⟨rfl, rfl, rfl, by decide +kernel, rfl, by decide +kernel, by decide +kernel⟩
def TabD (K : PySem.W.Frag) (H : Hp) (a : Addr) (l : Tab) : Prop := ∃ kvs, H a = some (.dK kvs) ∧ TabK K H kvs l
theorem TabD.a {H : Hp} {a : Addr} {l : Tab} (h : TabD K H a l) : TabA K H a l := let ⟨kvs, h, r⟩ := h; ⟨kvs, dctF_dK h, r⟩
theorem TabD.ext {S : List Addr} {H H' : Hp} {a : Addr} {l : Tab} (e : Ext S H H') (n : a ∉ S) : TabD K H a l → TabD K H' a l := fun ⟨kvs, h, r⟩ => ⟨kvs, e.dK h n, r.ext e⟩
theorem TabD.ext0 {H H' : Hp} {a : Addr} {l : Tab} (e : Ext [] H H') : TabD K H a l → TabD K H' a l := TabD.ext e (fun z => nomatch z)
def spWith (K : PySem.W.Frag) : Sp := fun vs H Q _ => ∃ (a : Addr) (n : Str) (v : V) (l : Tab) (t : Fm), vs = [.ref a, .str n, v] ∧ TabA K H a l ∧ Td K H v t.data ∧ l.length ≤ 1000 ∧ ∀ p H', H p = none → Ext [] H H' → TabD K H' p (putL l n t) → Q (.ref p) H'
theorem ok_wname (F : Dn K mg "with_name" s_with_name f fd c) (B : Bl mg) : Cal P w K mg base 1 "with_name" (spWith K) := by
  refine F.cal (ps := ["context", "name", "what"]) (fun _ _ _ _ _ _ us hl => match us, hl with | [_, _, _], _ => rfl) sc_with_name (fun vs H Q E h => ?_) (fun A outer s H vs Q E hr h => ?_)
  · obtain ⟨_, _, _, _, _, rfl, _⟩ := h; rfl
  obtain ⟨a, n, v, l, t, rfl, ⟨kvs, hk, hr'⟩, ht, hl, q⟩ := h
  refine ⟨_, (pss_cons (ps_set (i := 3) sc_with_name.nd rfl (by first | exact Or.inl rfl | exact Or.inr rfl) (pe_callTy call_dictC (by rfl) B.b_dict (by decide +kernel) (pa_cons (pv 0) pa_nil)))
    (pss_cons (ps_dputF (hu_of hr) (pv 3) (pv 1) (pv 2) rfl)
    (pss_one (ps_ret (pv 3))))), ?_⟩
  walk_at "rd"
  have hz : (100000 : Nat) ≤ sizeLine := by decide
  have hkl := hr'.length
  refine ⟨kvs, hk, fun p H1 n1 e1 h1 => ⟨kvs, h1, by omega, fun H2 e2 h2 => q p H2 n1 (e1.over n1 e2) ⟨_, h2, ((hr'.ext e1).ext e2).put ((ht.ext e1).ext e2)⟩⟩⟩
theorem putL_len (l : Tab) (n : Str) (t : Fm) : (putL l n t).length ≤ l.length + 1 := by
  unfold putL; split <;> simp
theorem Dn.vacX {x : Str} {st : Stmt} {ps : List Str} {sp : Sp} {k : Nat} (F : Dn K mg x st f fd c) (hb : BindOk x st ps) (h : ∀ vs H Q E, ¬ sp vs H Q E) : CalX P w K mg base k x sp :=
  ⟨f, fd, ps, ⟨fun vs H Q E z => absurd z (h vs H Q E), fun A outer s H args us vs Q E _ _ _ _ z => absurd z (h vs H Q E)⟩, F.mgf, F.kp, F.binds hb⟩
theorem no {a b : Str} {A B : Prop} (h : a ≠ b) (k : B) : if V.str a = V.str b then A else B := by rw [if_neg (fun z => h (V.str.inj z))]; exact k
theorem ys {a : Str} {A B : Prop} (k : A) : if V.str a = V.str a then A else B := by rw [if_pos rfl]; exact k
end
end Sq
set_option Elab.async false
set_option linter.all false
set_option maxRecDepth 100000
set_option maxHeartbeats 2000000
namespace Sq
open PySem PySem.Spec PyProof.Rows L2 RZ
local macro_rules | `(tactic| walk_at "rd") => `(tactic| simp only [tCont, tDisp, tPairs, rIndexS, wipe, tNoPart, tDG2, tDGF, tDInF, tDNInF, sDPutF, tDNewF, rSortD, rInS, rInT, rEqLF, tDcF, tDc2F, tLcF, tForF, tAllF, tAnyF, tSumF, iStr, iEnumF, iZipF, iKeysF, iItems, tLZip, tYes, tSeq, tIfS, tNext, tRet, tRetN, tDrop, tTest, tB, tNot, tAnd, tOr, tChain, tOp, tUn, tCB, tCons, tNil, tC, tVar, tIf, tAndV, tOrV, tNotV, tAsg, tPar, tPar3, gName, gSub, gTupF, gCons, gNil, tTupF, tLstF, rI0, rI, rIxF, rIxG, rIxS, rSetF, rSlF, rCatF, rCatL, rTupL, rListT, rListL, rLenT, rLenL, iTupF, iLstF, rAppF, rExtF, rPopF, tBM, tBM0, tSl, tPart, rEq, rNe, tCall, L2.start,
  List.map_cons, List.map_nil, List.length_cons, List.length_nil, Nat.sub_self, List.replicate, List.append_nil, List.cons_append, List.nil_append, List.getElem?_cons_zero, List.getElem?_cons_succ, List.set_cons_zero, List.set_cons_succ,
  exSl, exI, exI2, exB, exS, exR, ex1, ex1', V.int.injEq, V.bl.injEq, V.ref.injEq, V.str.injEq, Option.some.injEq, List.cons.injEq, and_true, true_and, reduceCtorEq, false_and, and_false, or_false, false_or, exists_false, exists_and_left, exists_eq_left', decide_eq_true_eq, decide_true, decide_false, if_false, if_true, ite_true, ite_false, Bool.false_eq_true, Bool.not_true, Bool.not_false, Nat.reduceAdd, Nat.reduceSub, Nat.zero_add, atI_0, atI_1, atI_2, atI_3, ixN_0, ixN_1, ixN_2, cutV_1, cutV_2, Option.some.injEq, HO.lst.injEq, HO.dK.injEq, scal])
local macro_rules | `(tactic| walk_at "rdc") => `(tactic| simp (config := { contextual := true }) only [tCont, tDisp, tPairs, rIndexS, wipe, tNoPart, tDG2, tDGF, tDInF, tDNInF, sDPutF, tDNewF, rSortD, rInS, rInT, rEqLF, tDcF, tDc2F, tLcF, tForF, tAllF, tAnyF, tSumF, iStr, iEnumF, iZipF, iKeysF, iItems, tLZip, tYes, tSeq, tIfS, tNext, tRet, tRetN, tDrop, tTest, tB, tNot, tAnd, tOr, tChain, tOp, tUn, tCB, tCons, tNil, tC, tVar, tIf, tAndV, tOrV, tNotV, tAsg, tPar, tPar3, gName, gSub, gTupF, gCons, gNil, tTupF, tLstF, rI0, rI, rIxF, rIxG, rIxS, rSetF, rSlF, rCatF, rCatL, rTupL, rListT, rListL, rLenT, rLenL, iTupF, iLstF, rAppF, rExtF, rPopF, tBM, tBM0, tSl, tPart, rEq, rNe, tCall, L2.start,
  List.map_cons, List.map_nil, List.length_cons, List.length_nil, Nat.sub_self, List.replicate, List.append_nil, List.cons_append, List.nil_append, List.getElem?_cons_zero, List.getElem?_cons_succ, List.set_cons_zero, List.set_cons_succ,
  exSl, exI, exI2, exB, exS, exR, ex1, ex1', V.int.injEq, V.bl.injEq, V.ref.injEq, V.str.injEq, Option.some.injEq, List.cons.injEq, and_true, true_and, reduceCtorEq, false_and, and_false, or_false, false_or, exists_false, exists_and_left, exists_eq_left', decide_eq_true_eq, decide_true, decide_false, if_false, if_true, ite_true, ite_false, Bool.false_eq_true, Bool.not_true, Bool.not_false, Nat.reduceAdd, Nat.reduceSub, Nat.zero_add, atI_0, atI_1, atI_2, atI_3, ixN_0, ixN_1, ixN_2, cutV_1, cutV_2, Option.some.injEq, HO.lst.injEq, HO.dK.injEq, scal, *])
section
variable {P : Program} {w : World} {K : PySem.W.Frag} {mg : Str → Option Value} {base : Heap} {f c : Addr} {fd : FuncData} {NS : List Str}
abbrev s_names_of : Stmt := top 10
abbrev n_names_of : List Str := ["formula", "found", "part", "name"]
theorem sc_names_of : FnScope n_names_of ["formula"] (defScope s_names_of) := ⟨rfl, rfl, rfl, by decide +kernel, rfl, by decide +kernel, by decide +kernel⟩
def spNames (K : PySem.W.Frag) (NS : List Str) (k : Nat) : Sp := fun vs H Q _ => ∃ (v : V) (t : Fm), vs = [v] ∧ Td K H v t.data ∧ t.dep ≤ k ∧ (∀ x ∈ t.names, x ∈ NS) ∧ ∀ (p : Addr) (ns : List Str) (H' : Hp), Ext [] H H' → tupF K H' p = some (ns.map V.str) → (∀ x, x ∈ ns ↔ x ∈ t.names) → Q (.ref p) H'
/-- the same, and they rise -/
def spNamesS (K : PySem.W.Frag) (NS : List Str) (k : Nat) : Sp := fun vs H Q _ => ∃ (v : V) (t : Fm), vs = [v] ∧ Td K H v t.data ∧ t.dep ≤ k ∧ (∀ x ∈ t.names, x ∈ NS) ∧ ∀ (p : Addr) (ns : List Str) (H' : Hp), Ext [] H H' → tupF K H' p = some (ns.map V.str) → (∀ x, x ∈ ns ↔ x ∈ t.names) → ns.Nodup → sortedS ns = true → Q (.ref p) H'
theorem Cal.imp {P : Program} {w : World} {K : PySem.W.Frag} {mg : Str → Option Value} {base : Heap} {k : Nat} {x : Str} {sp sp' : Sp} (h : ∀ vs H Q E, sp' vs H Q E → sp vs H Q E) (C : Cal P w K mg base k x sp) : Cal P w K mg base k x sp' := by
  obtain ⟨f, fd, ps, ds, F, r⟩ := C
  exact ⟨f, fd, ps, ds, F.imp h, r⟩
theorem ok_namesS (F : Dn K mg "names_of" s_names_of f fd c) (B : Bl mg) (hN : NsOk NS) : ∀ k, Cal P w K mg base k "names_of" (spNamesS K NS k) := by
  refine F.calRec (ps := ["formula"]) (fun _ _ _ _ _ _ us hl => match us, hl with | [_], _ => rfl) (fun vs H Q E ⟨v, t, _, _, h, _⟩ => by have := t.dep_pos; omega) fun k G_names_of => ?_
  refine F.ok sc_names_of (fun vs H Q E h => ?_) (fun A outer s H vs Q E hr h => ?_)
  · obtain ⟨_, _, rfl, _⟩ := h; rfl
  obtain ⟨v, t, rfl, ht, hd, hns, q⟩ := h
  refine ⟨_, (pss_cons (ps_if (pt_cmpR op_eq (pe_ix (ix_tupK K) (pv 0) pe_int (fun _ _ => rfl)) pe_str (nomark _)) (pss_one (ps_ret (pe_tupK K (pa_cons (pe_ix (ix_tupK K) (pv 0) pe_int (fun _ _ => rfl)) pa_nil)))) pss_nil)
    (pss_cons (ps_setDc2F (i := 1) (own := [("part", 2), ("name", 3)]) (vs1 := [3]) rfl sc_names_of.nd rfl rfl (sw_trueD rfl rfl rfl (by decide +kernel)) (pi_tupK K (pe_slice (sl_tupK K) (pv 0) (po_some pe_int) po_none)) (blkOk_by (own := [("part", 2), ("name", 3)]) (N := n_names_of) (sc := defScope s_names_of) (by decide +kernel)) (by decide) (fun _ _ _ _ _ => (pg_name (i := 2) sc_names_of.nd rfl (by first | exact Or.inl rfl | exact Or.inr rfl))) (fun _ _ _ _ _ => pts_nil) (fun _ _ _ _ _ => (pi_tupK K (C8.pe_c G_names_of hr (by omega) (by rfl) (pa_cons (pv 2) pa_nil)))) (fun _ _ _ _ _ => (pg_name (i := 3) sc_names_of.nd rfl (by first | exact Or.inl rfl | exact Or.inr rfl))) (fun _ _ _ _ _ => pts_nil) (fun _ _ _ _ _ => (pv 3)) (fun _ _ _ _ _ => pe_bl))
    (pss_one (ps_ret (pe_callTy (call_tupleK K) (by rfl) B.b_tuple (by decide +kernel) (pa_cons (pe_callB (call_sortedF rfl) (by rfl) B.b_sorted (by decide +kernel) (pa_cons (pv 1) pa_nil)) pa_nil)))))), ?_⟩
  cases hv : t.isN with
  | true =>
    cases t with
    | name x =>
      obtain ⟨p, rfl, hp⟩ := fd_v ht
      have q' := q
      clear q
      walk_at "rdc"
      refine ⟨by decide, fun p2 H2 e2 h2 => q' p2 [x] H2 e2 h2 (fun y => by simp [Fm.names]) (by simp) rfl⟩
    | _ => cases hv
  | false =>
    obtain ⟨p, ws, rfl, hp, hws⟩ := fd_f hv ht
    have hne := Fm.hd_v hv
    have q' := q
    clear q ht
    walk_at "rdc"
    intro p1 H1 e1 h1
    refine dc2_go walk_tup (fun D i H' => ∃ ks, H' D = some (.dK (trueK ks)) ∧ ks.Nodup ∧ Ext [] H1 H' ∧ ∀ x, x ∈ ks ↔ ∃ j u, j < i ∧ t.args[j]? = some u ∧ x ∈ u.names) (fun D hD => ⟨[], upd_same, List.nodup_nil, Ext.new hD, fun x => by simp⟩)
      (fun D i H' ⟨ks, _, _, e, _⟩ => tupF_sq (tupF_ext e h1)) (fun D i x H' H'' hD hi ⟨ks, hk, nd, e, mem⟩ y => ?_) fun D H' hD ⟨ks, hk, nd, e, mem⟩ => ?_
    · obtain ⟨rfl, hx⟩ := y
      obtain ⟨u, hu, hum, hud⟩ := fd_arg hws hx
      have hsub : ∀ y ∈ u.names, y ∈ NS := fun y hy => hns y (Fm.names_arg hum hy)
      walk_at "rd"
      refine ⟨x, u, rfl, (hud.ext e1).ext e, by have := Fm.dep_arg hum; omega, hsub, fun p2 ns H3 e3 h3 hns3 _ _ => ⟨p2, rfl, _, h3, ?_⟩⟩
      refine dc2_in walk_tup (fun j H' => ∃ ks, H' D = some (.dK (trueK ks)) ∧ ks.Nodup ∧ Ext [] H1 H' ∧ tupF K H' p2 = some (ns.map V.str) ∧ ∀ x, x ∈ ks ↔ (∃ j u, j < i ∧ t.args[j]? = some u ∧ x ∈ u.names) ∨ ∃ m, m < j ∧ ns[m]? = some x)
        ⟨ks, e3.dK0 hk, nd, e.trans e3, h3, fun x => by simp [mem]⟩ (fun j H' ⟨_, _, _, _, h, _⟩ => tupF_sq h) (fun j z H4 H5 hj ⟨ks, hk, nd, e, h, mem⟩ y => ?_) fun H4 ⟨ks, hk, nd, e, h, mem⟩ => ⟨ks, hk, nd, e, fun x => ?_⟩
      · obtain ⟨rfl, hz⟩ := y
        rw [List.getElem?_map] at hz
        cases hn : ns[j]? with
        | none => rw [hn] at hz; cases hz
        | some n =>
          rw [hn] at hz
          cases hz
          walk_at "rd"
          refine ⟨trueK ks, Sum.inr n, rfl, hk, ?_, addK ks n, by rw [put_true]; exact upd_same, nodup_addK nd, e.over hD (Ext.setD List.mem_cons_self hk), tupF_ext (Ext.setD (S := [D]) List.mem_cons_self hk) h, fun x => ?_⟩
          · have := nodup_sub nd (m := NS) fun x hx => (mem x).mp hx |>.elim (fun ⟨j, u, _, h1, h2⟩ => hns x (Fm.names_arg (List.mem_of_getElem? h1) h2)) fun ⟨m, _, h1⟩ => hsub x ((hns3 x).mp (List.mem_of_getElem? h1))
            have := hN.few
            have q : (trueK ks).length = ks.length := by unfold trueK; rw [List.length_map]
            have : (64 : Nat) < sizeLine := by decide
            omega
          · rw [mem_addK, mem]
            constructor
            · rintro ((⟨j0, u0, a1, a2, a3⟩ | ⟨m, h1, h2⟩) | h)
              · exact .inl ⟨j0, a1, u0, a2, a3⟩
              · exact .inr ⟨m, by omega, h2⟩
              · subst h; exact .inr ⟨j, by omega, hn⟩
            · rintro (⟨j0, a1, u0, a2, a3⟩ | ⟨m, h1, h2⟩)
              · exact .inl (.inl ⟨j0, u0, a1, a2, a3⟩)
              · by_cases q : m = j
                · subst q; rw [hn] at h2; exact .inr (Option.some.inj h2).symm
                · exact .inl (.inr ⟨m, by omega, h2⟩)
      · rw [mem]
        constructor
        · rintro (⟨j, u, h1, h2, h3⟩ | ⟨m, h1, h2⟩)
          · exact ⟨j, by omega, u, h2, h3⟩
          · exact ⟨i, by omega, u, hu, (hns3 x).mp (List.mem_of_getElem? h2)⟩
        · rintro ⟨j, h1, u', h2, h3⟩
          by_cases q : j = i
          · subst q
            rw [hu] at h2
            cases h2
            obtain ⟨m, hm, h4⟩ := List.mem_iff_getElem.mp ((hns3 x).mpr h3)
            exact .inr ⟨m, by rw [List.length_map]; exact hm, by rw [List.getElem?_eq_getElem hm, h4]⟩
          · exact .inl ⟨j, u', by omega, h2, h3⟩
    · refine ⟨D, rfl, trueK ks, dctF_dK hk, ks, trueK_keys ks, ?_, fun ys p2 H2 pm sr hp2 e2 h2 p3 H3 e3 h3 => q' p3 ys H3 (((e1.trans e).trans e2).trans e3) h3 (fun x => ?_) (pm.nodup_iff.mpr nd) sr⟩
      · have := nodup_sub nd (m := NS) fun x hx => let ⟨j, u, _, h1, h2⟩ := (mem x).mp hx; hns x (Fm.names_arg (List.mem_of_getElem? h1) h2)
        have := hN.few
        omega
      · rw [pm.mem_iff, mem, Fm.names_args hv]
        constructor
        · rintro ⟨j, u, _, h1, h2⟩
          exact ⟨u, List.mem_of_getElem? h1, h2⟩
        · rintro ⟨u, h1, h2⟩
          obtain ⟨m, hm, h4⟩ := List.mem_iff_getElem.mp h1
          exact ⟨m, u, by have := hws.length; rw [List.length_map] at this; omega, by rw [List.getElem?_eq_getElem hm, h4], h2⟩
theorem ok_names (F : Dn K mg "names_of" s_names_of f fd c) (B : Bl mg) (hN : NsOk NS) (k : Nat) : Cal P w K mg base k "names_of" (spNames K NS k) :=
  Cal.imp (fun vs H Q E ⟨v, t, e, h1, h2, h3, q⟩ => ⟨v, t, e, h1, h2, h3, fun p ns H' e' h4 h5 _ _ => q p ns H' e' h4 h5⟩) (ok_namesS F B hN k)
end
end Sq
set_option Elab.async false
set_option linter.all false
set_option maxRecDepth 100000
set_option maxHeartbeats 4000000
namespace Sq
open PySem PySem.Spec PyProof.Rows L2 RZ
local macro_rules | `(tactic| walk_at "rd") => `(tactic| simp only [tCont, tDisp, tPairs, rIndexS, wipe, tNoPart, tDG2, tDGF, tDInF, tDNInF, sDPutF, tDNewF, rSortD, rInS, rInT, rEqLF, tDcF, tDc2F, tLcF, tForF, tAllF, tAnyF, tSumF, iStr, iEnumF, iZipF, iKeysF, iItems, tLZip, tYes, tSeq, tIfS, tNext, tRet, tRetN, tDrop, tTest, tB, tNot, tAnd, tOr, tChain, tOp, tUn, tCB, tCons, tNil, tC, tVar, tIf, tAndV, tOrV, tNotV, tAsg, tPar, tPar3, gName, gSub, gTupF, gCons, gNil, tTupF, tLstF, rI0, rI, rIxF, rIxG, rIxS, rSetF, rSlF, rCatF, rCatL, rTupL, rListT, rListL, rLenT, rLenL, iTupF, iLstF, rAppF, rExtF, rPopF, tBM, tBM0, tSl, tPart, rEq, rNe, tCall, L2.start,
  List.map_cons, List.map_nil, List.length_cons, List.length_nil, Nat.sub_self, List.replicate, List.append_nil, List.cons_append, List.nil_append, List.getElem?_cons_zero, List.getElem?_cons_succ, List.set_cons_zero, List.set_cons_succ,
  exSl, exI, exI2, exB, exS, exR, ex1, ex1', V.int.injEq, V.bl.injEq, V.ref.injEq, V.str.injEq, Option.some.injEq, List.cons.injEq, and_true, true_and, reduceCtorEq, false_and, and_false, or_false, false_or, exists_false, exists_and_left, exists_eq_left', decide_eq_true_eq, decide_true, decide_false, if_false, if_true, ite_true, ite_false, Bool.false_eq_true, Bool.not_true, Bool.not_false, Nat.reduceAdd, Nat.reduceSub, Nat.zero_add, atI_0, atI_1, atI_2, atI_3, ixN_0, ixN_1, ixN_2, cutV_1, cutV_2, Option.some.injEq, HO.lst.injEq, HO.dK.injEq, scal])
local macro_rules | `(tactic| walk_at "rdc") => `(tactic| simp (config := { contextual := true }) only [tCont, tDisp, tPairs, rIndexS, wipe, tNoPart, tDG2, tDGF, tDInF, tDNInF, sDPutF, tDNewF, rSortD, rInS, rInT, rEqLF, tDcF, tDc2F, tLcF, tForF, tAllF, tAnyF, tSumF, iStr, iEnumF, iZipF, iKeysF, iItems, tLZip, tYes, tSeq, tIfS, tNext, tRet, tRetN, tDrop, tTest, tB, tNot, tAnd, tOr, tChain, tOp, tUn, tCB, tCons, tNil, tC, tVar, tIf, tAndV, tOrV, tNotV, tAsg, tPar, tPar3, gName, gSub, gTupF, gCons, gNil, tTupF, tLstF, rI0, rI, rIxF, rIxG, rIxS, rSetF, rSlF, rCatF, rCatL, rTupL, rListT, rListL, rLenT, rLenL, iTupF, iLstF, rAppF, rExtF, rPopF, tBM, tBM0, tSl, tPart, rEq, rNe, tCall, L2.start,
  List.map_cons, List.map_nil, List.length_cons, List.length_nil, Nat.sub_self, List.replicate, List.append_nil, List.cons_append, List.nil_append, List.getElem?_cons_zero, List.getElem?_cons_succ, List.set_cons_zero, List.set_cons_succ,
  exSl, exI, exI2, exB, exS, exR, ex1, ex1', V.int.injEq, V.bl.injEq, V.ref.injEq, V.str.injEq, Option.some.injEq, List.cons.injEq, and_true, true_and, reduceCtorEq, false_and, and_false, or_false, false_or, exists_false, exists_and_left, exists_eq_left', decide_eq_true_eq, decide_true, decide_false, if_false, if_true, ite_true, ite_false, Bool.false_eq_true, Bool.not_true, Bool.not_false, Nat.reduceAdd, Nat.reduceSub, Nat.zero_add, atI_0, atI_1, atI_2, atI_3, ixN_0, ixN_1, ixN_2, cutV_1, cutV_2, Option.some.injEq, HO.lst.injEq, HO.dK.injEq, scal, *])
/-- the module's constants -/
structure Gc (K : PySem.W.Frag) (mg : Str → Option Value) (aJ : Addr) (uN : Value) : Prop where
  g : mg "JOINS" = some (.ref aJ)
  t : WrT K aJ (joinsT.map V.str)
  n : mg "NAMES" = some uN
  nr : RelV (.str namesT) uN
theorem Gc.at {K : PySem.W.Frag} {mg : Str → Option Value} {aJ : Addr} {uN : Value} (G : Gc K mg aJ uN) (H : Hp) : tupF K H aJ = some (joinsT.map V.str) := tupF_wr G.t
section
variable {P : Program} {w : World} {K : PySem.W.Frag} {mg : Str → Option Value} {base : Heap} {f c aJ : Addr} {uN : Value} {fd : FuncData} {NS : List Str}
abbrev s_laid : Stmt := top 13
abbrev n_laid : List Str := ["formula", "table"]
theorem sc_laid : FnScope n_laid ["formula", "table"] (defScope s_laid) := ⟨rfl, rfl, rfl, by decide +kernel, rfl, by decide +kernel, by decide +kernel⟩
def spLay (K : PySem.W.Frag) (k : Nat) : Sp := fun vs H Q _ => ∃ (v : V) (t : Fm) (a : Addr) (l : Tab), vs = [v, .ref a] ∧ Td K H v t.data ∧ t.dep ≤ k ∧ TabA K H a l ∧ ∀ (v' : V) (H' : Hp), Ext [] H H' → Td K H' v' (t.fill (lk l)).data → Q v' H'
theorem ok_laid (F : Dn K mg "laid" s_laid f fd c) (B : Bl mg) (GJ : Gc K mg aJ uN) : ∀ k, Cal P w K mg base k "laid" (spLay K k) := by
  refine F.calRec (ps := ["formula", "table"]) (fun _ _ _ _ _ _ us hl => match us, hl with | [_, _], _ => rfl) (fun vs H Q E ⟨v, t, _, _, _, _, h, _⟩ => by have := t.dep_pos; omega) fun k G_laid => ?_
  refine F.ok sc_laid (fun vs H Q E h => ?_) (fun A outer s H vs Q E hr h => ?_)
  · obtain ⟨_, _, _, _, rfl, _⟩ := h; rfl
  obtain ⟨v, t, a, l, rfl, ht, hd, hl, q⟩ := h
  refine ⟨_, (pss_cons (ps_if (pt_cmpR op_eq (pe_ix (ix_tupK K) (pv 0) pe_int (fun _ _ => rfl)) pe_str (nomark _)) (pss_one (ps_ret (pe_dget2F (hu_of hr) (pv 1) (pe_ix (ix_tupK K) (pv 0) pe_int (fun _ _ => rfl)) (pv 0) ⟨rfl, rfl, rfl, rfl⟩))) pss_nil)
    (pss_cons (ps_if (pt_cmpR (op_inSK K) (pe_ix (ix_tupK K) (pv 0) pe_int (fun _ _ => rfl)) (pe_glob (v := .ref aJ) (by rfl) GJ.g rfl) (by rfl)) (pss_one (ps_ret (pe_tupK K (pa_cons (pe_ix (ix_tupK K) (pv 0) pe_int (fun _ _ => rfl)) (pa_cons (C8.pe_c G_laid hr (by omega) (by rfl) (pa_cons (pe_ix (ix_tupK K) (pv 0) pe_int (fun _ _ => rfl)) (pa_cons (pv 1) pa_nil))) (pa_cons (C8.pe_c G_laid hr (by omega) (by rfl) (pa_cons (pe_ix (ix_tupK K) (pv 0) pe_int (fun _ _ => rfl)) (pa_cons (pv 1) pa_nil))) pa_nil)))))) pss_nil)
    (pss_one (ps_ret (pv 0))))), ?_⟩
  walk_at "rd"
  obtain ⟨p, ws, rfl, hp⟩ := fd_hd ht
  refine ⟨p, rfl, _, hp, _, atI_0, rfl, ?_⟩
  cases t with
  | name x =>
    rw [if_pos (by rfl)]
    obtain ⟨p', e, hp'⟩ := fd_v ht
    cases e
    obtain ⟨kvs, hk, hr'⟩ := hl
    refine ⟨kvs, hk, p, rfl, _, hp', _, atI_1, x, rfl, kvs, hk, ?_⟩
    rcases hr'.val x with ⟨h1, h2⟩ | ⟨t', v', h1, h2, h3⟩
    · rw [h2]
      exact q _ _ (Ext.refl _ _) (by rw [Fm.fill, h1]; exact ht)
    · rw [h2]
      exact q _ _ (Ext.refl _ _) (by rw [Fm.fill, h1]; exact h3)
  | one =>
    rw [if_neg (fun z => Fm.hd_v (t := .one) rfl (V.str.inj z))]
    refine ⟨p, rfl, _, hp, _, atI_0, _, rfl, joinsT, GJ.at H, ?_⟩
    rw [if_neg (by decide)]
    exact q _ _ (Ext.refl _ _) ht
  | none =>
    rw [if_neg (fun z => Fm.hd_v (t := .none) rfl (V.str.inj z))]
    refine ⟨p, rfl, _, hp, _, atI_0, _, rfl, joinsT, GJ.at H, ?_⟩
    rw [if_neg (by decide)]
    exact q _ _ (Ext.refl _ _) ht
  | bin j s r =>
    obtain ⟨p', x, y, e, hp', hx, hy⟩ := fd_b ht
    cases e
    simp only [Fm.dep] at hd
    rw [if_neg (fun z => Fm.hd_v (t := .bin j s r) rfl (V.str.inj z))]
    refine ⟨p, rfl, _, hp, _, atI_0, _, rfl, joinsT, GJ.at H, ?_⟩
    rw [if_pos (of_decide_eq_true (in_joins (t := .bin j s r)))]
    refine ⟨p, rfl, _, hp', _, atI_0, p, rfl, _, hp', _, atI_1, x, s, a, l, rfl, hx, by omega, hl, fun v1 H1 e1 h1 => ⟨p, rfl, _, tupF_ext e1 hp', _, atI_2, y, r, a, l, rfl, hy.ext e1, by omega, hl.ext0 e1, fun v2 H2 e2 h2 => ⟨by decide, fun p3 H3 e3 h3 => ?_⟩⟩⟩
    exact q _ H3 ((e1.trans e2).trans e3) (.tup h3 (.cons (.str _) (.cons ((h1.ext e2).ext e3) (.cons (h2.ext e3) .nil))))
abbrev s_put : Stmt := top 11
abbrev n_put : List Str := ["formula", "name", "other"]
theorem sc_put : FnScope n_put ["formula", "name", "other"] (defScope s_put) := ⟨rfl, rfl, rfl, by decide +kernel, rfl, by decide +kernel, by decide +kernel⟩
def spPut (K : PySem.W.Frag) (NS : List Str) (k : Nat) : Sp := fun vs H Q _ => ∃ (v u : V) (x : Str) (t o : Fm), vs = [v, .str x, u] ∧ Td K H v t.data ∧ Td K H u o.data ∧ t.dep ≤ k ∧ t.dep ≤ 40 ∧ x ∈ NS ∧ (∀ y ∈ t.names, y ∈ NS) ∧ ∀ (v' : V) (H' : Hp), Ext [] H H' → Td K H' v' (t.fill (one1 x o)).data → Q v' H'
theorem ok_put (F : Dn K mg "put" s_put f fd c) (B : Bl mg) (hN : NsOk NS) (GJ : Gc K mg aJ uN) : ∀ k, Cal P w K mg base k "put" (spPut K NS k) := by
  refine F.calRec (ps := ["formula", "name", "other"]) (fun _ _ _ _ _ _ us hl => match us, hl with | [_, _, _], _ => rfl) (fun vs H Q E ⟨v, u, x, t, o, _, _, _, h, _⟩ => by have := t.dep_pos; omega) fun k G_put => ?_
  refine F.ok sc_put (fun vs H Q E h => ?_) (fun A outer s H vs Q E hr h => ?_)
  · obtain ⟨_, _, _, _, _, rfl, _⟩ := h; rfl
  obtain ⟨v, u, n, t, o, rfl, ht, ho, hd, h40, hn, hns, q⟩ := h
  refine ⟨_, (pss_cons (ps_if (pt_cmpR (op_eqK K hr.units) (pv 0) (pe_tupK K (pa_cons pe_str (pa_cons (pv 1) pa_nil))) (nomark _)) (pss_one (ps_ret (pv 2))) pss_nil)
    (pss_cons (ps_if (pt_cmpR (op_inSK K) (pe_ix (ix_tupK K) (pv 0) pe_int (fun _ _ => rfl)) (pe_glob (v := .ref aJ) (by rfl) GJ.g rfl) (by rfl)) (pss_one (ps_ret (pe_tupK K (pa_cons (pe_ix (ix_tupK K) (pv 0) pe_int (fun _ _ => rfl)) (pa_cons (C8.pe_c G_put hr (by omega) (by rfl) (pa_cons (pe_ix (ix_tupK K) (pv 0) pe_int (fun _ _ => rfl)) (pa_cons (pv 1) (pa_cons (pv 2) pa_nil)))) (pa_cons (C8.pe_c G_put hr (by omega) (by rfl) (pa_cons (pe_ix (ix_tupK K) (pv 0) pe_int (fun _ _ => rfl)) (pa_cons (pv 1) (pa_cons (pv 2) pa_nil)))) pa_nil)))))) pss_nil)
    (pss_one (ps_ret (pv 0))))), ?_⟩
  walk_at "rd"
  refine ⟨by decide, fun p0 H0 e0 h0 => ⟨t.data, (Fm.name n).data, ht.ext e0, .tup h0 (.cons (.str _) (.cons (.str _) .nil)), Fm.shaped hN hns (by omega), Fm.shaped hN (t := .name n) (fun y hy => by
    have : y = n := by simpa [Fm.names] using hy
    rw [this]; exact hn) (by simp [Fm.dep]), _, rfl, ?_⟩⟩
  rw [if_neg Bool.false_ne_true, Fm.eqv_data]
  by_cases htn : t = .name n
  · rw [decide_eq_true htn, if_pos rfl]
    refine q _ _ e0 ?_
    rw [htn]
    show Td K H0 u (((one1 n o) n).getD _).data
    rw [one1_at, if_pos rfl]
    exact ho.ext e0
  · rw [decide_eq_false htn, if_neg (by decide)]
    have ht0 := ht.ext e0
    obtain ⟨p, ws, rfl, hp⟩ := fd_hd ht0
    refine ⟨p, rfl, _, hp, _, atI_0, _, rfl, joinsT, GJ.at H0, ?_⟩
    have keep : t.isB = false → t.fill (one1 n o) = t := fun hb => by
      cases t with
      | name x =>
        refine Fm.fill_id fun y hy => ?_
        have : y = x := by simpa [Fm.names] using hy
        rw [this, one1_at, if_neg (fun z => htn (by rw [z]))]
      | one => rfl
      | none => rfl
      | bin j s r => cases hb
    cases hb : t.isB with
    | false =>
      rw [if_neg (by have := in_joins (t := t); rw [hb] at this; exact of_decide_eq_false this)]
      exact q _ _ e0 (by rw [keep hb]; exact ht0)
    | true =>
      cases t with
      | bin j s r =>
        obtain ⟨p', x, y, e, hp', hx, hy⟩ := fd_b ht0
        cases e
        simp only [Fm.dep] at hd h40
        rw [if_pos (of_decide_eq_true (in_joins (t := .bin j s r)))]
        refine ⟨p, rfl, _, hp', _, atI_0, p, rfl, _, hp', _, atI_1, x, u, n, s, o, rfl, hx, ho.ext e0, by omega, by omega, hn, (fun y hy => hns y (List.mem_append_left _ hy)), fun v1 H1 e1 h1 => ⟨p, rfl, _, tupF_ext e1 hp', _, atI_2, y, u, n, r, o, rfl, hy.ext e1, (ho.ext e0).ext e1, by omega, by omega, hn, (fun y hy => hns y (List.mem_append_right _ hy)), fun v2 H2 e2 h2 => ⟨by decide, fun p3 H3 e3 h3 => ?_⟩⟩⟩
        exact q _ H3 (((e0.trans e1).trans e2).trans e3) (.tup h3 (.cons (.str _) (.cons ((h1.ext e2).ext e3) (.cons (h2.ext e3) .nil))))
      | _ => cases hb
end
end Sq
set_option Elab.async false
set_option linter.all false
set_option maxRecDepth 100000
set_option maxHeartbeats 4000000
namespace Sq
open PySem PySem.Spec PyProof.Rows L2 RZ
/-- the free names: a tuple, or the text of all letters -/
def FrA (K : PySem.W.Frag) (H : Hp) (v : V) (fr : List Str) : Prop := (∃ p, v = .ref p ∧ tupF K H p = some (fr.map V.str)) ∨ (v = .str namesT ∧ fr = LET)
theorem FrA.ext {K : PySem.W.Frag} {H H' : Hp} {S : List Addr} {v : V} {fr : List Str} (e : Ext S H H') (h : FrA K H v fr) : FrA K H' v fr := h.imp (fun ⟨p, e1, h⟩ => ⟨p, e1, tupF_ext e h⟩) id
def rInFr (K : PySem.W.Frag) : R2 := fun x y H Q => ∃ (n : Str), x = .str n ∧ ∃ fr, FrA K H y fr ∧ n ∈ LET ∧ Q (.bl (decide (n ∈ fr))) H
theorem let_in : ∀ n ∈ LET, (!(Builtin.Str.occurrences namesT n 0 namesT.length 1).isEmpty) = true := by decide +kernel
theorem op_inFr {X : Cx} (K : PySem.W.Frag) (hK : X.K = K := by rfl) : OpR X (compareOp .In) (rInFr K) := by
  intro pins s σ H x y v u Q I rx ry ⟨n, e, fr, h, hn, q⟩
  rcases h with ⟨p, rfl, h⟩ | ⟨rfl, rfl⟩
  · exact op_inSK K hK pins s σ H x _ v u Q I rx ry ⟨n, p, fr, e, rfl, h, q⟩
  · refine op_in_str pins s σ H x _ v u Q I rx ry ⟨n, namesT, e, rfl, ?_⟩
    rw [let_in n hn]
    rw [decide_eq_true hn] at q
    exact q
local macro_rules | `(tactic| walk_at "rd") => `(tactic| simp only [tCont, tNever, iEnumL, rInFr, tDisp, tPairs, rIndexS, wipe, tNoPart, tDG2, tDGF, tDInF, tDNInF, sDPutF, tDNewF, rSortD, rInS, rInT, rEqLF, tDcF, tDc2F, tLcF, tForF, tAllF, tAnyF, tSumF, iStr, iEnumF, iZipF, iKeysF, iItems, tLZip, tYes, tSeq, tIfS, tNext, tRet, tRetN, tDrop, tTest, tB, tNot, tAnd, tOr, tChain, tOp, tUn, tCB, tCons, tNil, tC, tVar, tIf, tAndV, tOrV, tNotV, tAsg, tPar, tPar3, gName, gSub, gTupF, gCons, gNil, tTupF, tLstF, rI0, rI, rIxF, rIxG, rIxS, rSetF, rSlF, rCatF, rCatL, rTupL, rListT, rListL, rLenT, rLenL, iTupF, iLstF, rAppF, rExtF, rPopF, tBM, tBM0, tSl, tPart, rEq, rNe, tCall, L2.start,
  List.map_cons, List.map_nil, List.length_cons, List.length_nil, Nat.sub_self, List.replicate, List.append_nil, List.cons_append, List.nil_append, List.getElem?_cons_zero, List.getElem?_cons_succ, List.set_cons_zero, List.set_cons_succ,
  exSl, exI, exI2, exB, exS, exR, ex1, ex1', V.int.injEq, V.bl.injEq, V.ref.injEq, V.str.injEq, Option.some.injEq, List.cons.injEq, and_true, true_and, reduceCtorEq, false_and, and_false, or_false, false_or, exists_false, exists_and_left, exists_eq_left', decide_eq_true_eq, decide_true, decide_false, if_false, if_true, ite_true, ite_false, Bool.false_eq_true, Bool.not_true, Bool.not_false, Nat.reduceAdd, Nat.reduceSub, Nat.zero_add, atI_0, atI_1, atI_2, atI_3, ixN_0, ixN_1, ixN_2, cutV_1, cutV_2, Option.some.injEq, HO.lst.injEq, HO.dK.injEq, scal])
local macro_rules | `(tactic| walk_at "rdc") => `(tactic| simp (config := { contextual := true }) only [tCont, tNever, iEnumL, rInFr, tDisp, tPairs, rIndexS, wipe, tNoPart, tDG2, tDGF, tDInF, tDNInF, sDPutF, tDNewF, rSortD, rInS, rInT, rEqLF, tDcF, tDc2F, tLcF, tForF, tAllF, tAnyF, tSumF, iStr, iEnumF, iZipF, iKeysF, iItems, tLZip, tYes, tSeq, tIfS, tNext, tRet, tRetN, tDrop, tTest, tB, tNot, tAnd, tOr, tChain, tOp, tUn, tCB, tCons, tNil, tC, tVar, tIf, tAndV, tOrV, tNotV, tAsg, tPar, tPar3, gName, gSub, gTupF, gCons, gNil, tTupF, tLstF, rI0, rI, rIxF, rIxG, rIxS, rSetF, rSlF, rCatF, rCatL, rTupL, rListT, rListL, rLenT, rLenL, iTupF, iLstF, rAppF, rExtF, rPopF, tBM, tBM0, tSl, tPart, rEq, rNe, tCall, L2.start,
  List.map_cons, List.map_nil, List.length_cons, List.length_nil, Nat.sub_self, List.replicate, List.append_nil, List.cons_append, List.nil_append, List.getElem?_cons_zero, List.getElem?_cons_succ, List.set_cons_zero, List.set_cons_succ,
  exSl, exI, exI2, exB, exS, exR, ex1, ex1', V.int.injEq, V.bl.injEq, V.ref.injEq, V.str.injEq, Option.some.injEq, List.cons.injEq, and_true, true_and, reduceCtorEq, false_and, and_false, or_false, false_or, exists_false, exists_and_left, exists_eq_left', decide_eq_true_eq, decide_true, decide_false, if_false, if_true, ite_true, ite_false, Bool.false_eq_true, Bool.not_true, Bool.not_false, Nat.reduceAdd, Nat.reduceSub, Nat.zero_add, atI_0, atI_1, atI_2, atI_3, ixN_0, ixN_1, ixN_2, cutV_1, cutV_2, Option.some.injEq, HO.lst.injEq, HO.dK.injEq, scal, *])
section
variable {P : Program} {w : World} {K : PySem.W.Frag} {mg : Str → Option Value} {base : Heap} {f c aJ : Addr} {uN : Value} {fd : FuncData} {NS : List Str}
abbrev s_unified : Stmt := top 12
abbrev n_unified : List Str := ["pairs", "free", "table", "left", "one", "other", "name", "what"]
theorem sc_unified : FnScope n_unified ["pairs", "free"] (defScope s_unified) := ⟨rfl, rfl, rfl, by decide +kernel, rfl, by decide +kernel, by decide +kernel⟩
theorem fd_look {H : Hp} {v : V} {t : Fm} (h : Td K H v t.data) : (∃ x p, t = .name x ∧ v = .ref p ∧ tupF K H p = some [.str "name", .str x]) ∨ (t.isN = false ∧ ∃ p ws, v = .ref p ∧ tupF K H p = some (.str t.hd :: ws) ∧ ¬ V.str t.hd = V.str "name" ∧ TdAll K H ws (t.args.map Fm.data)) := by
  cases e : t.isN with
  | false =>
    obtain ⟨p, ws, e1, h1, h2⟩ := fd_f e h
    exact .inr ⟨rfl, p, ws, e1, h1, fun z => Fm.hd_v e (V.str.inj z), h2⟩
  | true =>
    cases t with
    | name x => obtain ⟨p, e1, h1⟩ := fd_v h; exact .inl ⟨x, p, rfl, e1, h1⟩
    | _ => cases e
/-- what the pairs made alike have told -/
def spUniG (K : PySem.W.Frag) (NS : List Str) : Sp := fun vs H Q _ => ∃ (pl : Addr) (vf : V) (ys : List V) (prs : FP) (fr : List Str) (N : Nat) (r : Option Tab), vs = [.ref pl, vf] ∧ H pl = some (.lst ys) ∧ TdAll K H ys (prs.map pairD) ∧ FrA K H vf fr ∧ fr.length ≤ 90 ∧ (∀ x ∈ fr, x ∈ NS) ∧ runU fr N [] prs.reverse = some r ∧ SafeU NS fr N [] prs.reverse ∧
  (r = none → ∀ H', Ext [] H H' → Q .non H') ∧ ∀ l, r = some l → UW NS fr l [] → ∀ (a : Addr) (kvs : List (Key × V)) (H' : Hp), Ext [] H H' → H' a = some (.dK kvs) → TabK K H' kvs l → Q (.ref a) H'
/-- the loop's state: turns that are left, the pairs, the table -/
def MW (K : PySem.W.Frag) (NS fr : List Str) (r : Option Tab) (x0 x1 : V) (q : Addr) (H2 : Hp) (m : Nat) (σ : L2.St) (H : Hp) : Prop := ∃ l rl x4 x5 x6 x7 a kvs ys, σ = [some x0, some x1, some (V.ref a), some (V.ref q), x4, x5, x6, x7] ∧ runU fr m l rl = some r ∧ SafeU NS fr m l rl ∧ H a = some (.dK kvs) ∧ TabK K H kvs l ∧ H q = some (.lst ys) ∧ TdAll K H ys (rl.reverse.map pairD) ∧ Ext [] H2 H
theorem ok_unified (F : Dn K mg "unified" s_unified f fd c) (B : Bl mg) (GJ : Gc K mg aJ uN) (hN : NsOk NS) (hNL : ∀ x ∈ NS, x ∈ LET) (G_names_of : Cal P w K mg base 64 "names_of" (spNames K NS 64)) (G_laid : Cal P w K mg base 64 "laid" (spLay K 64)) (G_put : Cal P w K mg base 64 "put" (spPut K NS 64)) : Cal P w K mg base 65 "unified" (spUniG K NS) := by
  refine F.cal (ps := ["pairs", "free"]) (fun _ _ _ _ _ _ us hl => match us, hl with | [_, _], _ => rfl) sc_unified (fun vs H Q E h => ?_) (fun A outer s H vs Q E hr h => ?_)
  · obtain ⟨_, _, _, _, _, _, _, rfl, _⟩ := h; rfl
  obtain ⟨pl, vf, ys0, prs, fr, N, r, rfl, hpl, hprs, hpf, hfr, hfN, hrun, hSf, q0, q1⟩ := h
  refine ⟨_, (pss_cons (ps_par (i := 2) (j := 3) (by rfl) sc_unified.nd rfl rfl (by decide) rfl rfl (pa_cons pe_dnewF (pa_cons (pe_callTy call_listL (by rfl) B.b_list (by decide +kernel) (pa_cons (pv 0) pa_nil)) pa_nil)) (by rfl))
    (pss_cons (ps_while PassesOwn.never (pt_cmpR (op_neLK K hr.units) (pv 3) (pe_lstF pa_nil) (nomark _)) (pss_cons (ps_asg (pe_bm0 PySem.F.plainAttrs_list PySem.F.slot_list_pop PySem.F.type_list_pop mt_popF (pv 3)) (pg_tupK K (n := 2) (by rfl) (pgs_cons (pg_name (i := 4) sc_unified.nd rfl (by first | exact Or.inl rfl | exact Or.inr rfl)) (pgs_cons (pg_name (i := 5) sc_unified.nd rfl (by first | exact Or.inl rfl | exact Or.inr rfl)) pgs_nil))))
    (pss_cons (ps_asg (pe_tupK K (pa_cons (C8.pe_c G_laid hr (by omega) (by rfl) (pa_cons (pv 4) (pa_cons (pv 2) pa_nil))) (pa_cons (C8.pe_c G_laid hr (by omega) (by rfl) (pa_cons (pv 5) (pa_cons (pv 2) pa_nil))) pa_nil))) (pg_tupK K (n := 2) (by rfl) (pgs_cons (pg_name (i := 4) sc_unified.nd rfl (by first | exact Or.inl rfl | exact Or.inr rfl)) (pgs_cons (pg_name (i := 5) sc_unified.nd rfl (by first | exact Or.inl rfl | exact Or.inr rfl)) pgs_nil))))
    (pss_cons (ps_if (pt_cmpR (op_eqK K hr.units) (pv 4) (pv 5) (nomark _)) (pss_one ps_continue) pss_nil)
    (pss_cons (ps_if (PW.pt (pw_and (pt_cmpR op_eq (pe_ix (ix_tupK K) (pv 5) pe_int (fun _ _ => rfl)) pe_str (nomark _)) (pw_and (pt_cmpR (op_inFr K) (pe_ix (ix_tupK K) (pv 5) pe_int (fun _ _ => rfl)) (pv 1) (by rfl)) (pw_and1 (pt_not (PW.pt (pw_and (pt_cmpR op_eq (pe_ix (ix_tupK K) (pv 4) pe_int (fun _ _ => rfl)) pe_str (nomark _)) (pw_and1 (pt_cmpR (op_inFr K) (pe_ix (ix_tupK K) (pv 4) pe_int (fun _ _ => rfl)) (pv 1) (by rfl)))))))))) (pss_one (ps_asg (pe_tupK K (pa_cons (pv 5) (pa_cons (pv 4) pa_nil))) (pg_tupK K (n := 2) (by rfl) (pgs_cons (pg_name (i := 4) sc_unified.nd rfl (by first | exact Or.inl rfl | exact Or.inr rfl)) (pgs_cons (pg_name (i := 5) sc_unified.nd rfl (by first | exact Or.inl rfl | exact Or.inr rfl)) pgs_nil))))) pss_nil)
    (PSs.hide (pss_one (ps_if (PW.pt (pw_and (pt_cmpR op_eq (pe_ix (ix_tupK K) (pv 4) pe_int (fun _ _ => rfl)) pe_str (nomark _)) (pw_and1 (pt_cmpR (op_inFr K) (pe_ix (ix_tupK K) (pv 4) pe_int (fun _ _ => rfl)) (pv 1) (by rfl))))) (pss_cons (ps_if (pt_cmpR (op_inSK K) (pe_ix (ix_tupK K) (pv 4) pe_int (fun _ _ => rfl)) (C8.pe_c G_names_of hr (by omega) (by rfl) (pa_cons (pv 5) pa_nil)) (by rfl)) (pss_one (ps_ret pe_non)) pss_nil)
    (pss_cons (ps_lockD (ps_setDcF (i := 2) (own := [("name", 6), ("what", 7)]) rfl sc_unified.nd rfl rfl (sw_trueD rfl rfl rfl (by decide +kernel)) (pi_items (pv 2)) (blkOk_by (own := [("name", 6), ("what", 7)]) (N := n_unified) (sc := defScope s_unified) (by decide +kernel)) (fun _ _ _ _ _ => (pg_tupZ K (n := 2) (by rfl) (pgs_cons (pg_name (i := 6) sc_unified.nd rfl (by first | exact Or.inl rfl | exact Or.inr rfl)) (pgs_cons (pg_name (i := 7) sc_unified.nd rfl (by first | exact Or.inl rfl | exact Or.inr rfl)) pgs_nil)))) (fun _ _ _ _ _ => pts_nil) (fun _ _ _ _ _ => (pv 6)) (fun _ _ _ _ _ => (C8.pe_c G_put hr (by omega) (by rfl) (pa_cons (pv 7) (pa_cons (pe_ix (ix_tupK K) (pv 4) pe_int (fun _ _ => rfl)) (pa_cons (pv 5) pa_nil)))))))
    (pss_one (ps_dputF (hu_of hr) (pv 2) (pe_ix (ix_tupK K) (pv 4) pe_int (fun _ _ => rfl)) (pv 5) rfl)))) (pss_one (ps_if (PW.pt (pw_and (pt_cmpR op_eq (pe_ix (ix_tupK K) (pv 4) pe_int (fun _ _ => rfl)) (pe_ix (ix_tupK K) (pv 5) pe_int (fun _ _ => rfl)) (nomark _)) (pw_and1 (pt_cmpR (op_inSK K) (pe_ix (ix_tupK K) (pv 4) pe_int (fun _ _ => rfl)) (pe_glob (v := .ref aJ) (by rfl) GJ.g rfl) (by rfl))))) (pss_one (ps_expr (pe_bm PySem.F.plainAttrs_list PySem.F.slot_list_extend PySem.F.type_list_extend mt_extF (pv 3) (pa_cons (pe_lstF (pa_cons (pe_tupK K (pa_cons (pe_ix (ix_tupK K) (pv 4) pe_int (fun _ _ => rfl)) (pa_cons (pe_ix (ix_tupK K) (pv 5) pe_int (fun _ _ => rfl)) pa_nil))) (pa_cons (pe_tupK K (pa_cons (pe_ix (ix_tupK K) (pv 4) pe_int (fun _ _ => rfl)) (pa_cons (pe_ix (ix_tupK K) (pv 5) pe_int (fun _ _ => rfl)) pa_nil))) pa_nil))) pa_nil)))) (pss_one (ps_ret pe_non))))))))))))
    (pss_one (ps_ret (pv 2))))), ?_⟩
  walk_at "rd"
  intro p1 H1 n1 e1 h1
  refine ⟨ys0, e1.lst0 hpl, fun p3 H3 n3 e3 h3 => ⟨_, _, ⟨rfl, rfl⟩, ?_⟩⟩
  have e03 := e1.trans e3
  refine ⟨MW K NS fr r (.ref pl) vf p3 H1, ⟨N, [], prs.reverse, _, _, _, _, p1, [], ys0, rfl, hrun, hSf, e3.dK0 h1, .nil, h3, by rw [List.reverse_reverse]; exact hprs.ext e03, (Ext.refl [] H1).over n3 (by exact e3.any)⟩, ?_⟩
  rintro m σ' H4 ⟨l, rl, x4, x5, x6, x7, a, kvs, ys, rfl, hm, hS, hk, htk, hys, hall, e4⟩
  obtain ⟨m', rfl⟩ : ∃ m', m = m' + 1 := by
    cases m with
    | zero => cases hm
    | succ m' => exact ⟨m', rfl⟩
  have hUW := hS.1
  have hU := hUW.g
  have hpr : ∀ p ∈ rl.reverse, (∀ x ∈ p.1.names, x ∈ NS) ∧ (∀ x ∈ p.2.names, x ∈ NS) ∧ p.1.dep ≤ 60 ∧ p.2.dep ≤ 60 := fun p hp => by
    obtain ⟨a1, b1⟩ := hU.prs p.1 p.2 (List.mem_reverse.mp hp)
    obtain ⟨a2, b2⟩ := hUW.pd p.1 p.2 (List.mem_reverse.mp hp)
    have := Fm.dep_fill_ge (lk l) p.1
    have := Fm.dep_fill_ge (lk l) p.2
    exact ⟨a1, b1, by omega, by omega⟩
  obtain ⟨sh1, sh2⟩ := pair_shaped hN hpr
  have shl : SeqAt.shaped (.list (rl.reverse.map pairD)) = true := by
    unfold SeqAt.shaped
    rw [PyData.canLay0, sh1, PyData.depth, decide_eq_true (by omega)]
    rfl
  have she : SeqAt.shaped (.list []) = true := by decide +kernel
  have q1' := q1
  have q0' := q0
  clear q0 q1
  walk_at "rd"
  refine ⟨by decide, fun p5 H5 n5 e5 h5 => ⟨ys, e5.lst0 hys, _, h5, _, hall.ext e5, _, .nil, shl, she, ?_⟩⟩
  have e25 := e4.trans e5
  have e05 := e1.trans e25
  cases rl with
  | nil =>
    have er : r = some l := by
      have : runU fr (m' + 1) l [] = some (some l) := rfl
      rw [this] at hm
      exact (Option.some.inj hm).symm
    subst er
    rw [List.reverse_nil, List.map_nil, Fm.eqvAll_nil, if_neg (by decide)]
    exact q1' l rfl hUW a kvs H5 e05 (e5.dK0 hk) (htk.ext e5)
  | cons pr rest =>
    obtain ⟨t, u⟩ := pr
    have hne : PyData.eqvAll (((t, u) :: rest).reverse.map pairD) [] = false := by
      rw [List.reverse_cons, List.map_append]
      cases (rest.reverse.map pairD) with
      | nil => exact Fm.eqvAll_cn _ _
      | cons z zs => exact Fm.eqvAll_cn _ _
    rw [hne, if_pos (by decide)]
    rw [List.reverse_cons, List.map_append] at hall
    obtain ⟨ys', y, rfl, hall', hy⟩ := hall.unsnoc
    refine ⟨fun σ' H' => ∃ m2, m2 < m' + 1 ∧ MW K NS fr r (.ref pl) vf p3 H1 m2 σ' H', fun σ' H' h => h, tyV_lst (e5.lst0 hys), _, e5.lst0 hys, y, by simp, fun H6 e6 h6 => ?_⟩
    rw [List.dropLast_concat] at h6
    cases hy with
    | tup hy1 hy2 =>
      cases hy2 with
      | cons ht1 hy2 =>
        cases hy2 with
        | cons hu1 hy2 =>
          cases hy2
          obtain ⟨a1, b1⟩ := hU.prs t u List.mem_cons_self
          obtain ⟨a2, b2⟩ := hUW.pd t u List.mem_cons_self
          have dt := Fm.dep_fill_ge (lk l) t
          have du := Fm.dep_fill_ge (lk l) u
          have e56 := e5.any.trans e6
          have hka : H6 a = some (.dK kvs) := by
            refine e6.dK (e5.dK0 hk) fun z => ?_
            have z' : a = p3 := by simpa using z
            rw [z', hys] at hk
            cases hk
          have hT6 : TabA K H6 a l := ⟨kvs, dctF_dK hka, (htk.ext e5).ext e6⟩
          refine ⟨_, rfl, _, tupF_ext e56 hy1, rfl, _, _, rfl, _, _, rfl, rfl, _, t, a, l, rfl, ht1.ext e56, by omega, hT6, fun v1 H7 e7 h7 => ⟨_, u, a, l, rfl, (hu1.ext e56).ext e7, by omega, hT6.ext0 e7, fun v2 H8 e8 h8 => ⟨by decide, fun p9 H9 e9 h9 => ⟨_, h9, rfl, _, _, rfl, _, _, rfl, rfl, ?_⟩⟩⟩⟩
          have fv1 : Td K H9 v1 (t.fill (lk l)).data := (h7.ext e8).ext e9
          have fv2 : Td K H9 v2 (u.fill (lk l)).data := h8.ext e9
          refine ⟨_, _, fv1, fv2, Fm.shaped hN (fun x hx => (hU.fresh a1 x hx).1) (by omega), Fm.shaped hN (fun x hx => (hU.fresh b1 x hx).1) (by omega), ?_⟩
          refine ⟨_, rfl, ?_⟩
          rw [if_neg Bool.false_ne_true, Fm.eqv_data]
          have hk9 := ((e7.trans e8).trans e9).dK0 hka
          have htk9 := (((htk.ext e5).ext e6).ext (e7.trans e8)).ext e9
          have hys9 := ((e7.trans e8).trans e9).lst0 h6
          have hall9 := (((hall'.ext e5).ext e6).ext (e7.trans e8)).ext e9
          have e29 := (Ext.over e25 n3 e6).trans ((e7.trans e8).trans e9)
          by_cases heq : t.fill (lk l) = u.fill (lk l)
          · rw [if_pos (by simp [heq])]
            refine ⟨m', Nat.lt_succ_self _, l, rest, _, _, _, _, a, kvs, ys', rfl, ?_, (by have h2 := hS.2; have e : stepU fr l ((t, u) :: rest) = .go l rest := (by show stepP fr l rest _ _ = _; unfold stepP; rw [if_pos heq]); rw [e] at h2; exact h2), hk9, htk9, hys9, hall9, e29⟩
            have hm2 : (match stepP fr l rest (t.fill (lk l)) (u.fill (lk l)) with | .out r => some r | .go l rl => runU fr m' l rl) = some r := hm
            unfold stepP at hm2
            rw [if_pos heq] at hm2
            exact hm2
          · rw [if_neg (by simp [heq])]
            have hm2 : (match stepP fr l rest (t.fill (lk l)) (u.fill (lk l)) with | .out r => some r | .go l rl => runU fr m' l rl) = some r := hm
            unfold stepP at hm2
            rw [if_neg heq] at hm2
            have hpf9 : FrA K H9 vf fr := FrA.ext ((((e1.trans e4).trans e5).any.trans e6).trans ((e7.trans e8).trans e9).any) hpf
            generalize hT : hideS _ _ = T
            have tail : ∀ (vp vo : V) (p o : Fm) (Hx : Hp), Ext [] H9 Hx → Td K H9 vp p.data → Td K H9 vo o.data → (∀ y ∈ p.names, y ∈ NS ∧ lk l y = none) → (∀ y ∈ o.names, y ∈ NS ∧ lk l y = none) → p.dep ≤ 40 → o.dep ≤ 40 →
                (match stepQ fr l rest p o with | .out r' => r = r' | .go l' rl' => runU fr m' l' rl' = some r ∧ SafeU NS fr m' l' rl') → T [some (.ref pl), some vf, some (.ref a), some (.ref p3), some vp, some vo, x6, x7] Hx := by
              intro vp vo p o Hx ex hp ho hpn hon dp dO hq
              subst hT
              rw [hideS_eq]
              walk_at "rd"
              have hpfx := FrA.ext ex hpf9
              replace hp := hp.ext ex
              replace ho := ho.ext ex
              have e2x : Ext [] H Hx := (e1.trans e29).trans ex
              rcases fd_look hp with ⟨x, ap, rfl, rfl, hap⟩ | ⟨hv, ap, wp, rfl, hap, hne, hwp⟩
              · obtain ⟨x1, x2⟩ := hpn x (by simp [Fm.names])
                refine ⟨_, rfl, _, hap, _, atI_0, rfl, ?_⟩
                rw [if_pos rfl]
                refine ⟨_, rfl, _, hap, _, atI_1, x, rfl, fr, hpfx, hNL x x1, ?_⟩
                unfold stepQ at hq
                by_cases xf : x ∈ fr
                · rw [if_pos xf]
                  refine ⟨_, rfl, _, hap, _, atI_1, vo, o, rfl, ho, by omega, fun y hy => (hon y hy).1, fun p1 ns Ha ea h1 hns => ⟨x, rfl, p1, rfl, ns, h1, ?_⟩⟩
                  simp only [if_pos xf] at hq
                  by_cases hx : x ∈ o.names
                  · rw [if_pos ((hns x).mpr hx)]
                    have hr0 : r = none := by simpa [hx] using hq
                    subst hr0
                    exact q0' rfl _ (e2x.trans ea)
                  · rw [if_neg fun z => hx ((hns x).mp z)]
                    simp only [if_neg hx] at hq
                    have hk1 : Ha a = some (.dK kvs) := ea.dK0 (ex.dK0 hk9)
                    have htkx := htk9.ext ex
                    have hysx := ex.lst0 hys9
                    have hallx := hall9.ext ex
                    refine ⟨a, kvs, hk1, fun od => ?_⟩
                    walk_at "rd"
                    refine ⟨od, kvs, upd_same, ?_⟩
                    have hloc := Ext.lockD (o := od) hk1
                    have hlen := htkx.length
                    have hlen4 := hU.len
                    refine dc_go walk_items (fun D j ks H' => Ext [] (upd Ha a (.frz od (.dK kvs))) H' ∧ TabK K H' ks ((l.take j).map fun p => (p.1, p.2.fill (one1 x o)))) (fun D' hD => ⟨Ext.new hD, .nil⟩) (fun D' j ks H' ⟨e, _⟩ => e.frz _ _ _ upd_same) (fun D' j z ks H' H'' hD hj ⟨e, htab⟩ hl2 hks y => ?_) fun D' ks H' hD ⟨e, htab⟩ hks hl2 => ?_
                    · refine pair_tgt y fun k v hk' hv' eT => ?_
                      cases hkv : kvs[j]? with
                      | none => rw [hkv] at hk'; cases hk'
                      | some kv =>
                        obtain ⟨key, val⟩ := kv
                        rw [hkv] at hk' hv'
                        cases hk'
                        cases hv'
                        obtain ⟨n, t0, rfl, hlt, htd⟩ := htkx.get hkv
                        have hv1 := hU.vals n t0 (List.mem_of_getElem? hlt)
                        have hv2 := hUW.vd n t0 (List.mem_of_getElem? hlt)
                        have eL := e.trans eT
                        have hapL := tupF_ext eL (tupF_ext hloc (tupF_ext ea hap))
                        walk_at "rd"
                        refine ⟨_, [val], ⟨rfl, rfl⟩, val, [], rfl, rfl, _, hapL, _, atI_1, val, vo, x, t0, o, rfl, ((htd.ext ea).ext hloc).ext eL, ((ho.ext ea).ext hloc).ext eL, by omega, by omega, x1, fun y hy => (hv1 y hy).1, fun v' H5 e5 h5 => ?_⟩
                        have hks5 := e5.dK0 (eT.dK0 hks)
                        have hs1 : (100 : Nat) < sizeLine := by decide
                        have eAll : Ext [] (upd Ha a (.frz od (.dK kvs))) H5 := eL.trans e5
                        have eS : Ext [D'] H5 (upd H5 D' (.dK (putK ks (Sum.inr n) v'))) := Ext.setD List.mem_cons_self hks5
                        refine ⟨ks, Sum.inr n, rfl, hks5, by omega, putK ks (Sum.inr n) v', by have := length_putK ks (Sum.inr n) v'; omega, upd_same, eAll.over hD eS, ?_⟩
                        rw [take_snoc hlt, List.map_append, List.map_singleton, ← putL_fresh (lk_take hU.nd (Fm.fill (one1 x o)) hlt)]
                        exact (((htab.ext eT).ext e5).put h5).ext eS
                    · have hfr' : H' a = some (.frz od (.dK kvs)) := e.frz _ _ _ upd_same
                      have eU := Ext.unlockD hk1 e
                      have hDa : D' ≠ a := fun z => by rw [z, upd_same] at hD; cases hD
                      have hD1 : Ha D' = none := by rw [upd_ne hDa] at hD; exact hD
                      have hs1 : (100 : Nat) < sizeLine := by decide
                      refine ⟨hfr', _, tupF_ext eU (tupF_ext ea hap), _, atI_1, D', rfl, x, rfl, ks, by rw [upd_ne hDa]; exact hks, by omega, fun Hb eb h4 => ?_⟩
                      have e14 : Ext [] Ha Hb := eU.over hD1 eb
                      rw [hlen, List.take_length] at htab
                      exact ⟨m', Nat.lt_succ_self _, bindT l x o, rest, _, _, _, _, D', _, ys', rfl, hq.1, hq.2, h4, (((htab.mapH (tupF_unlock hfr')).put ((ho.ext ea).ext eU))).ext eb, e14.lst0 (ea.lst0 hysx), (hallx.ext ea).ext e14, ((e29.trans ex).trans ea).trans e14⟩
                · rw [if_neg xf]
                  simp only [if_neg xf] at hq
                  subst hq
                  obtain ⟨ao, wo, rfl, hao⟩ := fd_hd ho
                  refine ⟨_, rfl, _, hap, _, atI_0, _, rfl, _, hao, _, atI_0, rfl, ?_⟩
                  refine ite2 (fun _ => ⟨_, rfl, _, hap, _, atI_0, _, rfl, joinsT, GJ.at Hx, ?_⟩) fun _ => q0' rfl _ e2x
                  rw [if_neg (by decide)]
                  exact q0' rfl _ e2x
              · obtain ⟨ao, wo, rfl, hao⟩ := fd_hd ho
                refine ⟨_, rfl, _, hap, _, atI_0, rfl, ?_⟩
                rw [if_neg hne]
                refine ⟨_, rfl, _, hap, _, atI_0, _, rfl, _, hao, _, atI_0, rfl, ?_⟩
                by_cases hh : p.hd = o.hd
                · rw [if_pos (by rw [hh])]
                  refine ⟨_, rfl, _, hap, _, atI_0, _, rfl, joinsT, GJ.at Hx, ?_⟩
                  cases p with
                  | name x => cases hv
                  | one =>
                    rw [if_neg (by decide)]
                    have hr0 : r = none := hq
                    subst hr0
                    exact q0' rfl _ e2x
                  | none =>
                    rw [if_neg (by decide)]
                    have hr0 : r = none := hq
                    subst hr0
                    exact q0' rfl _ e2x
                  | bin j s1 s2 =>
                    rw [if_pos (of_decide_eq_true (in_joins (t := .bin j s1 s2)))]
                    cases o with
                    | name x => exact absurd hh.symm (fun z => Fm.hd_v (t := .bin j s1 s2) rfl z.symm)
                    | one => cases j <;> exact absurd hh (by simp only [Fm.hd, Jn.str]; decide)
                    | none => cases j <;> exact absurd hh (by simp only [Fm.hd, Jn.str]; decide)
                    | bin k t1 t2 =>
                      have hj : j = k := Jn.inj hh
                      unfold stepQ at hq
                      simp only [if_pos hj] at hq
                      subst hj
                      obtain ⟨ap', sp1, sp2, ea1, hap', hs1, hs2⟩ := fd_b hp
                      cases ea1
                      obtain ⟨ao', so1, so2, ea2, hao', ht1', ht2'⟩ := fd_b ho
                      cases ea2
                      refine ⟨tyV_lst (ex.lst0 hys9), _, rfl, _, hap', _, atI_1, _, rfl, _, hao', _, atI_1, by decide, fun pa Ha ea ha => ⟨_, rfl, _, tupF_ext ea hap', _, atI_2, _, rfl, _, tupF_ext ea hao', _, atI_2, by decide, fun pb Hb eb hb => ⟨by decide, fun pc Hc _ ec hc => ?_⟩⟩⟩
                      have ebc := eb.trans ec
                      have eac := ea.trans ebc
                      have exc := ex.trans eac
                      refine ⟨_, exc.lst0 hys9, _, hc, ?_, fun H7 e7 h7 => ?_⟩
                      · have l4 := hall'.length
                        rw [List.length_map, List.length_reverse] at l4
                        have := hUW.cnt
                        rw [List.length_cons] at this
                        have hs1 : (60000 : Nat) < sizeLine := by decide
                        rw [List.length_cons, List.length_cons, List.length_nil]
                        omega
                      · have qa : a ∉ [p3] := fun z => by
                          have z' : a = p3 := by simpa using z
                          rw [z', hys9] at hk9
                          cases hk9
                        refine ⟨m', Nat.lt_succ_self _, l, _, _, _, _, _, a, kvs, _, rfl, hq.1, hq.2, e7.dK (exc.dK0 hk9) qa, (htk9.ext exc).ext e7, h7, ?_, ?_⟩
                        · rw [List.reverse_cons, List.reverse_cons, List.append_assoc, List.map_append]
                          exact ((hall9.ext exc).ext e7).append (.cons (.tup (tupF_ext (ebc.any.trans e7) ha) (.cons ((hs1.ext eac).ext e7) (.cons ((ht1'.ext eac).ext e7) .nil))) (.cons (.tup (tupF_ext (ec.any.trans e7) hb) (.cons ((hs2.ext eac).ext e7) (.cons ((ht2'.ext eac).ext e7) .nil))) .nil))
                        · exact Ext.over (e29.trans exc) n3 e7
                · rw [if_neg (fun z => hh (V.str.inj z))]
                  have hr0 : r = none := by
                    cases p with
                    | name x => cases hv
                    | one => exact hq
                    | none => exact hq
                    | bin j s1 s2 =>
                      cases o with
                      | bin k t1 t2 =>
                        unfold stepQ at hq
                        by_cases hj : j = k
                        · exact absurd (congrArg Jn.str hj) hh
                        · simpa [hj] using hq
                      | _ => exact hq
                  subst hr0
                  exact q0' rfl _ e2x
            have noswap : ¬ ((u.fill (lk l)).isV fr = true ∧ (t.fill (lk l)).isV fr = false) → T [some (.ref pl), some vf, some (.ref a), some (.ref p3), some v1, some v2, x6, x7] H9 := fun z => by
              rw [if_neg z] at hm2
              exact tail v1 v2 _ _ H9 (Ext.refl _ _) fv1 fv2 (hU.fresh a1) (hU.fresh b1) a2 b2 (stepQ_safe hS (by show stepP fr l rest _ _ = _; unfold stepP; rw [if_neg heq, if_neg z]) hm2)
            have swap : ((u.fill (lk l)).isV fr = true ∧ (t.fill (lk l)).isV fr = false) → ∀ H10, Ext [] H9 H10 → T [some (.ref pl), some vf, some (.ref a), some (.ref p3), some v2, some v1, x6, x7] H10 := fun z H10 e10 => by
              rw [if_pos z] at hm2
              exact tail v2 v1 _ _ H10 e10 fv2 fv1 (hU.fresh b1) (hU.fresh a1) b2 a2 (stepQ_safe hS (by show stepP fr l rest _ _ = _; unfold stepP; rw [if_neg heq, if_pos z]) hm2)
            rcases fd_look fv2 with ⟨x, p, et, rfl, hp⟩ | ⟨hv, p, ws, rfl, hp, hne, _⟩
            · rw [et] at noswap swap
              refine ⟨p, rfl, _, hp, _, atI_0, rfl, ?_⟩
              rw [if_pos rfl]
              refine ⟨p, rfl, _, hp, _, atI_1, x, rfl, fr, hpf9, hNL x (hU.fresh b1 x (by rw [et]; simp [Fm.names])).1, ?_⟩
              by_cases hx : x ∈ fr
              · rw [if_pos hx]
                rcases fd_look fv1 with ⟨y, p', et', rfl, hp'⟩ | ⟨hv', p', ws', rfl, hp', hne', _⟩
                · rw [et'] at noswap swap
                  refine ⟨p', rfl, _, hp', _, atI_0, rfl, ?_⟩
                  rw [if_pos rfl]
                  refine ⟨p', rfl, _, hp', _, atI_1, y, rfl, fr, hpf9, hNL y (hU.fresh a1 y (by rw [et']; simp [Fm.names])).1, ?_⟩
                  by_cases hy : y ∈ fr
                  · rw [if_neg (by simp [hy])]
                    exact noswap fun z => by have := z.2; simp [Fm.isV, hy] at this
                  · rw [if_pos (by simp [hy])]
                    refine ⟨by decide, fun p10 H10 e10 h10 => ⟨_, h10, rfl, _, _, rfl, _, _, rfl, rfl, swap ⟨by simp [Fm.isV, hx], by simp [Fm.isV, hy]⟩ H10 e10⟩⟩
                · refine ⟨p', rfl, _, hp', _, atI_0, rfl, ?_⟩
                  rw [if_neg hne']
                  refine ⟨by decide, fun p10 H10 e10 h10 => ⟨_, h10, rfl, _, _, rfl, _, _, rfl, rfl, swap ⟨by simp [Fm.isV, hx], ?_⟩ H10 e10⟩⟩
                  cases hq : t.fill (lk l) with
                  | name y => rw [hq] at hv'; cases hv'
                  | _ => rfl
              · rw [if_neg hx]
                exact noswap fun z => by have := z.1; simp [Fm.isV, hx] at this
            · refine ⟨p, rfl, _, hp, _, atI_0, rfl, ?_⟩
              rw [if_neg hne]
              refine noswap fun z => ?_
              have z := z.1
              cases hq : u.fill (lk l) with
              | name y => rw [hq] at hv; cases hv
              | _ => rw [hq] at z; cases z
end
end Sq
set_option Elab.async false
set_option linter.all false
set_option maxRecDepth 100000
set_option maxHeartbeats 4000000
namespace Sq
open PySem PySem.Spec PyProof.Rows L2 RZ
local macro_rules | `(tactic| walk_at "rd") => `(tactic| simp only [tCont, tNever, iEnumL, iRng1, rPop0, rTIndex, rKdIx, rKdNin, tDG2, rU, tTIdx, iZipS, rDictC, rDictP, tAugS, ipI, rGetN, tDisp, tPairs, rIndexS, wipe, tNoPart, tDG2, tDGF, tDInF, tDNInF, sDPutF, tDNewF, rSortD, rInS, rInT, rEqLF, tDcF, tDc2F, tLcF, tForF, tAllF, tAnyF, tSumF, iStr, iEnumF, iZipF, iKeysF, iItems, tLZip, tYes, tSeq, tIfS, tNext, tRet, tRetN, tDrop, tTest, tB, tNot, tAnd, tOr, tChain, tOp, tUn, tCB, tCons, tNil, tC, tVar, tIf, tAndV, tOrV, tNotV, tAsg, tPar, tPar3, gName, gSub, gTupF, gCons, gNil, tTupF, tLstF, rI0, rI, rIxF, rIxG, rIxS, rSetF, rSlF, rCatF, rCatL, rTupL, rListT, rListL, rLenT, rLenL, iTupF, iLstF, rAppF, rExtF, rPopF, tBM, tBM0, tSl, tPart, rEq, rNe, tCall, L2.start,
  List.map_cons, List.map_nil, List.length_cons, List.length_nil, Nat.sub_self, List.replicate, List.append_nil, List.cons_append, List.nil_append, List.getElem?_cons_zero, List.getElem?_cons_succ, List.set_cons_zero, List.set_cons_succ,
  exSl, exI, exI2, exB, exS, exR, ex1, ex1', V.int.injEq, V.bl.injEq, V.ref.injEq, V.str.injEq, Option.some.injEq, List.cons.injEq, and_true, true_and, reduceCtorEq, false_and, and_false, or_false, false_or, exists_false, exists_and_left, exists_eq_left', decide_eq_true_eq, decide_true, decide_false, if_false, if_true, ite_true, ite_false, Bool.false_eq_true, Bool.not_true, Bool.not_false, Nat.reduceAdd, Nat.reduceSub, Nat.zero_add, atI_0, atI_1, atI_2, atI_3, ixN_0, ixN_1, ixN_2, cutV_1, cutV_2, Option.some.injEq, HO.lst.injEq, HO.dK.injEq, scal])
local macro_rules | `(tactic| walk_at "rdc") => `(tactic| simp (config := { contextual := true }) only [tCont, tNever, iEnumL, iRng1, rPop0, rTIndex, rKdIx, rKdNin, tDG2, rU, tTIdx, iZipS, rDictC, rDictP, tAugS, ipI, rGetN, tDisp, tPairs, rIndexS, wipe, tNoPart, tDG2, tDGF, tDInF, tDNInF, sDPutF, tDNewF, rSortD, rInS, rInT, rEqLF, tDcF, tDc2F, tLcF, tForF, tAllF, tAnyF, tSumF, iStr, iEnumF, iZipF, iKeysF, iItems, tLZip, tYes, tSeq, tIfS, tNext, tRet, tRetN, tDrop, tTest, tB, tNot, tAnd, tOr, tChain, tOp, tUn, tCB, tCons, tNil, tC, tVar, tIf, tAndV, tOrV, tNotV, tAsg, tPar, tPar3, gName, gSub, gTupF, gCons, gNil, tTupF, tLstF, rI0, rI, rIxF, rIxG, rIxS, rSetF, rSlF, rCatF, rCatL, rTupL, rListT, rListL, rLenT, rLenL, iTupF, iLstF, rAppF, rExtF, rPopF, tBM, tBM0, tSl, tPart, rEq, rNe, tCall, L2.start,
  List.map_cons, List.map_nil, List.length_cons, List.length_nil, Nat.sub_self, List.replicate, List.append_nil, List.cons_append, List.nil_append, List.getElem?_cons_zero, List.getElem?_cons_succ, List.set_cons_zero, List.set_cons_succ,
  exSl, exI, exI2, exB, exS, exR, ex1, ex1', V.int.injEq, V.bl.injEq, V.ref.injEq, V.str.injEq, Option.some.injEq, List.cons.injEq, and_true, true_and, reduceCtorEq, false_and, and_false, or_false, false_or, exists_false, exists_and_left, exists_eq_left', decide_eq_true_eq, decide_true, decide_false, if_false, if_true, ite_true, ite_false, Bool.false_eq_true, Bool.not_true, Bool.not_false, Nat.reduceAdd, Nat.reduceSub, Nat.zero_add, atI_0, atI_1, atI_2, atI_3, ixN_0, ixN_1, ixN_2, cutV_1, cutV_2, Option.some.injEq, HO.lst.injEq, HO.dK.injEq, scal, *])
section
variable {P : Program} {w : World} {K : PySem.W.Frag} {mg : Str → Option Value} {base : Heap} {f c aT : Addr} {fd : FuncData} {NS : List Str}
theorem atI_ltr {n : Nat} (h : n < 26) : ∃ c, atI (Str.ofString "abcdefghijklmnopqrstuvwxyz").cps.toList ((n : Nat) : Int) = some c ∧ ltr n = ⟨#[c]⟩ := by
  have key : ∀ n : Fin 26, (Str.ofString "abcdefghijklmnopqrstuvwxyz").cps.toList[n.1]? = some (97 + n.1) ∧ ltr n.1 = ⟨#[97 + n.1]⟩ := by decide +kernel
  obtain ⟨h1, h2⟩ := key ⟨n, h⟩
  exact ⟨97 + n, atI_nat h1, h2⟩
abbrev s_mark : Stmt := top 35
abbrev n_mark : List Str := ["k", "letters"]
theorem sc_mark : FnScope n_mark ["k"] (defScope s_mark) := ⟨rfl, rfl, rfl, by decide +kernel, rfl, by decide +kernel, by decide +kernel⟩
def spMark (aT : Addr) : Sp := fun vs H Q E => ∃ n : Nat, vs = [.int (n : Nat)] ∧ (n < 26 → Q (.str (ltr n)) H) ∧ (26 ≤ n → E (.ref aT) none H)
theorem ok_mark (F : Dn K mg "mark" s_mark f fd c) (B : Bl mg) (X_BadType : Xc K mg "BadType" aT) : CalX P w K mg base 1 "mark" (spMark aT) := by
  refine F.calX (ps := ["k"]) (fun _ _ _ _ _ _ us hl => match us, hl with | [_], _ => rfl) sc_mark (fun vs H Q E h => ?_) (fun A outer s H vs Q E hr h => ?_)
  · obtain ⟨_, rfl, _⟩ := h; rfl
  obtain ⟨n, rfl, q, qe⟩ := h
  refine ⟨_, (pss_cons (ps_set (i := 1) sc_mark.nd rfl (by first | exact Or.inl rfl | exact Or.inr rfl) pe_str)
    (pss_cons (ps_if (pt_cmpR op_ge (pv 0) (pe_callB call_len_str (by rfl) B.b_len (by decide +kernel) (pa_cons (pv 1) pa_nil)) (nomark _)) (pss_one (ps_raiseX X_BadType (takes_of rfl rfl rfl rfl))) pss_nil)
    (pss_one (ps_ret (pe_ix ix_str (pv 1) (pv 0) (fun _ _ => rfl)))))), ?_⟩
  walk_at "rd"
  have hL : (Str.ofString "abcdefghijklmnopqrstuvwxyz").length = 26 := by decide +kernel
  have hz : (100000 : Nat) ≤ sizeLine := by decide
  refine ⟨by omega, ?_⟩
  rw [hL]
  by_cases hn : n < 26
  · rw [if_neg (by omega)]
    obtain ⟨c, h1, h2⟩ := atI_ltr hn
    refine ⟨by omega, c, h1, ?_⟩
    rw [← h2]
    exact q hn
  · rw [if_pos (by omega)]
    exact qe (by omega)
abbrev s_new_type : Stmt := top 37
abbrev n_new_type : List Str := ["count"]
theorem sc_new_type : FnScope n_new_type ["count"] (defScope s_new_type) := ⟨rfl, rfl, rfl, by decide +kernel, rfl, by decide +kernel, by decide +kernel⟩
def spNew (K : PySem.W.Frag) (aT : Addr) : Sp := fun vs H Q E => ∃ (a : Addr) (n : Nat), vs = [.ref a] ∧ H a = some (.lst [.int (n : Nat)]) ∧ (n < 26 → ∀ v' H', Ext [a] H H' → H' a = some (.lst [.int ((n + 1 : Nat))]) → Td K H' v' (mk n).data → Q v' H') ∧ (26 ≤ n → ∀ H', Ext [a] H H' → E (.ref aT) none H')
theorem ok_new (F : Dn K mg "new_type" s_new_type f fd c) (B : Bl mg) (G_mark : CalX P w K mg base 1 "mark" (spMark aT)) : CalX P w K mg base 2 "new_type" (spNew K aT) := by
  refine F.calX (ps := ["count"]) (fun _ _ _ _ _ _ us hl => match us, hl with | [_], _ => rfl) sc_new_type (fun vs H Q E h => ?_) (fun A outer s H vs Q E hr h => ?_)
  · obtain ⟨_, _, rfl, _⟩ := h; rfl
  obtain ⟨a, n, rfl, ha, q, qe⟩ := h
  refine ⟨_, (pss_cons (ps_augS (pv 0) pe_int get_lstN pe_int ip_add set_lstF)
    (pss_one (ps_ret (pe_tupK K (pa_cons pe_str (pa_cons (pe_cX G_mark hr (by omega) (takes_of rfl rfl rfl rfl) (fun _ _ _ _ h => h) (by rfl) (pa_cons (pe_op op_sub (pe_ix ix_lstF (pv 0) pe_int (fun _ _ => rfl)) pe_int) pa_nil)) pa_nil)))))), ?_⟩
  walk_at "rd"
  refine ⟨_, ha, Int.le_refl _, _, rfl, _, rfl, _, ha, 0, rfl, fun H2 e2 h2 => ⟨_, h2, _, atI_0, _, rfl, n, by rw [Int.add_sub_cancel], fun hn => ⟨by decide, fun p H3 e3 h3 => ?_⟩, fun hn => qe hn H2 e2⟩⟩
  have hn1 : ((n : Int) + 1) = ((n + 1 : Nat) : Int) := by omega
  rw [hn1] at h2
  refine q hn _ H3 (e2.trans e3.any) (e3.lst0 h2) (.tup h3 (.cons (.str _) (.cons (.str _) .nil)))
/-! ### guess -/
abbrev s_guess : Stmt := top 36
abbrev n_guess : List Str := ["bare", "context", "count", "pairs", "kind", "one", "other", "what", "left", "right"]
theorem sc_guess : FnScope n_guess ["bare", "context", "count", "pairs"] (defScope s_guess) := ⟨rfl, rfl, rfl, by decide +kernel, rfl, by decide +kernel, by decide +kernel⟩
structure GsA (K : PySem.W.Frag) (H : Hp) (v : V) (b cn pr : Addr) (t : Bt) (l : Tab) (n : Nat) (ys : List V) (ps : FP) : Prop where
  tt : Td K H v t.data
  ll : TabD K H b l
  few : l.length + t.dep ≤ 900
  hc : H cn = some (.lst [.int (n : Nat)])
  hp : H pr = some (.lst ys)
  hy : TdAll K H ys (ps.map pairD)
  ne : cn ≠ pr
  n26 : n ≤ 26
  len : ps.length ≤ n
def spGs (K : PySem.W.Frag) (aT : Addr) (k : Nat) : Sp := fun vs H Q E => ∃ (v : V) (b cn pr : Addr) (t : Bt) (l : Tab) (n : Nat) (ys : List V) (ps0 : FP), vs = [v, .ref b, .ref cn, .ref pr] ∧ GsA K H v b cn pr t l n ys ps0 ∧ t.dep + 2 ≤ k ∧
  (∀ g m ps, gs t l n = some (g, m, ps) → ∀ v' H' zs', Ext [cn, pr] H H' → GsA K H' v b cn pr t l m zs' (ps0 ++ ps) → Td K H' v' g.data → Q v' H') ∧ (gs t l n = none → ∀ H', Ext [cn, pr] H H' → E (.ref aT) none H')
theorem lst_dK {H : Hp} {a b : Addr} {xs : List V} {l : Tab} (h : TabD K H b l) (k : H a = some (.lst xs)) : b ≠ a := fun e => by
  obtain ⟨kvs, h, _⟩ := h
  rw [e, k] at h
  cases h
theorem td_s1 {H : Hp} {v : V} {a : Str} {d : PyData} (h : Td K H v (.tuple [.str a, d])) : ∃ p x, v = .ref p ∧ tupF K H p = some [.str a, x] ∧ Td K H x d := by
  cases h with
  | tup e r => cases r with
    | cons h1 r => cases r with
      | cons h2 r => cases r; cases h1; exact ⟨_, _, rfl, e, h2⟩
theorem td_s2 {H : Hp} {v : V} {a : Str} {d d' : PyData} (h : Td K H v (.tuple [.str a, d, d'])) : ∃ p x y, v = .ref p ∧ tupF K H p = some [.str a, x, y] ∧ Td K H x d ∧ Td K H y d' := by
  cases h with
  | tup e r => cases r with
    | cons h1 r => cases r with
      | cons h2 r => cases r with
        | cons h3 r => cases r; cases h1; exact ⟨_, _, _, rfl, e, h2, h3⟩
section
variable {H H' : Hp} {v w' : V} {b b' cn pr : Addr} {t u : Bt} {l : Tab} {n m : Nat} {ys zs' : List V} {ps ps' : FP}
theorem GsA.nb (h : GsA K H v b cn pr t l n ys ps) : b ∉ [cn, pr] := fun z => by
  simp only [List.mem_cons, List.not_mem_nil, or_false] at z
  rcases z with z | z
  · exact lst_dK h.ll h.hc z
  · exact lst_dK h.ll h.hp z
theorem GsA.sub (h : GsA K H v b cn pr t l n ys ps) (hu : Td K H w' u.data) (hd : u.dep ≤ t.dep) : GsA K H w' b cn pr u l n ys ps := { h with tt := hu, few := by have := h.few; omega }
theorem GsA.ext0 (h : GsA K H v b cn pr t l n ys ps) (e : Ext [] H H') : GsA K H' v b cn pr t l n ys ps := { h with tt := h.tt.ext e, ll := h.ll.ext0 e, hc := e.lst0 h.hc, hp := e.lst0 h.hp, hy := h.hy.ext e }
theorem GsA.count (h : GsA K H v b cn pr t l n ys ps) (hn : n < 26) (e : Ext [cn] H H') (hc : H' cn = some (.lst [.int ((n + 1 : Nat))])) : GsA K H' v b cn pr t l (n + 1) ys ps :=
  { h with tt := h.tt.ext e, ll := h.ll.ext e (fun z => h.nb (by simp only [List.mem_singleton] at z; simp [z])), hc := hc, hp := e.lst h.hp (fun z => h.ne (by simpa using z : pr = cn).symm), hy := h.hy.ext e, n26 := by omega, len := by have := h.len; omega }
theorem GsA.ctx {x : Str} {f : Fm} (h : GsA K H v b cn pr t l n ys ps) (e : Ext [] H H') (hl : TabD K H' b' (putL l x f)) (hw : Td K H' w' u.data) (hd : u.dep + 1 ≤ t.dep) : GsA K H' w' b' cn pr u (putL l x f) n ys ps :=
  { h with tt := hw, ll := hl, hc := e.lst0 h.hc, hp := e.lst0 h.hp, hy := h.hy.ext e, few := by have := h.few; have := putL_len l x f; omega }
theorem GsA.back {l' : Tab} (h : GsA K H v b cn pr t l n ys ps) (e : Ext [cn, pr] H H') (r : GsA K H' w' b' cn pr u l' m zs' ps') : GsA K H' v b cn pr t l m zs' ps' :=
  { r with tt := h.tt.ext e, ll := h.ll.ext e h.nb, few := h.few }
theorem GsA.app {x : V} {z : Fm × Fm} (h : GsA K H v b cn pr t l n ys ps) (e : Ext [pr] H H') (hp : H' pr = some (.lst (ys ++ [x]))) (hx : Td K H' x (pairD z)) (hl : ps.length + 1 ≤ n) : GsA K H' v b cn pr t l n (ys ++ [x]) (ps ++ [z]) :=
  { h with tt := h.tt.ext e, ll := h.ll.ext e (fun z => h.nb (by simp only [List.mem_singleton] at z; simp [z])), hc := e.lst h.hc (fun z => h.ne (by simpa using z)), hp := hp, hy := by rw [List.map_append]; exact (h.hy.ext e).append (.cons hx .nil), len := by rw [List.length_append]; exact hl }
end
theorem step_gs (F : Dn K mg "guess" s_guess f fd c) (B : Bl mg) (X_BadType : Xc K mg "BadType" aT) (G_new_type : CalX P w K mg base 2 "new_type" (spNew K aT)) (G_with_name : Cal P w K mg base 1 "with_name" (spWith K)) (k : Nat) (hk2 : 2 ≤ k) (G_guess : CalX P w K mg base k "guess" (spGs K aT k)) :
    FnOk P w K mg base (L2.CX P w) (k + 1) f fd ["bare", "context", "count", "pairs"] (spGs K aT (k + 1)) := by
  refine F.okX sc_guess (fun vs H Q E h => ?_) (fun A outer s H vs Q E hr h => ?_)
  · obtain ⟨_, _, _, _, _, _, _, _, _, rfl, _⟩ := h; rfl
  obtain ⟨v, b, cn, pr, t, l, n, zs, ps0, rfl, ha, hd, q, qe⟩ := h
  refine ⟨_, (pss_cons (ps_set (i := 4) sc_guess.nd rfl (by first | exact Or.inl rfl | exact Or.inr rfl) (pe_ix (ix_tupK K) (pv 0) pe_int (fun _ _ => rfl)))
    (pss_cons (ps_if (pt_cmpR op_eq (pv 4) pe_str (nomark _)) (pss_cons (ps_if (pt_cmp (pc_dnotinF (hu_of hr) (pe_ix (ix_tupK K) (pv 0) pe_int (fun _ _ => rfl)) (pv 1))) (pss_one (ps_raiseX X_BadType (takes_of rfl rfl rfl rfl))) pss_nil)
    (pss_one (ps_ret (pe_dgetF (hu_of hr) (pv 1) (pe_ix (ix_tupK K) (pv 0) pe_int (fun _ _ => rfl)) (fun _ _ => rfl))))) pss_nil)
    (pss_cons (ps_if (pt_cmpR op_eq (pv 4) pe_str (nomark _)) (pss_cons (ps_set (i := 5) sc_guess.nd rfl (by first | exact Or.inl rfl | exact Or.inr rfl) (pe_cX G_new_type hr (by omega) (takes_of rfl rfl rfl rfl) (fun _ _ _ _ h => h) (by rfl) (pa_cons (pv 2) pa_nil)))
    (pss_one (ps_ret (pe_tupK K (pa_cons pe_str (pa_cons (pv 5) (pa_cons (pe_cX G_guess hr (by omega) (takes_of rfl rfl rfl rfl) (fun _ _ _ _ h => h) (by rfl) (pa_cons (pe_ix (ix_tupK K) (pv 0) pe_int (fun _ _ => rfl)) (pa_cons (C8.pe_c G_with_name hr (by omega) (by rfl) (pa_cons (pv 1) (pa_cons (pe_ix (ix_tupK K) (pv 0) pe_int (fun _ _ => rfl)) (pa_cons (pv 5) pa_nil)))) (pa_cons (pv 2) (pa_cons (pv 3) pa_nil))))) pa_nil))))))) pss_nil)
    (pss_cons (ps_set (i := 5) sc_guess.nd rfl (by first | exact Or.inl rfl | exact Or.inr rfl) (pe_cX G_guess hr (by omega) (takes_of rfl rfl rfl rfl) (fun _ _ _ _ h => h) (by rfl) (pa_cons (pe_ix (ix_tupK K) (pv 0) pe_int (fun _ _ => rfl)) (pa_cons (pv 1) (pa_cons (pv 2) (pa_cons (pv 3) pa_nil))))))
    (pss_cons (ps_if (pt_cmpR op_eq (pv 4) pe_str (nomark _)) (pss_one (ps_ret (pe_tupK K (pa_cons pe_str (pa_cons (pv 5) (pa_cons (pe_cX G_guess hr (by omega) (takes_of rfl rfl rfl rfl) (fun _ _ _ _ h => h) (by rfl) (pa_cons (pe_ix (ix_tupK K) (pv 0) pe_int (fun _ _ => rfl)) (pa_cons (pv 1) (pa_cons (pv 2) (pa_cons (pv 3) pa_nil))))) pa_nil)))))) pss_nil)
    (pss_cons (ps_if (pt_cmpR op_eq (pv 4) pe_str (nomark _)) (pss_cons (ps_par (i := 6) (j := 7) (by rfl) sc_guess.nd rfl rfl (by decide) rfl rfl (pa_cons (pe_cX G_guess hr (by omega) (takes_of rfl rfl rfl rfl) (fun _ _ _ _ h => h) (by rfl) (pa_cons (pe_ix (ix_tupK K) (pv 0) pe_int (fun _ _ => rfl)) (pa_cons (pv 1) (pa_cons (pv 2) (pa_cons (pv 3) pa_nil))))) (pa_cons (pe_cX G_new_type hr (by omega) (takes_of rfl rfl rfl rfl) (fun _ _ _ _ h => h) (by rfl) (pa_cons (pv 2) pa_nil)) pa_nil)) (by rfl))
    (pss_cons (ps_expr (pe_bm PySem.F.plainAttrs_list PySem.F.slot_list_append PySem.F.type_list_append mt_appF (pv 3) (pa_cons (pe_tupK K (pa_cons (pv 5) (pa_cons (pe_tupK K (pa_cons pe_str (pa_cons (pv 6) (pa_cons (pv 7) pa_nil)))) pa_nil))) pa_nil)))
    (pss_one (ps_ret (pv 7))))) pss_nil)
    (pss_cons (ps_par (i := 8) (j := 9) (by rfl) sc_guess.nd rfl rfl (by decide) rfl rfl (pa_cons (pe_cX G_new_type hr (by omega) (takes_of rfl rfl rfl rfl) (fun _ _ _ _ h => h) (by rfl) (pa_cons (pv 2) pa_nil)) (pa_cons (pe_cX G_new_type hr (by omega) (takes_of rfl rfl rfl rfl) (fun _ _ _ _ h => h) (by rfl) (pa_cons (pv 2) pa_nil)) pa_nil)) (by rfl))
    (pss_cons (ps_expr (pe_bm PySem.F.plainAttrs_list PySem.F.slot_list_append PySem.F.type_list_append mt_appF (pv 3) (pa_cons (pe_tupK K (pa_cons (pv 5) (pa_cons (pe_tupK K (pa_cons pe_str (pa_cons (pv 8) (pa_cons (pv 9) pa_nil)))) pa_nil))) pa_nil)))
    (pss_one (ps_ret (pe_ifExp (pt_cmpR op_eq (pv 4) pe_str (nomark _)) (pv 8) (pv 9)))))))))))), ?_⟩
  walk_at "rd"
  have two : ∀ {S : Addr} {H1 H2 : Hp}, S = cn ∨ S = pr → Ext [S] H1 H2 → Ext [cn, pr] H1 H2 := fun hs e => e.mono fun b hb => by
    rw [show b = _ from (by simpa using hb)]
    rcases hs with h | h <;> simp [h]
  cases t with
  | var x =>
    obtain ⟨p, y, rfl, hp, hy⟩ := td_s1 ha.tt
    cases hy
    obtain ⟨kvs, hk, hr'⟩ := ha.ll
    refine ⟨p, rfl, _, hp, _, atI_0, rfl, ys ⟨p, rfl, _, hp, _, atI_1, x, rfl, kvs, dctF_dK hk, ?_⟩⟩
    rcases hr'.val x with ⟨k1, k2⟩ | ⟨g, v', k1, k2, k3⟩
    · rw [if_pos (by rw [k2]; rfl)]
      exact qe (by simp only [gs, k1]) H (Ext.refl _ _)
    · rw [if_neg (by rw [k2]; simp)]
      exact ⟨p, rfl, _, hp, _, atI_1, x, rfl, kvs, dctF_dK hk, v', k2, q g n [] (by simp only [gs, k1]) v' H _ (Ext.refl _ _) (by rw [List.append_nil]; exact ha) k3⟩
  | fn x t =>
    obtain ⟨p, y, z, rfl, hp, hy, hz⟩ := td_s2 ha.tt
    cases hy
    simp only [Bt.dep] at hd
    refine ⟨p, rfl, _, hp, _, atI_0, rfl, no (a := "fun") (by decide +kernel) ⟨rfl, ys ⟨cn, n, rfl, ha.hc, fun hn v1 H1 e1 h1 d1 => ?_, fun hn H1 e1 => qe (by simp only [gs]; rw [if_neg (by omega)]) H1 (two (.inl rfl) e1)⟩⟩⟩
    have a1 := ha.count hn e1 h1
    have hp1 := tupF_ext e1 hp
    refine ⟨p, rfl, _, hp1, _, atI_2, p, rfl, _, hp1, _, atI_1, b, x, v1, l, mk n, rfl, a1.ll.a, d1, by have := ha.few; omega, fun b2 H2 n2 e2 h2 => ?_⟩
    have a2 := a1.ctx e2 h2 ((hz.ext e1).ext e2) (u := t) (by simp only [Bt.dep]; omega)
    refine ⟨_, b2, cn, pr, t, _, n + 1, zs, ps0, rfl, a2, by omega, fun g m ps hg v3 H3 ys3 e3 a3 d3 => ⟨by decide, fun p4 H4 e4 h4 => ?_⟩, fun hg H3 e3 => qe (by simp only [gs]; rw [if_pos hn, hg]) H3 ((two (.inl rfl) e1).trans (e2.any.trans e3))⟩
    have eA := (two (.inl rfl) e1).trans (e2.any.trans e3)
    refine q (.bin .to (mk n) g) m ps (by simp only [gs]; rw [if_pos hn, hg]) _ H4 ys3 (eA.trans e4.any) ((ha.back eA a3).ext0 e4) (.tup h4 (.cons (.str _) (.cons (((d1.ext e2).ext e3).ext e4) (.cons (d3.ext e4) .nil))))
  | pair t u =>
    obtain ⟨p, y, z, rfl, hp, hy, hz⟩ := td_s2 ha.tt
    simp only [Bt.dep] at hd
    refine ⟨p, rfl, _, hp, _, atI_0, rfl, no (a := "pair") (by decide +kernel) ⟨rfl, no (a := "pair") (by decide +kernel) ?_⟩⟩
    refine ⟨p, rfl, _, hp, _, atI_1, _, b, cn, pr, t, l, n, zs, ps0, rfl, ha.sub hy (by simp only [Bt.dep]; omega), by omega, fun g1 m1 p1 hg1 v1 H1 ys1 e1 a1 d1 => ?_, fun hg H1 e1 => qe (by simp only [gs, hg]) H1 e1⟩
    have b1 := ha.back e1 a1
    have hp1 := tupF_ext e1 hp
    refine ⟨rfl, ys ⟨p, rfl, _, hp1, _, atI_2, _, b, cn, pr, u, l, m1, ys1, _, rfl, b1.sub (hz.ext e1) (by simp only [Bt.dep]; omega), by omega, fun g2 m2 p2 hg2 v2 H2 ys2 e2 a2 d2 => ⟨by decide, fun p4 H4 e4 h4 => ?_⟩, fun hg H2 e2 => qe (by simp only [gs, hg1, hg]) H2 (e1.trans e2)⟩⟩
    have b2 := b1.back e2 a2
    rw [List.append_assoc] at b2
    exact q (.bin .both g1 g2) m2 (p1 ++ p2) (by simp only [gs, hg1, hg2]) _ H4 ys2 ((e1.trans e2).trans e4.any) (b2.ext0 e4) (.tup h4 (.cons (.str _) (.cons ((d1.ext e2).ext e4) (.cons (d2.ext e4) .nil))))
  | app t u =>
    obtain ⟨p, y, z, rfl, hp, hy, hz⟩ := td_s2 ha.tt
    simp only [Bt.dep] at hd
    refine ⟨p, rfl, _, hp, _, atI_0, rfl, no (a := "app") (by decide +kernel) ⟨rfl, no (a := "app") (by decide +kernel) ?_⟩⟩
    refine ⟨p, rfl, _, hp, _, atI_1, _, b, cn, pr, t, l, n, zs, ps0, rfl, ha.sub hy (by simp only [Bt.dep]; omega), by omega, fun g1 m1 p1 hg1 v1 H1 ys1 e1 a1 d1 => ?_, fun hg H1 e1 => qe (by simp only [gs, hg]) H1 e1⟩
    have b1 := ha.back e1 a1
    have hp1 := tupF_ext e1 hp
    refine ⟨rfl, no (a := "app") (by decide +kernel) ⟨rfl, ys ?_⟩⟩
    refine ⟨p, rfl, _, hp1, _, atI_2, _, b, cn, pr, u, l, m1, ys1, _, rfl, b1.sub (hz.ext e1) (by simp only [Bt.dep]; omega), by omega, fun g2 m2 p2 hg2 v2 H2 ys2 e2 a2 d2 => ?_, fun hg H2 e2 => qe (by simp only [gs, hg1, hg]) H2 (e1.trans e2)⟩
    have b2 := b1.back e2 a2
    rw [List.append_assoc] at b2
    refine ⟨cn, m2, rfl, b2.hc, fun hm v3 H3 e3 h3 d3 => ⟨_, _, ⟨rfl, rfl⟩, tyV_lst (b2.count hm e3 h3).hp, by decide, fun p4 H4 e4 h4 => ⟨by decide, fun p5 H5 e5 h5 => ?_⟩⟩, fun hm H3 e3 => qe (by simp only [gs, hg1, hg2]; rw [if_neg (by omega)]) H3 ((e1.trans e2).trans (two (.inl rfl) e3))⟩
    have b3 := b2.count hm e3 h3
    have b5 := b3.ext0 (e4.trans e5)
    have hlen := b2.len
    refine ⟨_, b5.hp, by have := b5.hy.length; rw [List.length_map] at this; have hz : (100000 : Nat) ≤ sizeLine := by decide
                         omega, fun H6 e6 h6 => ?_⟩
    have b6 := b5.app (z := (g1, .bin .to g2 (mk m2))) e6 h6 (.tup (tupF_ext e6 h5) (.cons ((d1.ext (e2.trans (two (.inl rfl) e3))).ext ((e4.trans e5).any.trans e6)) (.cons (.tup (tupF_ext (e5.any.trans e6) h4) (.cons (.str _) (.cons ((d2.ext e3).ext ((e4.trans e5).any.trans e6)) (.cons (d3.ext ((e4.trans e5).any.trans e6)) .nil)))) .nil))) (by omega)
    have eA : Ext [cn, pr] H H6 := ((e1.trans e2).trans (two (.inl rfl) e3)).trans ((e4.trans e5).any.trans (two (.inr rfl) e6))
    rw [List.append_assoc] at b6
    exact q (mk m2) (m2 + 1) (p1 ++ p2 ++ [(g1, .bin .to g2 (mk m2))]) (by simp only [gs, hg1, hg2]; rw [if_pos hm]) v3 H6 _ eA b6 (d3.ext ((e4.trans e5).any.trans e6))
  | fst t =>
    obtain ⟨p, y, rfl, hp, hy⟩ := td_s1 ha.tt
    simp only [Bt.dep] at hd
    refine ⟨p, rfl, _, hp, _, atI_0, rfl, no (a := "first") (by decide +kernel) ⟨rfl, no (a := "first") (by decide +kernel) ?_⟩⟩
    refine ⟨p, rfl, _, hp, _, atI_1, _, b, cn, pr, t, l, n, zs, ps0, rfl, ha.sub hy (by simp only [Bt.dep]; omega), by omega, fun g1 m1 p1 hg1 v1 H1 ys1 e1 a1 d1 => ?_, fun hg H1 e1 => qe (by simp only [gs, hg]) H1 e1⟩
    have b1 := ha.back e1 a1
    have hp1 := tupF_ext e1 hp
    refine ⟨rfl, no (a := "first") (by decide +kernel) ⟨rfl, no (a := "first") (by decide +kernel) ?_⟩⟩
    refine ⟨cn, m1, rfl, b1.hc, fun hm v2 H2 e2 h2 d2 => ?_, fun hm H2 e2 => qe (by simp only [gs, hg1]; rw [if_neg (by omega)]) H2 (e1.trans (two (.inl rfl) e2))⟩
    have b2 := b1.count hm e2 h2
    refine ⟨cn, m1 + 1, rfl, b2.hc, fun hm2 v3 H3 e3 h3 d3 => ⟨_, _, ⟨rfl, rfl⟩, tyV_lst (b2.count hm2 e3 h3).hp, by decide, fun p4 H4 e4 h4 => ⟨by decide, fun p5 H5 e5 h5 => ?_⟩⟩, fun hm2 H3 e3 => qe (by simp only [gs, hg1]; rw [if_neg (by omega)]) H3 ((e1.trans (two (.inl rfl) e2)).trans (two (.inl rfl) e3))⟩
    have b3 := b2.count hm2 e3 h3
    have b5 := b3.ext0 (e4.trans e5)
    have hlen := b1.len
    refine ⟨_, b5.hp, by have := b5.hy.length; rw [List.length_map] at this; have hz : (100000 : Nat) ≤ sizeLine := by decide
                         omega, fun H6 e6 h6 => ?_⟩
    have e46 := (e4.trans e5).any.trans e6
    have b6 := b5.app (z := (g1, .bin .both (mk m1) (mk (m1 + 1)))) e6 h6 (.tup (tupF_ext e6 h5) (.cons ((d1.ext ((two (.inl rfl) e2).trans (two (.inl rfl) e3))).ext e46) (.cons (.tup (tupF_ext (e5.any.trans e6) h4) (.cons (.str _) (.cons ((d2.ext e3).ext e46) (.cons (d3.ext e46) .nil)))) .nil))) (by omega)
    have eA : Ext [cn, pr] H H6 := ((e1.trans (two (.inl rfl) e2)).trans (two (.inl rfl) e3)).trans ((e4.trans e5).any.trans (two (.inr rfl) e6))
    rw [List.append_assoc] at b6
    refine ⟨rfl, ys ?_⟩
    exact q (mk m1) (m1 + 2) (p1 ++ [(g1, .bin .both (mk m1) (mk (m1 + 1)))]) (by simp only [gs, hg1]; rw [if_pos hm2]) _ H6 _ eA b6 ((d2.ext e3).ext e46)
  | snd t =>
    obtain ⟨p, y, rfl, hp, hy⟩ := td_s1 ha.tt
    simp only [Bt.dep] at hd
    refine ⟨p, rfl, _, hp, _, atI_0, rfl, no (a := "second") (by decide +kernel) ⟨rfl, no (a := "second") (by decide +kernel) ?_⟩⟩
    refine ⟨p, rfl, _, hp, _, atI_1, _, b, cn, pr, t, l, n, zs, ps0, rfl, ha.sub hy (by simp only [Bt.dep]; omega), by omega, fun g1 m1 p1 hg1 v1 H1 ys1 e1 a1 d1 => ?_, fun hg H1 e1 => qe (by simp only [gs, hg]) H1 e1⟩
    have b1 := ha.back e1 a1
    have hp1 := tupF_ext e1 hp
    refine ⟨rfl, no (a := "second") (by decide +kernel) ⟨rfl, no (a := "second") (by decide +kernel) ?_⟩⟩
    refine ⟨cn, m1, rfl, b1.hc, fun hm v2 H2 e2 h2 d2 => ?_, fun hm H2 e2 => qe (by simp only [gs, hg1]; rw [if_neg (by omega)]) H2 (e1.trans (two (.inl rfl) e2))⟩
    have b2 := b1.count hm e2 h2
    refine ⟨cn, m1 + 1, rfl, b2.hc, fun hm2 v3 H3 e3 h3 d3 => ⟨_, _, ⟨rfl, rfl⟩, tyV_lst (b2.count hm2 e3 h3).hp, by decide, fun p4 H4 e4 h4 => ⟨by decide, fun p5 H5 e5 h5 => ?_⟩⟩, fun hm2 H3 e3 => qe (by simp only [gs, hg1]; rw [if_neg (by omega)]) H3 ((e1.trans (two (.inl rfl) e2)).trans (two (.inl rfl) e3))⟩
    have b3 := b2.count hm2 e3 h3
    have b5 := b3.ext0 (e4.trans e5)
    have hlen := b1.len
    refine ⟨_, b5.hp, by have := b5.hy.length; rw [List.length_map] at this; have hz : (100000 : Nat) ≤ sizeLine := by decide
                         omega, fun H6 e6 h6 => ?_⟩
    have e46 := (e4.trans e5).any.trans e6
    have b6 := b5.app (z := (g1, .bin .both (mk m1) (mk (m1 + 1)))) e6 h6 (.tup (tupF_ext e6 h5) (.cons ((d1.ext ((two (.inl rfl) e2).trans (two (.inl rfl) e3))).ext e46) (.cons (.tup (tupF_ext (e5.any.trans e6) h4) (.cons (.str _) (.cons ((d2.ext e3).ext e46) (.cons (d3.ext e46) .nil)))) .nil))) (by omega)
    have eA : Ext [cn, pr] H H6 := ((e1.trans (two (.inl rfl) e2)).trans (two (.inl rfl) e3)).trans ((e4.trans e5).any.trans (two (.inr rfl) e6))
    rw [List.append_assoc] at b6
    refine ⟨rfl, no (a := "second") (by decide +kernel) ?_⟩
    exact q (mk (m1 + 1)) (m1 + 2) (p1 ++ [(g1, .bin .both (mk m1) (mk (m1 + 1)))]) (by simp only [gs, hg1]; rw [if_pos hm2]) _ H6 _ eA b6 (d3.ext e46)
end
end Sq
set_option Elab.async false
set_option linter.all false
set_option maxRecDepth 100000
set_option maxHeartbeats 4000000
namespace Sq
open PySem PySem.Spec PyProof.Rows L2 RZ
local macro_rules | `(tactic| walk_at "rd") => `(tactic| simp only [tCont, tDisp, tPairs, rIndexS, wipe, tNoPart, tDG2, tDGF, tDInF, tDNInF, sDPutF, tDNewF, rSortD, rInS, rInT, rEqLF, tDcF, tDc2F, tLcF, tForF, tAllF, tAnyF, tSumF, iStr, iEnumF, iZipF, iKeysF, iItems, tLZip, tYes, tSeq, tIfS, tNext, tRet, tRetN, tDrop, tTest, tB, tNot, tAnd, tOr, tChain, tOp, tUn, tCB, tCons, tNil, tC, tVar, tIf, tAndV, tOrV, tNotV, tAsg, tPar, tPar3, gName, gSub, gTupF, gCons, gNil, tTupF, tLstF, rI0, rI, rIxF, rIxG, rIxS, rSetF, rSlF, rCatF, rCatL, rTupL, rListT, rListL, rLenT, rLenL, iTupF, iLstF, rAppF, rExtF, rPopF, tBM, tBM0, tSl, tPart, rEq, rNe, tCall, L2.start,
  List.map_cons, List.map_nil, List.length_cons, List.length_nil, Nat.sub_self, List.replicate, List.append_nil, List.cons_append, List.nil_append, List.getElem?_cons_zero, List.getElem?_cons_succ, List.set_cons_zero, List.set_cons_succ,
  exSl, exI, exI2, exB, exS, exR, ex1, ex1', V.int.injEq, V.bl.injEq, V.ref.injEq, V.str.injEq, Option.some.injEq, List.cons.injEq, and_true, true_and, reduceCtorEq, false_and, and_false, or_false, false_or, exists_false, exists_and_left, exists_eq_left', decide_eq_true_eq, decide_true, decide_false, if_false, if_true, ite_true, ite_false, Bool.false_eq_true, Bool.not_true, Bool.not_false, Nat.reduceAdd, Nat.reduceSub, Nat.zero_add, atI_0, atI_1, atI_2, atI_3, ixN_0, ixN_1, ixN_2, cutV_1, cutV_2, Option.some.injEq, HO.lst.injEq, HO.dK.injEq, scal])
local macro_rules | `(tactic| walk_at "rdc") => `(tactic| simp (config := { contextual := true }) only [tCont, tDisp, tPairs, rIndexS, wipe, tNoPart, tDG2, tDGF, tDInF, tDNInF, sDPutF, tDNewF, rSortD, rInS, rInT, rEqLF, tDcF, tDc2F, tLcF, tForF, tAllF, tAnyF, tSumF, iStr, iEnumF, iZipF, iKeysF, iItems, tLZip, tYes, tSeq, tIfS, tNext, tRet, tRetN, tDrop, tTest, tB, tNot, tAnd, tOr, tChain, tOp, tUn, tCB, tCons, tNil, tC, tVar, tIf, tAndV, tOrV, tNotV, tAsg, tPar, tPar3, gName, gSub, gTupF, gCons, gNil, tTupF, tLstF, rI0, rI, rIxF, rIxG, rIxS, rSetF, rSlF, rCatF, rCatL, rTupL, rListT, rListL, rLenT, rLenL, iTupF, iLstF, rAppF, rExtF, rPopF, tBM, tBM0, tSl, tPart, rEq, rNe, tCall, L2.start,
  List.map_cons, List.map_nil, List.length_cons, List.length_nil, Nat.sub_self, List.replicate, List.append_nil, List.cons_append, List.nil_append, List.getElem?_cons_zero, List.getElem?_cons_succ, List.set_cons_zero, List.set_cons_succ,
  exSl, exI, exI2, exB, exS, exR, ex1, ex1', V.int.injEq, V.bl.injEq, V.ref.injEq, V.str.injEq, Option.some.injEq, List.cons.injEq, and_true, true_and, reduceCtorEq, false_and, and_false, or_false, false_or, exists_false, exists_and_left, exists_eq_left', decide_eq_true_eq, decide_true, decide_false, if_false, if_true, ite_true, ite_false, Bool.false_eq_true, Bool.not_true, Bool.not_false, Nat.reduceAdd, Nat.reduceSub, Nat.zero_add, atI_0, atI_1, atI_2, atI_3, ixN_0, ixN_1, ixN_2, cutV_1, cutV_2, Option.some.injEq, HO.lst.injEq, HO.dK.injEq, scal, *])
section
variable {P : Program} {w : World} {K : PySem.W.Frag} {mg : Str → Option Value} {base : Heap} {f c tb : Addr} {uN : Value} {fd : FuncData} {NS : List Str}
theorem Ext.overC {S : List Addr} {H H1 H2 : Hp} {D : Addr} (a : Ext [] H H1) (n : H D = none) (b : Ext (D :: S) H1 H2) : Ext S H H2 := by
  refine ⟨fun c o e h m => ?_, fun c o e => b.tup c o (a.tup c o e), fun c o u e => b.frz c o u (a.frz c o u e), fun P h => b.tab P (a.tab P h), fun P ps h k => b.tbl P ps (a.tbl P ps h (fun z => nomatch z)) fun z => ?_⟩
  · refine b.keep c o (a.keep c o e (fun z => nomatch z) m) (fun z => ?_) m
    rcases List.mem_cons.mp z with z | z
    · rw [z, n] at e; cases e
    · exact h z
  · rcases List.mem_cons.mp z with z | z
    · rw [z, n] at h; cases h
    · exact k z
abbrev s_match_in : Stmt := top 15
abbrev n_match_in : List Str := ["pattern", "formula", "table", "one", "other"]
theorem sc_match_in : FnScope n_match_in ["pattern", "formula", "table"] (defScope s_match_in) := ⟨rfl, rfl, rfl, by decide +kernel, rfl, by decide +kernel, by decide +kernel⟩
def spMtIn (K : PySem.W.Frag) (NS : List Str) (tb : Addr) (k : Nat) : Sp := fun vs H Q _ => ∃ (v u : V) (s t : Fm) (a : Addr) (kvs : List (Key × V)) (l : Tab), vs = [v, u, .ref a] ∧ Td K H v s.data ∧ Td K H u t.data ∧ 2 * s.dep ≤ k ∧ (∀ x ∈ s.names, x ∈ NS) ∧ (∀ x ∈ t.names, x ∈ NS) ∧ t.dep ≤ 40 ∧ H a = some (.dK kvs) ∧ TabK K H kvs l ∧ TbI NS l ∧ GxR.TabG H tb ∧
  ∀ (H' : Hp) (kvs' : List (Key × V)), Ext [a, tb] H H' → H' a = some (.dK kvs') → TabK K H' kvs' (mt l s t).1 → Q (.bl (mt l s t).2) H'
theorem ok_mtin (F : Dn K mg "match_in" s_match_in f fd c) (B : Bl mg) (hN : NsOk NS) (TB : GxR.TabB base mg c tb) : ∀ k, Cal P w K mg base k "match_in" (spMtIn K NS tb k) := by
  have h0 : ∀ k, k < 2 → ∀ vs H Q E, ¬ spMtIn K NS tb k vs H Q E := fun k hk vs H Q E ⟨v, u, s, t, _, _, _, _, _, _, h, _⟩ => by have := s.dep_pos; omega
  refine F.calRec2 (ps := ["pattern", "formula", "table"]) (fun _ _ _ _ _ _ us hl => match us, hl with | [_, _, _], _ => rfl) (h0 0 (by omega)) (h0 1 (by omega)) fun k G_match_in => ?_
  refine F.ok sc_match_in (fun vs H Q E h => ?_) (fun A outer s H vs Q E hrG h => ?_)
  · obtain ⟨_, _, _, _, _, _, _, rfl, _⟩ := h; rfl
  have hr := hrG.mono (Nat.le_succ k)
  obtain ⟨v, u, s1, t1, a, kvs, l, rfl, hs, ht, hd, hns, hnt, htd, ha, hl, hI, htb, q⟩ := h
  refine ⟨_, (pss_cons (ps_if (pt_cmpR op_eq (pe_ix (ix_tupK K) (pv 0) pe_int (fun _ _ => rfl)) pe_str (nomark _)) (pss_cons (ps_if (pt_cmp (pc_dinF (hu_of hr) (pe_ix (ix_tupK K) (pv 0) pe_int (fun _ _ => rfl)) (pv 2))) (pss_one (ps_ret (pe_cmpR (op_eqK K hr.units) (pe_dgetF (hu_of hr) (pv 2) (pe_ix (ix_tupK K) (pv 0) pe_int (fun _ _ => rfl)) (fun _ _ => rfl)) (pv 1) (nomark _)))) pss_nil)
    (pss_cons (ps_dputF (hu_of hr) (pv 2) (pe_ix (ix_tupK K) (pv 0) pe_int (fun _ _ => rfl)) (pv 1) rfl)
    (pss_one (ps_ret pe_bl)))) pss_nil)
    (pss_cons (ps_if (pt_cmpR op_ne (pe_ix (ix_tupK K) (pv 0) pe_int (fun _ _ => rfl)) (pe_ix (ix_tupK K) (pv 1) pe_int (fun _ _ => rfl)) (nomark _)) (pss_one (ps_ret pe_bl)) pss_nil)
    (pss_one (ps_ret (pe_allF (own := [("one", 3), ("other", 4)]) hr rfl sc_match_in.nd (by rfl) B.b_all TB rfl (pi_zipK K (by rfl) B.b_zip (pa_cons (pe_slice (sl_tupK K) (pv 0) (po_some pe_int) po_none) (pa_cons (pe_slice (sl_tupK K) (pv 1) (po_some pe_int) po_none) pa_nil))) (blkOk_by (own := [("one", 3), ("other", 4)]) (N := n_match_in) (sc := defScope s_match_in) (by decide +kernel)) (by decide +kernel) (by rfl) (by rfl) (fun _ _ _ _ _ => (pg_tupZ K (n := 2) (by rfl) (pgs_cons (pg_name (i := 3) sc_match_in.nd rfl (by first | exact Or.inl rfl | exact Or.inr rfl)) (pgs_cons (pg_name (i := 4) sc_match_in.nd rfl (by first | exact Or.inl rfl | exact Or.inr rfl)) pgs_nil)))) (fun _ _ _ _ _ => pts_nil) (fun _ _ _ _ _ => (C8.pe_c G_match_in (Room.gen hrG) (by omega) (by rfl) (pa_cons (pv 3) (pa_cons (pv 4) (pa_cons (pv 2) pa_nil)))))))))), ?_⟩
  walk_at "rd"
  rcases fd_look hs with ⟨x, p, rfl, rfl, hp⟩ | ⟨hv, p, wp, rfl, hp, hne, hwp⟩
  · refine ⟨p, rfl, _, hp, _, atI_0, rfl, ?_⟩
    rw [if_pos rfl]
    refine ⟨p, rfl, _, hp, _, atI_1, x, rfl, kvs, dctF_dK ha, ?_⟩
    have hs1 : (64 : Nat) < sizeLine := by decide
    rcases hl.val x with ⟨h1, h2⟩ | ⟨w0, v', h1, h2, h3⟩
    · rw [h2, if_neg (by decide)]
      refine ⟨p, rfl, _, hp, _, atI_1, x, rfl, kvs, ha, by have := hl.length; have := hI.len; have := hN.few; omega, fun H4 e4 h4 => ?_⟩
      replace e4 : Ext [a, tb] H H4 := e4.mono (by simp)
      have em : mt l (.name x) t1 = (putL l x t1, true) := by unfold mt; rw [h1]
      rw [em] at q
      exact q H4 _ e4 h4 ((hl.put ht).ext e4)
    · rw [h2, if_pos (by rfl)]
      have em : mt l (.name x) t1 = (l, decide (w0 = t1)) := by unfold mt; rw [h1]
      rw [em] at q
      obtain ⟨hw1, hw2⟩ := hI.vals x w0 (lk_mem h1)
      refine ⟨p, rfl, _, hp, _, atI_1, x, rfl, kvs, dctF_dK ha, v', h2, _, _, h3, ht, Fm.shaped hN hw1 (by omega), Fm.shaped hN hnt (by omega), ?_⟩
      rw [if_neg Bool.false_ne_true, Fm.eqv_data]
      exact q H kvs (Ext.refl _ _) ha hl
  · refine ⟨p, rfl, _, hp, _, atI_0, rfl, ?_⟩
    rw [if_neg hne]
    obtain ⟨pu, wu0, rfl, hu⟩ := fd_hd ht
    refine ⟨p, rfl, _, hp, _, atI_0, pu, rfl, _, hu, _, atI_0, rfl, ?_⟩
    by_cases hh : s1.hd = t1.hd
    · rw [if_neg (by simp [hh])]
      have htv : t1.isN = false := by
        cases t1 with
        | name x => exact absurd hh (Fm.hd_v hv)
        | _ => rfl
      obtain ⟨pu', wu, e, hu', hwu⟩ := fd_f htv ht
      cases e
      refine ⟨p, rfl, _, hp, fun p1 H1 e1 h1 => ⟨pu, rfl, _, tupF_ext e1 hu', fun p2 H2 e2 h2 => ?_⟩⟩
      rw [cutV_1] at h1 h2
      refine ⟨p1, p2, ⟨rfl, rfl⟩, wp, tupF_ext e2 h1, wu, h2, ?_⟩
      have e12 := e1.trans e2
      have h1' := tupF_ext e2 h1
      have lz : (s1.args.zip t1.args).length = min wp.length wu.length := by
        have l1 := hwp.length
        have l2 := hwu.length
        rw [List.length_map] at l1 l2
        rw [List.length_zip, l1, l2]
      rw [mt_args hv hh] at q
      have hna : a ∉ [tb] := fun z => by
        obtain ⟨ps, hps, _⟩ := htb
        rw [show a = tb by simpa using z, hps] at ha
        cases ha
      refine gen_go (walk_zipT (xs := wp) (ys := wu) rfl) (e12.tab _ htb) (fun j _ H' => (mtS l ((s1.args.zip t1.args).take j)).2 = true ∧ ∃ kvs', Ext [a, tb] H H' ∧ Ext [a, tb] H2 H' ∧ H' a = some (.dK kvs') ∧ TabK K H' kvs' (mtS l ((s1.args.zip t1.args).take j)).1) (fun H3 e3 => ⟨rfl, kvs, e12.any.trans (e3.mono (by simp)), e3.mono (by simp), e3.dK (e12.dK0 ha) hna, (hl.ext e12).ext e3⟩)
        (fun j _ H' hj ⟨_, _, _, e, _⟩ => ?_) (fun j z _ H' H'' hj ⟨ok, kvs', e, e2', hk, hl'⟩ y => ?_) (fun _ H' h => ?_)
      · exact ⟨tupF_sq (tupF_ext e h1'), tupF_sq (tupF_ext e h2)⟩
      · refine pair_tgt y fun x1 x2 hx1 hx2 eT => ?_
        obtain ⟨u1, hu1, hm1, ht1⟩ := fd_arg hwp hx1
        obtain ⟨u2, hu2, hm2, ht2⟩ := fd_arg hwu hx2
        have hz : (s1.args.zip t1.args)[j]? = some (u1, u2) := List.getElem?_zip_eq_some.mpr ⟨hu1, hu2⟩
        have hzz : ∀ z ∈ (s1.args.zip t1.args).take j, (∀ x ∈ z.1.names, x ∈ NS) ∧ (∀ x ∈ z.2.names, x ∈ NS) ∧ z.2.dep ≤ 40 := fun z hz => by
          obtain ⟨i1, i2⟩ := List.of_mem_zip (List.mem_of_mem_take hz)
          have := Fm.dep_arg i2
          exact ⟨fun x hx => hns x (Fm.names_arg i1 hx), fun x hx => hnt x (Fm.names_arg i2 hx), by omega⟩
        have d1 := Fm.dep_arg hm1
        have d2 := Fm.dep_arg hm2
        have eH := e.trans eT.any
        walk_at "rd"
        refine ⟨x1, [x2], ⟨rfl, rfl⟩, x2, [], rfl, rfl, x1, x2, u1, u2, a, kvs', _, rfl, ht1.ext eH, ht2.ext eH, by omega, fun x hx => hns x (Fm.names_arg hm1 hx), fun x hx => hnt x (Fm.names_arg hm2 hx), by omega, eT.dK0 hk, hl'.ext eT, mtS_ti hI hzz, eH.tab _ htb, fun H4 kvs4 e4 h4 hl4 => ⟨_, rfl, ?_⟩⟩
        rw [← mtS_next ok hz] at hl4 ⊢
        cases hb : (mtS l ((s1.args.zip t1.args).take (j + 1))).2 with
        | true =>
          rw [if_pos rfl]
          exact ⟨rfl, eH.trans e4, (e2'.trans eT.any).trans e4, kvs4, h4, hl4⟩
        | false =>
          rw [if_neg (by decide)]
          have st := mtS_stuck (zs := s1.args.zip t1.args) hb
          rw [st, hb] at q
          exact q H4 kvs4 (eH.trans e4) h4 hl4
      · obtain ⟨ok, kvs', e, e2', hk, hl'⟩ := h
        rw [← lz, List.take_length] at ok hl'
        rw [ok] at q
        exact q H' kvs' e hk hl'
    · rw [if_pos (by simp [hh])]
      have em := mt_hd (l := l) hv hh
      rw [em] at q
      exact q H kvs (Ext.refl _ _) ha hl
abbrev s_matched : Stmt := top 14
abbrev n_matched : List Str := ["pattern", "formula", "table"]
theorem sc_matched : FnScope n_matched ["pattern", "formula"] (defScope s_matched) := ⟨rfl, rfl, rfl, by decide +kernel, rfl, by decide +kernel, by decide +kernel⟩
def spMt (K : PySem.W.Frag) (NS : List Str) (tb : Addr) : Sp := fun vs H Q _ => ∃ (v u : V) (s t : Fm), vs = [v, u] ∧ Td K H v s.data ∧ Td K H u t.data ∧ s.dep ≤ 30 ∧ (∀ x ∈ s.names, x ∈ NS) ∧ (∀ x ∈ t.names, x ∈ NS) ∧ t.dep ≤ 40 ∧ GxR.TabG H tb ∧
  ((mt [] s t).2 = false → ∀ H', Ext [tb] H H' → Q .non H') ∧ ((mt [] s t).2 = true → ∀ (a : Addr) (H' : Hp), Ext [tb] H H' → TabA K H' a (mt [] s t).1 → Q (.ref a) H')
theorem ok_matched (F : Dn K mg "matched" s_matched f fd c) (B : Bl mg) (G_match_in : Cal P w K mg base 60 "match_in" (spMtIn K NS tb 60)) : Cal P w K mg base 61 "matched" (spMt K NS tb) := by
  refine F.cal (ps := ["pattern", "formula"]) (fun _ _ _ _ _ _ us hl => match us, hl with | [_, _], _ => rfl) sc_matched (fun vs H Q E h => ?_) (fun A outer s H vs Q E hr h => ?_)
  · obtain ⟨_, _, _, _, rfl, _⟩ := h; rfl
  obtain ⟨v, u, s1, t1, rfl, hs, ht, hd, hns, hnt, htd, htb, q0, q1⟩ := h
  refine ⟨_, (pss_cons (ps_set (i := 2) sc_matched.nd rfl (by first | exact Or.inl rfl | exact Or.inr rfl) pe_dnewF)
    (pss_cons (ps_if (pt_val (C8.pe_c G_match_in hr (by omega) (by rfl) (pa_cons (pv 0) (pa_cons (pv 1) (pa_cons (pv 2) pa_nil))))) (pss_one (ps_ret (pv 2))) pss_nil)
    (pss_one (ps_ret pe_non)))), ?_⟩
  walk_at "rd"
  intro p H1 n1 e1 h1
  refine ⟨v, u, s1, t1, p, [], [], rfl, hs.ext e1, ht.ext e1, by omega, hns, hnt, htd, h1, .nil, .nil, e1.tab _ htb, fun H2 kvs2 e2 h2 hl2 => ?_⟩
  refine ⟨_, rfl, ?_⟩
  have e12 : Ext [tb] H H2 := e1.overC n1 e2
  cases hb : (mt [] s1 t1).2 with
  | true => rw [if_pos rfl]; exact q1 hb p H2 e12 ⟨kvs2, dctF_dK h2, hl2⟩
  | false => rw [if_neg (by decide)]; exact q0 hb H2 e12
end
end Sq
set_option Elab.async false
set_option linter.all false
set_option maxRecDepth 100000
set_option maxHeartbeats 4000000
namespace Sq
open PySem PySem.Spec PyProof.Rows L2 RZ
local macro_rules | `(tactic| walk_at "rd") => `(tactic| simp only [tCont, tNever, iEnumL, iRng1, rPop0, rTIndex, rKdIx, rKdNin, tDG2, rU, tTIdx, iZipS, rDictC, rDictP, tAugS, ipI, rGetN, tDisp, tPairs, rIndexS, wipe, tNoPart, tDG2, tDGF, tDInF, tDNInF, sDPutF, tDNewF, rSortD, rInS, rInT, rEqLF, tDcF, tDc2F, tLcF, tForF, tAllF, tAnyF, tSumF, iStr, iEnumF, iZipF, iKeysF, iItems, tLZip, tYes, tSeq, tIfS, tNext, tRet, tRetN, tDrop, tTest, tB, tNot, tAnd, tOr, tChain, tOp, tUn, tCB, tCons, tNil, tC, tVar, tIf, tAndV, tOrV, tNotV, tAsg, tPar, tPar3, gName, gSub, gTupF, gCons, gNil, tTupF, tLstF, rI0, rI, rIxF, rIxG, rIxS, rSetF, rSlF, rCatF, rCatL, rTupL, rListT, rListL, rLenT, rLenL, iTupF, iLstF, rAppF, rExtF, rPopF, tBM, tBM0, tSl, tPart, rEq, rNe, tCall, L2.start,
  List.map_cons, List.map_nil, List.length_cons, List.length_nil, Nat.sub_self, List.replicate, List.append_nil, List.cons_append, List.nil_append, List.getElem?_cons_zero, List.getElem?_cons_succ, List.set_cons_zero, List.set_cons_succ,
  exSl, exI, exI2, exB, exS, exR, ex1, ex1', V.int.injEq, V.bl.injEq, V.ref.injEq, V.str.injEq, Option.some.injEq, List.cons.injEq, and_true, true_and, reduceCtorEq, false_and, and_false, or_false, false_or, exists_false, exists_and_left, exists_eq_left', decide_eq_true_eq, decide_true, decide_false, if_false, if_true, ite_true, ite_false, Bool.false_eq_true, Bool.not_true, Bool.not_false, Nat.reduceAdd, Nat.reduceSub, Nat.zero_add, atI_0, atI_1, atI_2, atI_3, ixN_0, ixN_1, ixN_2, cutV_1, cutV_2, Option.some.injEq, HO.lst.injEq, HO.dK.injEq, scal])
local macro_rules | `(tactic| walk_at "rdc") => `(tactic| simp (config := { contextual := true }) only [tCont, tNever, iEnumL, iRng1, rPop0, rTIndex, rKdIx, rKdNin, tDG2, rU, tTIdx, iZipS, rDictC, rDictP, tAugS, ipI, rGetN, tDisp, tPairs, rIndexS, wipe, tNoPart, tDG2, tDGF, tDInF, tDNInF, sDPutF, tDNewF, rSortD, rInS, rInT, rEqLF, tDcF, tDc2F, tLcF, tForF, tAllF, tAnyF, tSumF, iStr, iEnumF, iZipF, iKeysF, iItems, tLZip, tYes, tSeq, tIfS, tNext, tRet, tRetN, tDrop, tTest, tB, tNot, tAnd, tOr, tChain, tOp, tUn, tCB, tCons, tNil, tC, tVar, tIf, tAndV, tOrV, tNotV, tAsg, tPar, tPar3, gName, gSub, gTupF, gCons, gNil, tTupF, tLstF, rI0, rI, rIxF, rIxG, rIxS, rSetF, rSlF, rCatF, rCatL, rTupL, rListT, rListL, rLenT, rLenL, iTupF, iLstF, rAppF, rExtF, rPopF, tBM, tBM0, tSl, tPart, rEq, rNe, tCall, L2.start,
  List.map_cons, List.map_nil, List.length_cons, List.length_nil, Nat.sub_self, List.replicate, List.append_nil, List.cons_append, List.nil_append, List.getElem?_cons_zero, List.getElem?_cons_succ, List.set_cons_zero, List.set_cons_succ,
  exSl, exI, exI2, exB, exS, exR, ex1, ex1', V.int.injEq, V.bl.injEq, V.ref.injEq, V.str.injEq, Option.some.injEq, List.cons.injEq, and_true, true_and, reduceCtorEq, false_and, and_false, or_false, false_or, exists_false, exists_and_left, exists_eq_left', decide_eq_true_eq, decide_true, decide_false, if_false, if_true, ite_true, ite_false, Bool.false_eq_true, Bool.not_true, Bool.not_false, Nat.reduceAdd, Nat.reduceSub, Nat.zero_add, atI_0, atI_1, atI_2, atI_3, ixN_0, ixN_1, ixN_2, cutV_1, cutV_2, Option.some.injEq, HO.lst.injEq, HO.dK.injEq, scal, *])
section
variable {P : Program} {w : World} {K : PySem.W.Frag} {mg : Str → Option Value} {base : Heap} {f c aT : Addr} {fd : FuncData} {NS : List Str}
theorem ok_gs (F : Dn K mg "guess" s_guess f fd c) (B : Bl mg) (X_BadType : Xc K mg "BadType" aT) (G_new : CalX P w K mg base 2 "new_type" (spNew K aT)) (G_with : Cal P w K mg base 1 "with_name" (spWith K)) : ∀ k, CalX P w K mg base k "guess" (spGs K aT k)
  | 0 => F.vacX (ps := ["bare", "context", "count", "pairs"]) (fun _ _ _ _ _ _ us hl => match us, hl with | [_, _, _, _], _ => rfl) fun vs H Q E ⟨_, _, _, _, t, _, _, _, _, _, _, h, _⟩ => by have := t.dep_pos; omega
  | 1 => F.vacX (ps := ["bare", "context", "count", "pairs"]) (fun _ _ _ _ _ _ us hl => match us, hl with | [_, _, _, _], _ => rfl) fun vs H Q E ⟨_, _, _, _, t, _, _, _, _, _, _, h, _⟩ => by have := t.dep_pos; omega
  | 2 => F.vacX (ps := ["bare", "context", "count", "pairs"]) (fun _ _ _ _ _ _ us hl => match us, hl with | [_, _, _, _], _ => rfl) fun vs H Q E ⟨_, _, _, _, t, _, _, _, _, _, _, h, _⟩ => by have := t.dep_pos; omega
  | k + 3 => ⟨f, fd, ["bare", "context", "count", "pairs"], step_gs F B X_BadType G_new G_with (k + 2) (by omega) (ok_gs F B X_BadType G_new G_with (k + 2)), F.mgf, F.kp, F.binds (fun _ _ _ _ _ _ us hl => match us, hl with | [_, _, _, _], _ => rfl)⟩
theorem Ext.back0 {H H1 : Hp} {p : Addr} (e : Ext [] H H1) (h : H1 p = none) : H p = none := by
  cases q : H p with
  | none => rfl
  | some o =>
    exfalso
    cases o with
    | tbl ps => rw [e.tbl p ps q (fun z => nomatch z)] at h; cases h
    | _ => rw [e.keep p _ q (fun z => nomatch z) (fun ps z => by cases z)] at h; cases h
def spMark0 : Sp := fun vs H Q _ => ∃ n : Nat, vs = [.int (n : Nat)] ∧ n < 26 ∧ Q (.str (ltr n)) H
theorem mark0 (G : CalX P w K mg base 1 "mark" (spMark aT)) : Cal P w K mg base 1 "mark" spMark0 := G.cal fun vs H Q E ⟨n, e, h, q⟩ => ⟨n, e, fun _ => q, fun z => by omega⟩
abbrev s_principal : Stmt := top 34
abbrev n_principal : List Str := ["bare", "count", "pairs", "what", "free", "k", "table"]
theorem sc_principal : FnScope n_principal ["bare"] (defScope s_principal) := ⟨rfl, rfl, rfl, by decide +kernel, rfl, by decide +kernel, by decide +kernel⟩
def spPr (K : PySem.W.Frag) : Sp := fun vs H Q _ => ∃ (v : V) (b : Bt), vs = [v] ∧ Td K H v b.data ∧ b.dep + 2 ≤ 60 ∧
  (gs b [] 0 = none → ∀ H', Ext [] H H' → Q .non H') ∧ ∀ g m ps, gs b [] 0 = some (g, m, ps) → g.dep ≤ 60 ∧ ∃ N r, runU (LET.take m) N [] ps.reverse = some r ∧ SafeU LET (LET.take m) N [] ps.reverse ∧ (r = none → ∀ H', Ext [] H H' → Q .non H') ∧ ∀ l, r = some l → UW LET (LET.take m) l [] → ∀ v' H', Ext [] H H' → Td K H' v' (g.fill (lk l)).data → Q v' H'
theorem ok_prin (F : Dn K mg "principal" s_principal f fd c) (B : Bl mg) (XT : Xc K mg "BadType" aT) (exT : PySem.W.exmOne K (.ref aT) (.ref aT) = some true) (G_mark : Cal P w K mg base 1 "mark" spMark0) (G_guess : CalX P w K mg base 60 "guess" (spGs K aT 60)) (G_unified : Cal P w K mg base 65 "unified" (spUniG K LET)) (G_laid : Cal P w K mg base 64 "laid" (spLay K 64)) : Cal P w K mg base 66 "principal" (spPr K) := by
  refine F.cal (ps := ["bare"]) (fun _ _ _ _ _ _ us hl => match us, hl with | [_], _ => rfl) sc_principal (fun vs H Q E h => ?_) (fun A outer s H vs Q E hr h => ?_)
  · obtain ⟨_, _, rfl, _⟩ := h; rfl
  obtain ⟨v, b, rfl, hb, hd, q0, q1⟩ := h
  refine ⟨_, (pss_cons (ps_par (i := 1) (j := 2) (by rfl) sc_principal.nd rfl rfl (by decide) rfl rfl (pa_cons (pe_lstF (pa_cons pe_int pa_nil)) (pa_cons (pe_lstF pa_nil) pa_nil)) (by rfl))
    (pss_cons (ps_try_only (X := CxD P w K mg base n_principal "principal" s_principal f c A outer s H E) (tb := fun W D σ H => ∃ Ech : XK, (∀ cls d σ' H', Ech cls d H' → W cls d σ' H') ∧ (tAsg (tCall (spGs K aT 60) [] Ech (tCons (tVar 0) (tCons tDNewF (tCons (tVar 1) (tCons (tVar 2) tNil))))) (gName 3)) D σ H) (ts := fun _ _ _ => tRet (tC .non)) (c := .ref aT) rfl rfl ⟨rfl, by decide, .inl XT.g⟩ LamX.takes0 (fun W pn xe tk _ => ⟨fun pins s' σ H' D I ⟨Ech, hW, h⟩ => (pss_one (ps_set (i := 3) sc_principal.nd rfl (by first | exact Or.inl rfl | exact Or.inr rfl) (pe_cX G_guess hr (by omega) tk hW (by rfl) (pa_cons (pv 0) (pa_cons pe_dnewF (pa_cons (pv 1) (pa_cons (pv 2) pa_nil))))))).run pins s' σ H' D I h⟩) (fun a oe cls d pn _ _ => pss_one (ps_ret pe_non)))
    (pss_cons (ps_set (i := 4) sc_principal.nd rfl (by first | exact Or.inl rfl | exact Or.inr rfl) (pe_callTy (call_tupleK K) (by rfl) B.b_tuple (by decide +kernel) (pa_cons (pe_lcF (own := [("k", 5)]) rfl sc_principal.nd (pi_range1 (by rfl) B.b_range (pa_cons (pe_ix ix_lstF (pv 1) pe_int (fun _ _ => rfl)) pa_nil)) (blkOk_by (own := [("k", 5)]) (N := n_principal) (sc := defScope s_principal) (by decide +kernel)) (fun _ _ _ _ _ => (pg_name (i := 5) sc_principal.nd rfl (by first | exact Or.inl rfl | exact Or.inr rfl))) (fun _ _ _ _ _ => pts_nil) (fun _ _ _ _ _ => (C8.pe_c G_mark hr (by omega) (by rfl) (pa_cons (pv 5) pa_nil)))) pa_nil)))
    (pss_cons (ps_set (i := 6) sc_principal.nd rfl (by first | exact Or.inl rfl | exact Or.inr rfl) (C8.pe_c G_unified hr (by omega) (by rfl) (pa_cons (pv 2) (pa_cons (pv 4) pa_nil))))
    (pss_one (ps_ret (pe_ifExp (pt_cmpR op_isN (pv 6) pe_non (nomark _)) pe_non (C8.pe_c G_laid hr (by omega) (by rfl) (pa_cons (pv 3) (pa_cons (pv 6) pa_nil)))))))))), ?_⟩
  walk_at "rd"
  refine ⟨by decide, fun cn H1 n1 e1 h1 => ⟨by decide, fun pr H2 n2 e2 h2 => ⟨_, _, ⟨rfl, rfl⟩, ?_⟩⟩⟩
  refine ⟨fun cls _ H' => cls = .ref aT ∧ Q .non H', fun cls d σ' H' ⟨e, z⟩ => ?_, ?_⟩
  · subst e
    exact ⟨true, exT, fun _ a _ => z, fun y => absurd y (by decide)⟩
  intro b3 H3 n3 e3 h3
  have hne : cn ≠ pr := fun e => by rw [← e, h1] at n2; cases n2
  have npr := e1.back0 n2
  have e03 := e1.trans (e2.trans e3)
  have fresh : ∀ {H4 : Hp}, Ext [cn, pr] H3 H4 → Ext [] H H4 := fun e => (Ext.refl [] H).overC npr (e03.overC n1 e)
  refine ⟨v, b3, cn, pr, b, [], 0, [], [], rfl, ⟨hb.ext e03, ⟨[], h3, .nil⟩, by simp only [List.length_nil]; omega, (e2.trans e3).lst0 h1, e3.lst0 h2, .nil, hne, by decide, Nat.le_refl _⟩, hd, fun g m ps hg v' H4 ws e4 a4 d4 => ?_, fun hg H4 e4 => ⟨rfl, q0 hg H4 (fresh e4)⟩⟩
  have hz : (100000 : Nat) ≤ sizeLine := by decide
  obtain ⟨hgd, N, r, hrun, hsafe, qn, qs⟩ := q1 g m ps hg
  have m26 := a4.n26
  refine ⟨cn, rfl, _, a4.hc, _, atI_0, m, rfl, by omega, by omega, ?_⟩
  rw [show ((m : Nat) : Int).toNat = m by omega]
  refine lc_go walk_range (fun D i ys H' => Ext [] H4 H' ∧ ys = (LET.take i).map V.str) (fun D hD => ⟨Ext.new hD, rfl⟩) (fun _ _ _ _ _ => trivial) (fun D i x ys H5 H6 hD hi ⟨e5, hys⟩ hl hDy y => ?_) fun D ys H5 hD ⟨e5, hys⟩ hDy hl => ?_
  · obtain ⟨rfl, rfl⟩ := y
    walk_at "rd"
    refine ⟨i, by rw [Int.zero_add], by omega, ys, hDy, by omega, ys ++ [V.str (ltr i)], by rw [List.length_append]; simp; omega, upd_same, Ext.over e5 hD (Ext.setL List.mem_cons_self hDy), ?_⟩
    rw [take_succ (by omega), List.map_append, hys]; rfl
  subst hys
  refine ⟨D, rfl, _, hDy, fun pf H6 e6 h6 => ?_⟩
  have e46 := e5.trans e6
  have hT := a4.hy.ext e46
  rw [List.nil_append] at hT
  have hpre : Ext [] H H6 := (fresh e4).trans e46
  have ltk : (LET.take m).length ≤ 90 := by rw [List.length_take, let_len]; omega
  refine ⟨pr, .ref pf, ws, ps, LET.take m, N, r, rfl, e46.lst0 a4.hp, hT, .inl ⟨pf, rfl, h6⟩, ltk, fun x hx => List.mem_of_mem_take hx, hrun, hsafe, fun hr0 H7 e7 => ?_, fun l hr0 hW a kvs H7 e7 h7 t7 => ?_⟩
  · dsimp only
    rw [if_pos rfl]
    exact qn hr0 H7 (hpre.trans e7)
  · dsimp only
    rw [if_neg (by simp)]
    exact ⟨v', g, a, l, rfl, (d4.ext e46).ext e7, by omega, ⟨kvs, dctF_dK h7, t7⟩, fun v8 H8 e8 d8 => qs l hr0 hW v8 H8 ((hpre.trans e7).trans e8) d8⟩
end
end Sq
set_option Elab.async false
set_option linter.all false
set_option pp.deepTerms false
set_option pp.deepTerms.threshold 14
set_option pp.maxSteps 200000
set_option format.width 2000
set_option format.indent 1
set_option maxRecDepth 100000
set_option maxHeartbeats 4000000
namespace Sq
open PySem PySem.Spec PyProof.Rows L2 RZ
/-- a, b, c = a list -/
def gUnlF (K : PySem.W.Frag) (n : Nat) (t : TGs) : TG := fun v σ H Q => ∃ a xs, v = .ref a ∧ H a = some (.lst xs) ∧ xs.length = n ∧ t xs σ H Q
theorem pg_unlK (K : PySem.W.Frag) {X : Cx} {es : List Expr} {k : Nat} {pos : Pos} {t : TGs} {n : Nat} (hc : X.calm = true) (h : PGs X es t)
    (hn : (assignEach es X.env).length = n := by rfl) (hst : (assignEach es X.env).findIdx? (·.1) = none := by rfl) (hK : X.K = K := by rfl) : PG X (.Tuple es k pos) (gUnlF K n t) := by
  subst hK
  exact ⟨fun pins s σ H v u Q I r ⟨a, xs, e1, hq, hl, hw⟩ => (pg_unl hc h hn hst).run pins s σ H v u Q I r ⟨a, xs, e1, SqL.of hq, hl, hw⟩⟩
local macro_rules | `(tactic| walk_at "rd") => `(tactic| simp only [tCont, tNever, iEnumL, tDG2, tTIdx, rU, tAugS, ipI, rGetN, iRng1, rIsTup, rIsStr, rEqF, rIsN, rNotN, tWhile, rEqQ, gUnlF, gSub, tDisp, tPairs, rIndexS, wipe, tNoPart, tDG2, tDGF, tDInF, tDNInF, sDPutF, tDNewF, rSortD, rInS, rInT, rEqLF, tDcF, tDc2F, tLcF, tForF, tAllF, tAnyF, tSumF, iStr, iEnumF, iZipF, iKeysF, iItems, tLZip, tYes, tSeq, tIfS, tNext, tRet, tRetN, tDrop, tTest, tB, tNot, tAnd, tOr, tChain, tOp, tUn, tCB, tCons, tNil, tC, tVar, tIf, tAndV, tOrV, tNotV, tAsg, tPar, tPar3, gName, gSub, gTupF, gCons, gNil, tTupF, tLstF, rI0, rI, rIxF, rIxG, rIxS, rSetF, rSlF, rCatF, rCatL, rTupL, rListT, rListL, rLenT, rLenL, iTupF, iLstF, rAppF, rExtF, rPopF, tBM, tBM0, tSl, tPart, rEq, rNe, tCall, L2.start,
  List.map_cons, List.map_nil, List.length_cons, List.length_nil, Nat.sub_self, List.replicate, List.append_nil, List.cons_append, List.nil_append, List.getElem?_cons_zero, List.getElem?_cons_succ, List.set_cons_zero, List.set_cons_succ,
  exSl, exI, exI2, exB, exS, exR, ex1, ex1', V.int.injEq, V.bl.injEq, V.ref.injEq, V.str.injEq, Option.some.injEq, List.cons.injEq, and_true, true_and, reduceCtorEq, false_and, and_false, or_false, false_or, exists_false, exists_and_left, exists_eq_left', decide_eq_true_eq, decide_true, decide_false, if_false, if_true, ite_true, ite_false, Bool.false_eq_true, Bool.not_true, Bool.not_false, Nat.reduceAdd, Nat.reduceSub, Nat.zero_add, atI_0, atI_1, atI_2, atI_3, ixN_0, ixN_1, ixN_2, cutV_1, cutV_2, Option.some.injEq, HO.lst.injEq, HO.dK.injEq, scal])
local macro_rules | `(tactic| walk_at "rdc") => `(tactic| simp (config := { contextual := true }) only [tCont, tNever, iEnumL, tDG2, tTIdx, rU, tAugS, ipI, rGetN, iRng1, rIsTup, rIsStr, rEqF, rIsN, rNotN, tWhile, rEqQ, gUnlF, gSub, tDisp, tPairs, rIndexS, wipe, tNoPart, tDG2, tDGF, tDInF, tDNInF, sDPutF, tDNewF, rSortD, rInS, rInT, rEqLF, tDcF, tDc2F, tLcF, tForF, tAllF, tAnyF, tSumF, iStr, iEnumF, iZipF, iKeysF, iItems, tLZip, tYes, tSeq, tIfS, tNext, tRet, tRetN, tDrop, tTest, tB, tNot, tAnd, tOr, tChain, tOp, tUn, tCB, tCons, tNil, tC, tVar, tIf, tAndV, tOrV, tNotV, tAsg, tPar, tPar3, gName, gSub, gTupF, gCons, gNil, tTupF, tLstF, rI0, rI, rIxF, rIxG, rIxS, rSetF, rSlF, rCatF, rCatL, rTupL, rListT, rListL, rLenT, rLenL, iTupF, iLstF, rAppF, rExtF, rPopF, tBM, tBM0, tSl, tPart, rEq, rNe, tCall, L2.start,
  List.map_cons, List.map_nil, List.length_cons, List.length_nil, Nat.sub_self, List.replicate, List.append_nil, List.cons_append, List.nil_append, List.getElem?_cons_zero, List.getElem?_cons_succ, List.set_cons_zero, List.set_cons_succ,
  exSl, exI, exI2, exB, exS, exR, ex1, ex1', V.int.injEq, V.bl.injEq, V.ref.injEq, V.str.injEq, Option.some.injEq, List.cons.injEq, and_true, true_and, reduceCtorEq, false_and, and_false, or_false, false_or, exists_false, exists_and_left, exists_eq_left', decide_eq_true_eq, decide_true, decide_false, if_false, if_true, ite_true, ite_false, Bool.false_eq_true, Bool.not_true, Bool.not_false, Nat.reduceAdd, Nat.reduceSub, Nat.zero_add, atI_0, atI_1, atI_2, atI_3, ixN_0, ixN_1, ixN_2, cutV_1, cutV_2, Option.some.injEq, HO.lst.injEq, HO.dK.injEq, scal, *])
section
variable {P : Program} {w : World} {K : PySem.W.Frag} {mg : Str → Option Value} {base : Heap} {f c aLt aJ aB aL : Addr} {uN : Value} {fd : FuncData}
abbrev s_type_of_letter : Stmt := top 27
abbrev n_type_of_letter : List Str := ["letter", "count", "a", "b", "c", "k"]
theorem sc_type_of_letter : FnScope n_type_of_letter ["letter", "count"] (defScope s_type_of_letter) := ⟨rfl, rfl, rfl, by decide +kernel, rfl, by decide +kernel, by decide +kernel⟩
def spTyL (K : PySem.W.Frag) : Sp := fun vs H Q _ => ∃ (k : Lt) (n : Nat), vs = [.str k.nm, .int (n : Nat)] ∧ n ≤ 100000 ∧ ∀ p v H', Ext [] H H' → tupF K H' p = some [v, .int ((n + 3 : Nat) : Int)] → Td K H' v (tyL k n).data → Q (.ref p) H'
theorem ok_tyL (F : Dn K mg "type_of_letter" s_type_of_letter f fd c) (B : Bl mg) (GJ : Gc K mg aJ uN) : Cal P w K mg base 1 "type_of_letter" (spTyL K) := by
  refine F.cal (ps := ["letter", "count"]) (fun _ _ _ _ _ _ us hl => match us, hl with | [_, _], _ => rfl) sc_type_of_letter (fun vs H Q E h => ?_) (fun A outer s H vs Q E hr h => ?_)
  · obtain ⟨_, _, rfl, _⟩ := h; rfl
  obtain ⟨k, n, rfl, hn, q⟩ := h
  refine ⟨_, (pss_cons (ps_asg (pe_lcF (own := [("k", 5)]) rfl sc_type_of_letter.nd (pi_range1 (by rfl) B.b_range (pa_cons pe_int pa_nil)) (blkOk_by (own := [("k", 5)]) (N := n_type_of_letter) (sc := defScope s_type_of_letter) (by decide +kernel)) (fun _ _ _ _ _ => (pg_name (i := 5) sc_type_of_letter.nd rfl (by first | exact Or.inl rfl | exact Or.inr rfl))) (fun _ _ _ _ _ => pts_nil) (fun _ _ _ _ _ => (pe_tupK K (pa_cons pe_str (pa_cons (pe_ix ix_str (pe_glob (v := .str namesT) (by rfl) GJ.n GJ.nr) (pe_op op_mod (pe_op op_add (pv 1) (pv 5)) pe_int) (fun _ _ => rfl)) pa_nil))))) (pg_unlK K (n := 3) (by rfl) (pgs_cons (pg_name (i := 2) sc_type_of_letter.nd rfl (by first | exact Or.inl rfl | exact Or.inr rfl)) (pgs_cons (pg_name (i := 3) sc_type_of_letter.nd rfl (by first | exact Or.inl rfl | exact Or.inr rfl)) (pgs_cons (pg_name (i := 4) sc_type_of_letter.nd rfl (by first | exact Or.inl rfl | exact Or.inr rfl)) pgs_nil)))))
    (pss_cons (ps_if (pt_cmpR op_eq (pv 0) pe_str (nomark _)) (pss_one (ps_ret (pe_tupK K (pa_cons (pe_tupK K (pa_cons pe_str (pa_cons (pv 2) (pa_cons (pv 2) pa_nil)))) (pa_cons (pe_op op_add (pv 1) pe_int) pa_nil))))) pss_nil)
    (pss_cons (ps_if (pt_cmpR op_eq (pv 0) pe_str (nomark _)) (pss_one (ps_ret (pe_tupK K (pa_cons (pe_tupK K (pa_cons pe_str (pa_cons (pv 2) (pa_cons (pe_tupK K (pa_cons pe_str (pa_cons (pv 3) (pa_cons (pv 2) pa_nil)))) pa_nil)))) (pa_cons (pe_op op_add (pv 1) pe_int) pa_nil))))) pss_nil)
    (pss_cons (ps_if (pt_cmpR op_eq (pv 0) pe_str (nomark _)) (pss_one (ps_ret (pe_tupK K (pa_cons (pe_tupK K (pa_cons pe_str (pa_cons (pe_tupK K (pa_cons pe_str (pa_cons (pv 2) (pa_cons (pe_tupK K (pa_cons pe_str (pa_cons (pv 3) (pa_cons (pv 4) pa_nil)))) pa_nil)))) (pa_cons (pe_tupK K (pa_cons pe_str (pa_cons (pe_tupK K (pa_cons pe_str (pa_cons (pv 2) (pa_cons (pv 3) pa_nil)))) (pa_cons (pe_tupK K (pa_cons pe_str (pa_cons (pv 2) (pa_cons (pv 4) pa_nil)))) pa_nil)))) pa_nil)))) (pa_cons (pe_op op_add (pv 1) pe_int) pa_nil))))) pss_nil)
    (pss_cons (ps_if (pt_cmpR op_eq (pv 0) pe_str (nomark _)) (pss_one (ps_ret (pe_tupK K (pa_cons (pe_tupK K (pa_cons pe_str (pa_cons (pe_tupK K (pa_cons pe_str (pa_cons (pv 3) (pa_cons (pv 4) pa_nil)))) (pa_cons (pe_tupK K (pa_cons pe_str (pa_cons (pe_tupK K (pa_cons pe_str (pa_cons (pv 2) (pa_cons (pv 3) pa_nil)))) (pa_cons (pe_tupK K (pa_cons pe_str (pa_cons (pv 2) (pa_cons (pv 4) pa_nil)))) pa_nil)))) pa_nil)))) (pa_cons (pe_op op_add (pv 1) pe_int) pa_nil))))) pss_nil)
    (pss_one (ps_ret (pe_tupK K (pa_cons (pe_tupK K (pa_cons pe_str (pa_cons (pe_tupK K (pa_cons pe_str (pa_cons (pv 2) (pa_cons (pe_tupK K (pa_cons pe_str (pa_cons (pv 3) (pa_cons (pv 4) pa_nil)))) pa_nil)))) (pa_cons (pe_tupK K (pa_cons pe_str (pa_cons (pv 3) (pa_cons (pe_tupK K (pa_cons pe_str (pa_cons (pv 2) (pa_cons (pv 4) pa_nil)))) pa_nil)))) pa_nil)))) (pa_cons (pe_op op_add (pv 1) pe_int) pa_nil)))))))))), ?_⟩
  walk_at "rd"
  refine ⟨by decide, by decide, ?_⟩
  rw [show (3 : Int).toNat = 3 from rfl]
  refine lc_rngD (K := K) walk_range (fun _ => trivial) (fun j H x H' y => ⟨y.1, by rw [y.2]; exact congrArg V.int (Int.zero_add _)⟩) (fun j => (mk ((n + j) % 26)).data) (by decide) (fun _ => rfl) (fun j H3 N hj e3 hN => ?_) fun D zs H3 nD e3 hD hzs => ?_
  · walk_at "rd"
    obtain ⟨cc, hc1, hc2⟩ := atI_ltr (n := (n + j) % 26) (Nat.mod_lt _ (by decide))
    refine ⟨by decide, by decide, cc, ?_, by decide, fun p4 H4 e4 h4 => hN _ H4 e4 ?_⟩
    · rw [show ((n : Int) + (j : Int)) % 26 = (((n + j) % 26 : Nat) : Int) by push_cast; rfl]
      exact hc1
    · show Td K H4 (.ref p4) (.tuple [.str "name", .str (ltr ((n + j) % 26))])
      rw [hc2]
      exact .tup h4 (.cons (.str _) (.cons (.str _) .nil))
  · have h3 : (List.range 3).map (fun j => (mk ((n + j) % 26)).data) = [(mk (n % 26)).data, (mk ((n + 1) % 26)).data, (mk ((n + 2) % 26)).data] := rfl
    rw [h3] at hzs
    cases hzs with
    | @cons va _ _ _ da hzs => cases hzs with
    | @cons vb _ _ _ db hzs => cases hzs with
    | @cons vc _ _ _ dc hzs =>
    cases hzs
    refine ⟨D, rfl, _, hD, rfl, va, _, rfl, vb, _, rfl, vc, _, rfl, rfl, ?_⟩
    have bin : ∀ {J : Hp} {p : Addr} {x y : V} {s t : Fm}, tupF K J p = some [.str "to", x, y] → Td K J x s.data → Td K J y t.data → Td K J (.ref p) (Fm.bin .to s t).data := fun h a b => .tup h (.cons (.str _) (.cons a (.cons b .nil)))
    have fin : ∀ (p : Addr) v J, Ext [] H3 J → tupF K J p = some [v, .int ((n : Int) + 3)] → Td K J v (tyL k n).data → Q (.ref p) J := fun p v J e h t => q p v J (e3.trans e) (by rw [h]; push_cast; rfl) t
    cases k with
    | I =>
      rw [if_pos (by rfl)]
      exact ⟨by decide, fun p4 H4 e4 h4 => ⟨by decide, fun p5 H5 e5 h5 => fin p5 _ H5 (e4.trans e5) h5 (bin (tupF_ext e5 h4) (da.ext (e4.trans e5)) (da.ext (e4.trans e5)))⟩⟩
    | K =>
      rw [if_neg (by decide +kernel), if_pos (by rfl)]
      exact ⟨by decide, fun p4 H4 e4 h4 => ⟨by decide, fun p5 H5 e5 h5 => ⟨by decide, fun p6 H6 e6 h6 => fin p6 _ H6 (e4.trans (e5.trans e6)) h6 (bin (tupF_ext e6 h5) (da.ext (e4.trans (e5.trans e6))) (bin (tupF_ext (e5.trans e6) h4) (db.ext (e4.trans (e5.trans e6))) (da.ext (e4.trans (e5.trans e6)))))⟩⟩⟩
    | S =>
      rw [if_neg (by decide +kernel), if_neg (by decide +kernel), if_pos (by rfl)]
      refine ⟨by decide, fun p4 H4 e4 h4 => ⟨by decide, fun p5 H5 e5 h5 => ⟨by decide, fun p6 H6 e6 h6 => ⟨by decide, fun p7 H7 e7 h7 => ⟨by decide, fun p8 H8 e8 h8 => ⟨by decide, fun p9 H9 e9 h9 => ⟨by decide, fun pa Ha ea ha => ?_⟩⟩⟩⟩⟩⟩⟩
      have y9 := e9.trans ea
      have y8 := e8.trans y9
      have y7 := e7.trans y8
      have y6 := e6.trans y7
      have y5 := e5.trans y6
      have y4 := e4.trans y5
      exact fin pa _ Ha y4 ha (bin (tupF_ext ea h9) (bin (tupF_ext y6 h5) (da.ext y4) (bin (tupF_ext y5 h4) (db.ext y4) (dc.ext y4))) (bin (tupF_ext y9 h8) (bin (tupF_ext y7 h6) (da.ext y4) (db.ext y4)) (bin (tupF_ext y8 h7) (da.ext y4) (dc.ext y4))))
    | B =>
      rw [if_neg (by decide +kernel), if_neg (by decide +kernel), if_neg (by decide +kernel), if_pos (by rfl)]
      refine ⟨by decide, fun p5 H5 e5 h5 => ⟨by decide, fun p6 H6 e6 h6 => ⟨by decide, fun p7 H7 e7 h7 => ⟨by decide, fun p8 H8 e8 h8 => ⟨by decide, fun p9 H9 e9 h9 => ⟨by decide, fun pa Ha ea ha => ?_⟩⟩⟩⟩⟩⟩
      have y9 := e9.trans ea
      have y8 := e8.trans y9
      have y7 := e7.trans y8
      have y6 := e6.trans y7
      have y5 := e5.trans y6
      exact fin pa _ Ha y5 ha (bin (tupF_ext ea h9) (bin (tupF_ext y6 h5) (db.ext y5) (dc.ext y5)) (bin (tupF_ext y9 h8) (bin (tupF_ext y7 h6) (da.ext y5) (db.ext y5)) (bin (tupF_ext y8 h7) (da.ext y5) (dc.ext y5))))
    | C =>
      rw [if_neg (by decide +kernel), if_neg (by decide +kernel), if_neg (by decide +kernel), if_neg (by decide +kernel)]
      refine ⟨by decide, fun p5 H5 e5 h5 => ⟨by decide, fun p6 H6 e6 h6 => ⟨by decide, fun p7 H7 e7 h7 => ⟨by decide, fun p8 H8 e8 h8 => ⟨by decide, fun p9 H9 e9 h9 => ⟨by decide, fun pa Ha ea ha => ?_⟩⟩⟩⟩⟩⟩
      have y9 := e9.trans ea
      have y8 := e8.trans y9
      have y7 := e7.trans y8
      have y6 := e6.trans y7
      have y5 := e5.trans y6
      exact fin pa _ Ha y5 ha (bin (tupF_ext ea h9) (bin (tupF_ext y7 h6) (da.ext y5) (bin (tupF_ext y6 h5) (db.ext y5) (dc.ext y5))) (bin (tupF_ext y9 h8) (db.ext y5) (bin (tupF_ext y8 h7) (da.ext y5) (dc.ext y5))))
abbrev s_guessed : Stmt := top 29
abbrev n_guessed : List Str := ["thing", "pairs", "count", "what", "one", "other"]
theorem sc_guessed : FnScope n_guessed ["thing", "pairs", "count"] (defScope s_guessed) := ⟨rfl, rfl, rfl, by decide +kernel, rfl, by decide +kernel, by decide +kernel⟩
theorem gsC_cnt : ∀ {t : Cg} {n m : Nat} {g : Fm} {ps : FP}, gsC t n = some (g, m, ps) → m + 1 ≤ n + 4 * t.wt ∧ ps.length + 1 ≤ t.wt
  | .l k, n, m, g, ps, h => by cases h; exact ⟨Nat.le_refl _, Nat.le_refl _⟩
  | .v x, n, m, g, ps, h => nomatch h
  | .ap f a, n, m, g, ps, h => by
    rw [gsC] at h
    cases h1 : gsC f n with
    | none => rw [h1] at h; cases h
    | some z =>
      obtain ⟨p, n1, ps1⟩ := z
      rw [h1] at h
      dsimp only at h
      cases h2 : gsC a n1 with
      | none => rw [h2] at h; cases h
      | some z =>
        obtain ⟨q, n2, ps2⟩ := z
        rw [h2] at h
        cases h
        have i1 := gsC_cnt h1
        have i2 := gsC_cnt h2
        rw [Cg.wt, List.length_append, List.length_append, List.length_singleton]
        omega
def spGsC (K : PySem.W.Frag) (k : Nat) (aB : Addr) : Sp := fun vs H Q E => ∃ (v : V) (t : Cg) (n : Nat) (pr cn : Addr) (ws : List V) (ps0 : FP), vs = [v, .ref pr, .ref cn] ∧ Td K H v t.data ∧ t.Ok ∧ t.dep + 3 ≤ k ∧ t.dep ≤ 150 ∧ n + 4 * t.wt ≤ 20000 ∧ H cn = some (.lst [.int (n : Nat)]) ∧ H pr = some (.lst ws) ∧ TdAll K H ws (ps0.map pairD) ∧ ps0.length + t.wt ≤ 20000 ∧ pr ≠ cn ∧
  match gsC t n with
  | some (g, m, ps) => ∀ v' H' ws', Ext [pr, cn] H H' → Td K H' v' g.data → H' cn = some (.lst [.int (m : Nat)]) → H' pr = some (.lst ws') → TdAll K H' ws' ((ps0 ++ ps).map pairD) → Q v' H'
  | none => ∀ H', Ext [pr, cn] H H' → E (.ref aB) none H'
theorem ok_gsC (F : Dn K mg "guessed" s_guessed f fd c) (B : Bl mg) (GJ : Gc K mg aJ uN) (X_BadTerm : Xc K mg "BadTerm" aB) (G_type_of_letter0 : Cal P w K mg base 1 "type_of_letter" (spTyL K)) (G_is_pair0 : Cal P w K mg base 1 "is_pair" (spIsp K)) : ∀ k, CalX P w K mg base k "guessed" (spGsC K k aB) := by
  refine F.calXRec (ps := ["thing", "pairs", "count"]) (fun _ _ _ _ _ _ us hl => match us, hl with | [_, _, _], _ => rfl) (fun vs H Q E ⟨v, t, _, _, _, _, _, _, _, _, h, _⟩ => by omega) fun k G_guessed => ?_
  by_cases hk1 : k < 1
  · exact ⟨fun vs H Q E ⟨v, t, _, _, _, _, _, _, _, _, h, _⟩ => by omega, fun A outer s H args us vs Q E _ _ _ _ ⟨v, t, _, _, _, _, _, _, _, _, h, _⟩ => by omega⟩
  have G_type_of_letter := G_type_of_letter0.mono (k := k) (by omega)
  have G_is_pair := G_is_pair0.mono (k := k) (by omega)
  refine F.okX sc_guessed (fun vs H Q E h => ?_) (fun A outer s H vs Q E hr h => ?_)
  · obtain ⟨_, _, _, _, _, _, _, rfl, _⟩ := h; rfl
  obtain ⟨v, t, n, pr, cn, ws, ps0, rfl, ht, hok, hk, hd, hn, hcn, hpr, hws, hl, hne, h⟩ := h
  refine ⟨_, (pss_cons (ps_if (pt_val (pe_callB (call_isStr K) (by rfl) B.b_isinstance (by decide +kernel) (pa_cons (pv 0) (pa_cons (pe_bltn (v := .ty "str") (u := .type "str") (by rfl) B.b_str (by decide +kernel) rfl) pa_nil)))) (pss_cons (ps_asg (C8.pe_c G_type_of_letter hr (by omega) (by rfl) (pa_cons (pv 0) (pa_cons (pe_ix ix_lstF (pv 2) pe_int (fun _ _ => rfl)) pa_nil))) (pg_tupK K (n := 2) (by rfl) (pgs_cons (pg_name (i := 3) sc_guessed.nd rfl (by first | exact Or.inl rfl | exact Or.inr rfl)) (pgs_cons (pg_sub (pv 2) pe_int set_lstF) pgs_nil))))
    (pss_one (ps_ret (pv 3)))) pss_nil)
    (pss_cons (ps_if (pt_not (pt_val (C8.pe_c G_is_pair hr (by omega) (by rfl) (pa_cons (pv 0) pa_nil)))) (pss_one (ps_raiseX X_BadTerm (takes_of rfl rfl rfl rfl))) pss_nil)
    (pss_cons (ps_par (i := 4) (j := 5) (by rfl) sc_guessed.nd rfl rfl (by decide) rfl rfl (pa_cons (pe_cX G_guessed hr (by omega) (takes_of rfl rfl rfl rfl) (fun _ _ _ _ h => h) (by rfl) (pa_cons (pe_ix (ix_tupK K) (pv 0) pe_int (fun _ _ => rfl)) (pa_cons (pv 1) (pa_cons (pv 2) pa_nil)))) (pa_cons (pe_cX G_guessed hr (by omega) (takes_of rfl rfl rfl rfl) (fun _ _ _ _ h => h) (by rfl) (pa_cons (pe_ix (ix_tupK K) (pv 0) pe_int (fun _ _ => rfl)) (pa_cons (pv 1) (pa_cons (pv 2) pa_nil)))) pa_nil)) (by rfl))
    (pss_cons (ps_set (i := 3) sc_guessed.nd rfl (by first | exact Or.inl rfl | exact Or.inr rfl) (pe_tupK K (pa_cons pe_str (pa_cons (pe_ix ix_str (pe_glob (v := .str namesT) (by rfl) GJ.n GJ.nr) (pe_op op_mod (pe_ix ix_lstF (pv 2) pe_int (fun _ _ => rfl)) pe_int) (fun _ _ => rfl)) pa_nil))))
    (pss_cons (ps_augS (pv 2) pe_int get_lstN pe_int ip_add set_lstF)
    (pss_cons (ps_expr (pe_bm PySem.F.plainAttrs_list PySem.F.slot_list_append PySem.F.type_list_append mt_appF (pv 1) (pa_cons (pe_tupK K (pa_cons (pv 4) (pa_cons (pe_tupK K (pa_cons pe_str (pa_cons (pv 5) (pa_cons (pv 3) pa_nil)))) pa_nil))) pa_nil)))
    (pss_one (ps_ret (pv 3))))))))), ?_⟩
  walk_at "rd"
  refine ⟨_, ht, ?_⟩
  cases t with
  | l k2 =>
    obtain rfl := cg_l ht
    rw [if_pos (by rfl)]
    refine ⟨_, hcn, _, atI_0, k2, n, rfl, by omega, fun p v2 H1 e1 h1 d1 => ?_⟩
    have hcn1 := e1.lst0 hcn
    refine ⟨p, rfl, _, h1, rfl, _, _, rfl, _, _, rfl, _, hcn1, 0, rfl, fun H2 e2 h2 => ⟨rfl, ?_⟩⟩
    have hpr2 : H2 pr = some (.lst ws) := e2.lst (e1.lst0 hpr) (by simpa using hne)
    have e12 : Ext [pr, cn] H H2 := e1.any.trans (e2.mono fun b z => by simp at z; simp [z])
    exact h v2 H2 ws e12 (d1.ext e2) h2 hpr2 (by rw [List.append_nil]; exact (hws.ext e1).ext e2)
  | v y =>
    rw [if_neg (by exact Bool.false_ne_true)]
    refine ⟨v, .v y, rfl, ht, hok, by omega, ?_⟩
    refine ⟨_, rfl, ?_⟩
    rw [if_pos (by rfl)]
    exact h H (Ext.refl _ _)
  | ap g a =>
    rw [if_neg (by exact Bool.false_ne_true)]
    refine ⟨v, .ap g a, rfl, ht, hok, by omega, ?_⟩
    refine ⟨_, rfl, ?_⟩
    rw [if_neg (by exact Bool.false_ne_true)]
    obtain ⟨p, w1, w2, rfl, hp, h1, h2⟩ := cg_ap ht
    rw [Cg.dep] at hk hd
    rw [Cg.wt] at hn hl
    refine ⟨p, rfl, _, hp, _, atI_0, w1, g, n, pr, cn, ws, ps0, rfl, h1, hok.1, by omega, by omega, by omega, hcn, hpr, hws, by omega, hne, ?_⟩
    rw [gsC] at h
    cases hg1 : gsC g n with
    | none =>
      rw [hg1] at h
      exact h
    | some z =>
      obtain ⟨g1, n1, ps1⟩ := z
      rw [hg1] at h
      dsimp only at h ⊢
      obtain ⟨c1, c2⟩ := gsC_cnt hg1
      intro v3 H3 ws3 e3 d3 hcn3 hpr3 hws3
      refine ⟨p, rfl, _, tupF_ext e3 hp, _, atI_1, w2, a, n1, pr, cn, ws3, ps0 ++ ps1, rfl, h2.ext e3, hok.2, by omega, by omega, by omega, hcn3, hpr3, hws3, by rw [List.length_append]; omega, hne, ?_⟩
      cases hg2 : gsC a n1 with
      | none =>
        rw [hg2] at h
        exact fun H4 e4 => h H4 (e3.trans e4)
      | some z =>
        obtain ⟨g2, n2, ps2⟩ := z
        rw [hg2] at h
        dsimp only at h ⊢
        obtain ⟨c3, c4⟩ := gsC_cnt hg2
        intro v4 H4 ws4 e4 d4 hcn4 hpr4 hws4
        obtain ⟨cc, hc1, hc2⟩ := atI_ltr (n := n2 % 26) (Nat.mod_lt _ (by decide))
        refine ⟨_, _, ⟨rfl, rfl⟩, _, hcn4, _, atI_0, _, rfl, by decide, by decide, cc, by rw [show ((n2 : Nat) : Int) % 26 = ((n2 % 26 : Nat) : Int) by push_cast; rfl]; exact hc1, by decide, fun p5 H5 e5 h5 => ?_⟩
        have hcn5 := e5.lst0 hcn4
        have d5 : Td K H5 (.ref p5) (mk (n2 % 26)).data := by
          show Td K H5 (.ref p5) (.tuple [.str "name", .str (ltr (n2 % 26))])
          rw [hc2]
          exact .tup h5 (.cons (.str _) (.cons (.str _) .nil))
        refine ⟨_, hcn5, Int.le_refl _, _, rfl, _, rfl, _, hcn5, 0, rfl, fun H6 e6 h6 => ?_⟩
        have hn1 : ((n2 : Int) + 1) = ((n2 + 1 : Nat) : Int) := by omega
        have h6 : H6 cn = some (.lst [.int ((n2 + 1 : Nat) : Int)]) := by rw [← hn1]; exact h6
        have hpr6 : H6 pr = some (.lst ws4) := e6.lst (e5.lst0 hpr4) (by simpa using hne)
        have e46 : Ext [cn] H4 H6 := e5.any.trans e6
        have ed : Ext [pr, cn] H H6 := e3.trans (e4.trans (e46.mono fun b z => by simp at z; simp [z]))
        refine ⟨tyV_lst hpr6, by decide, fun p7 H7 e7 h7 => ⟨by decide, fun p8 H8 e8 h8 => ?_⟩⟩
        have e78 := e7.trans e8
        have hpr8 := e78.lst0 hpr6
        have hlw := hws4.length
        rw [List.length_map, List.length_append, List.length_append] at hlw
        refine ⟨_, hpr8, ?_, fun H9 e9 h9 => ?_⟩
        · exact Nat.lt_of_le_of_lt (by omega : ws4.length ≤ 20000) (by decide)
        · have e69 : Ext [pr] H6 H9 := e78.any.trans e9
          refine h _ H9 _ (ed.trans (e69.mono fun b z => by simp at z; simp [z])) ((d5.ext e6).ext e69) (e69.lst h6 (by simpa using fun z => hne z.symm)) h9 ?_
          rw [← List.append_assoc, ← List.append_assoc, List.map_append]
          exact ((hws4.ext e46).ext e69).append (.cons (.tup (tupF_ext e9 h8) (.cons (((d3.ext e4).ext e46).ext e69) (.cons (.tup (tupF_ext (e8.any.trans e9) h7) (.cons (.str _) (.cons ((d4.ext e46).ext e69) (.cons ((d5.ext e6).ext e69) .nil)))) .nil))) .nil)
abbrev s_type_of : Stmt := top 28
abbrev n_type_of : List Str := ["thing", "pairs", "count", "what", "table"]
theorem sc_type_of : FnScope n_type_of ["thing"] (defScope s_type_of) := ⟨rfl, rfl, rfl, by decide +kernel, rfl, by decide +kernel, by decide +kernel⟩
/-- what type_of is asked: a thing whose run is small, or a name -/
def spTyO (K : PySem.W.Frag) (k : Nat) (aB aL : Addr) : Sp := fun vs H Q E => ∃ (v : V) (t : Cg), vs = [v] ∧ Td K H v t.data ∧ t.Ok ∧ t.dep + 3 ≤ k ∧ t.dep ≤ 150 ∧ t.wt ≤ 4000 ∧ ((gsC t 0 = none ∧ ∀ H', Ext [] H H' → E (.ref aB) none H') ∨ ∃ r, tyR t = some r ∧ match r with
  | none => ∀ H', Ext [] H H' → E (.ref aL) none H'
  | some none => ∀ H', Ext [] H H' → Q .non H'
  | some (some g) => ∀ v' H', Ext [] H H' → Td K H' v' g.data → Q v' H')
theorem ok_tyO (F : Dn K mg "type_of" s_type_of f fd c) (B : Bl mg) (GJ : Gc K mg aJ uN) (X_TooLarge : Xc K mg "TooLarge" aL) {k : Nat} (hk : 65 ≤ k) (G_guessed : CalX P w K mg base k "guessed" (spGsC K k aB)) (G_unified0 : Cal P w K mg base 65 "unified" (spUniG K LET)) (G_laid0 : Cal P w K mg base 64 "laid" (spLay K 64)) : CalX P w K mg base (k + 1) "type_of" (spTyO K k aB aL) := by
  have G_unified := G_unified0.mono (k := k) (by omega)
  have G_laid := G_laid0.mono (k := k) (by omega)
  refine F.calX (k := k) (ps := ["thing"]) (fun _ _ _ _ _ _ us hl => match us, hl with | [_], _ => rfl) sc_type_of (fun vs H Q E h => ?_) (fun A outer s H vs Q E hr h => ?_)
  · obtain ⟨_, _, rfl, _⟩ := h; rfl
  obtain ⟨v, t, rfl, ht, hok, hkd, hd, hwt, h⟩ := h
  refine ⟨_, (pss_cons (ps_par (i := 1) (j := 2) (by rfl) sc_type_of.nd rfl rfl (by decide) rfl rfl (pa_cons (pe_lstF pa_nil) (pa_cons (pe_lstF (pa_cons pe_int pa_nil)) pa_nil)) (by rfl))
    (pss_cons (ps_set (i := 3) sc_type_of.nd rfl (by first | exact Or.inl rfl | exact Or.inr rfl) (pe_cX G_guessed hr (by omega) (takes_of rfl rfl rfl rfl) (fun _ _ _ _ h => h) (by rfl) (pa_cons (pv 0) (pa_cons (pv 1) (pa_cons (pv 2) pa_nil)))))
    (pss_cons (ps_if (pt_cmpR op_gt (pe_ix ix_lstF (pv 2) pe_int (fun _ _ => rfl)) pe_int (nomark _)) (pss_one (ps_raiseX X_TooLarge (takes_of rfl rfl rfl rfl))) pss_nil)
    (pss_cons (ps_set (i := 4) sc_type_of.nd rfl (by first | exact Or.inl rfl | exact Or.inr rfl) (C8.pe_c G_unified hr (by omega) (by rfl) (pa_cons (pv 1) (pa_cons (pe_glob (v := .str namesT) (by rfl) GJ.n GJ.nr) pa_nil))))
    (pss_one (ps_ret (pe_ifExp (pt_cmpR op_isN (pv 4) pe_non (nomark _)) pe_non (C8.pe_c G_laid hr (by omega) (by rfl) (pa_cons (pv 3) (pa_cons (pv 4) pa_nil)))))))))), ?_⟩
  walk_at "rd"
  refine ⟨Nat.zero_le _, fun pr H1 n1 e1 h1 => ⟨by decide, fun cn H2 n2 e2 h2 => ⟨_, _, ⟨rfl, rfl⟩, ?_⟩⟩⟩
  have e12 := e1.trans e2
  have hne : pr ≠ cn := fun z => by rw [← z, h1] at n2; cases n2
  have ncn := e1.back0 n2
  have fresh : ∀ {H4 : Hp}, Ext [pr, cn] H2 H4 → Ext [] H H4 := fun e => (Ext.refl [] H).overC ncn (e12.overC n1 e)
  refine ⟨v, t, 0, pr, cn, [], [], rfl, ht.ext e12, hok, hkd, hd, by omega, h2, e2.lst0 h1, .nil, by simp; omega, hne, ?_⟩
  rcases h with ⟨hg, hE⟩ | ⟨r, hr, h⟩
  · rw [hg]
    exact fun H' e => hE H' (fresh e)
  obtain ⟨g, m, qs, hg, hgd, hps, hcase⟩ := tyR_out hr
  rw [hg]
  intro v' H3 ws e3 hv' hcn3 hpr3 hws3
  rw [List.nil_append] at hws3
  have e03 := fresh e3
  refine ⟨cn, rfl, _, hcn3, _, atI_0, _, rfl, ?_⟩
  rcases hcase with ⟨hm, rfl⟩ | ⟨hm, r2, hrun, hsafe, hout⟩
  · rw [if_pos (by omega)]
    exact h H3 e03
  rw [if_neg (by omega)]
  refine ⟨pr, .str namesT, ws, qs, LET, 200, r2, rfl, hpr3, hws3, .inr ⟨rfl, rfl⟩, by decide +kernel, fun x hx => hx, hrun, hsafe, fun hr0 H4 e4 => ?_, fun l hr0 hW a kvs H4 e4 h4 t4 => ?_⟩
  · subst hr0
    rcases hout with ⟨_, rfl⟩ | ⟨l, z, _⟩
    · rw [if_pos rfl]
      exact h H4 (e03.trans e4)
    · cases z
  · subst hr0
    rcases hout with ⟨z, _⟩ | ⟨l', z, rfl, _⟩
    · cases z
    · cases z
      rw [if_neg (by simp)]
      exact ⟨v', g, a, l, rfl, hv'.ext e4, by omega, ⟨kvs, dctF_dK h4, t4⟩, fun v8 H8 e8 d8 => h v8 H8 ((e03.trans e4).trans e8) d8⟩
end
end Sq
set_option Elab.async false
set_option linter.all false
set_option maxRecDepth 100000
set_option maxHeartbeats 2000000
namespace Sq
open PySem PySem.Spec PyProof.Rows L2 NdefX
/-! ### an own exception whose __init__ says super().__init__("..") and keeps its one argument -/
abbrev xiBody (fld m : Str) (jk : Nat) (p0 p1 p2 p3 p4 p5 p6 p7 p8 p9 : Pos) : List Stmt :=
  [.Expr (.Call (.Attribute (.Call (.Name "super" p0) [] [] p1) "__init__" p2) [.Constant (.str m) jk p3] [] p4) p5, .Assign [.Attribute (.Name "self" p6) fld p7] (.Name fld p8) p9]
abbrev xiNF (qual : Str) (params : Arguments) (body : List Stmt) (scope : Scope) (cc cda : Addr) : NF := ⟨"__init__", qual, params, body, scope, [("__class__", cc)], cda⟩
abbrev xiFd (qual : Str) (params : Arguments) (body : List Stmt) (scope : Scope) (cc cda : Addr) (dV kV doc pm ct : Value) (an : Option Addr) : FuncData := PySem.W.fnX "__init__" qual params body scope [("__class__", cc)] dV kV doc pm an (.ref cda) ct
def spXi (C : Addr) (fld : Str) : Sp := fun vs H Q _ => ∃ (a : Addr) (v : V), vs = [.ref a, v] ∧ H a = some (exo a C none) ∧ ∀ d, H d = none → d ≠ a → Q .non (upd (upd H d (exd d [(fld, v)])) a (exo a C (some d)))
structure XiC (P : Program) (K : PySem.W.Frag) (mg : Str → Option Value) (C : Addr) (fld : Str) : Prop where
  T : OexC K C
  nf : PySem.W.findIn K (.ref C) fld = some none
  ms : mg "super" = none
  hD : ∃ cd, PySem.W.clsIn K C = some cd
  sb : PySem.W.mroIn K C (.ref C) = some true
  op : PySem.W.nsIn K cStatics "thirdparty.any" = some none
  su : PySem.W.ks_superIn K C C "__init__" = some (some (.builtin "ValueError.__init__"))
  ve : PySem.W.subIn K (.ref C) (.type "ValueError") = some true
  tp : (P.main.scope.names.lookup ("super" : Str)).isSome = false
section
variable {P : Program} {w : World} {K : PySem.W.Frag} {mg : Str → Option Value} {base : Heap} {CX : CXT} {C fI cc cda : Addr} {fld m qual : Str} {params : Arguments} {scope : Scope} {dV kV doc pm ct oc cl ccl : Value} {an od cld cdd : Option Addr} {osl csl ccs : Array (Option Value)} {k : Nat}
  {jk : Nat} {p0 p1 p2 p3 p4 p5 p6 p7 p8 p9 : Pos} {vs : Array Value} {file : Str} {tf : Tok} {ar : Arg}
theorem xi_fn (XC : XiC P K mg C fld) (lk : K.lookup fI = some ⟨oc, od, .func (xiFd qual params (xiBody fld m jk p0 p1 p2 p3 p4 p5 p6 p7 p8 p9) scope cc cda dV kV doc pm ct an), osl⟩) (hcd : PySem.W.codeIn K (.ref cda) qual = true)
    (S : NScope ["self", fld, "__class__"] ["self", fld] ["__class__"] scope) (hks : scope.names.lookup ("super" : Str) = some .globalImplicit) (hcell : K.lookup cc = some ⟨cl, cld, .cell (some (.ref C)), csl⟩)
    (hcode : K.lookup cda = some ⟨ccl, cdd, .fields vs, ccs⟩) (hvs : vs[2]? = some (.str file tf)) (hfile : ((P.main.file : Str) == file) = true) (hp : (params.posonlyargs ++ params.args).head? = some ar) (har : ar.arg = "self") (hfd : (fld == ("__debug__" : Str)) = false) (hfc : (fld == ("__classdict__" : Str)) = false) {pl : Sem Bool}
    (he : ∀ L : Addr, eval (.Call (.Attribute (.Call (.Name "super" p0) [] [] p1) "__init__" p2) [.Constant (.str m) jk p3] [] p4) (envF (xiNF qual params (xiBody fld m jk p0 p1 p2 p3 p4 p5 p6 p7 p8 p9) scope cc cda) fI L) = (do
      let ov ← attributeBase (.Call (.Name "super" p0) [] [] p1) "__init__" (envF (xiNF qual params (xiBody fld m jk p0 p1 p2 p3 p4 p5 p6 p7 p8 p9) scope cc cda) fI L) (eval (.Call (.Name "super" p0) [] [] p1) (envF (xiNF qual params (xiBody fld m jk p0 p1 p2 p3 p4 p5 p6 p7 p8 p9) scope cc cda) fI L))
      standAt p2.atName
      let (f, first) ← holding [ov] (getMethod ov "__init__" pl)
      callWith p4 f first (backTo p4 (starEach [.Constant (.str m) jk p3] (envF (xiNF qual params (xiBody fld m jk p0 p1 p2 p3 p4 p5 p6 p7 p8 p9) scope cc cda) fI L))) [])) :
    FnOk P w K mg base CX (k + 1) fI (xiFd qual params (xiBody fld m jk p0 p1 p2 p3 p4 p5 p6 p7 p8 p9) scope cc cda dV kV doc pm ct an) ["self", fld] (spXi C fld) := by
  refine ⟨fun vs H Q E h => by obtain ⟨_, _, rfl, _⟩ := h; rfl, fun A outer s H args us vs1 Q E hr e0 hb r hsp => ?_⟩
  have KX : K.In s.heap := e0.mod.kin.keeps fun b o e => (e0.bs b o e).1
  have lim : s.heap.NoLimit := e0.mod.nolimit.keeps fun b o e => (e0.bs b o e).1
  obtain ⟨a, v, rfl, ea, q⟩ := hsp
  obtain ⟨u1, u2, rfl, ru, rv⟩ := vals2 r
  cases ru
  let F : NF := xiNF qual params (xiBody fld m jk p0 p1 p2 p3 p4 p5 p6 p7 p8 p9) scope cc cda
  have CA : CellsAt F.cl ["__class__"] [some (.ref C)] s.heap H := by
    have hl : ∀ y c, F.cl.lookup y = some c → y = "__class__" ∧ c = cc := fun y c e => by
      have e : (([("__class__", cc)] : List (Str × Addr)).lookup y) = some c := e
      rw [List.lookup_cons] at e
      split at e
      · rename_i z
        exact ⟨eq_of_beq z, (Option.some.inj e).symm⟩
      · cases e
    refine ⟨rfl, fun y c e => ?_, fun x y c e1 e2 => by rw [(hl x c e1).1, (hl y c e2).1], fun i y e => ?_⟩
    · obtain ⟨_, rfl⟩ := hl y c e
      exact ⟨(e0.bs _ _ (e0.mod.kin _ _ hcell)).2, _, _, KX _ _ hcell, rfl⟩
    · cases i with
      | zero =>
        cases e
        exact ⟨cc, by rw [List.lookup_cons, beq_self_eq_true], fun v e => by cases e; exact ⟨_, rfl, _, KX _ _ hcell, rfl⟩⟩
      | succ i => cases e
  refine ks_codeAny_call_defAt hr.depth (KX _ _ lk) rfl lim (PySem.W.codeRec_of KX hcd) rfl hb S.nocell (fun ⟨n, _⟩ hy => S.par n (List.of_mem_zip hy).1) (fun h₁ hns kp => ?_) S.co S.gen S.kind
  have I : Inv (ncx CX P w K mg base ["self", fld, "__class__"] F fI A outer s H E) [] (startF ["self", fld, "__class__"] [.ref a, v] [some (.ref C)]) H { s with heap := h₁, toks := s.toks + 2 } := inv_startN S hr.hd e0 rfl r CA hns kp
  show _root_.PySem.wpAt (model P w) (A.deeper (envF F fI s.heap.objs.size)) (.func F.body (envF F fI s.heap.objs.size)) (execs (xiBody fld m jk p0 p1 p2 p3 p4 p5 p6 p7 p8 p9) (envF F fI s.heap.objs.size)) _ _ { s with heap := h₁, toks := s.toks + 2 }
  have hint : interactive (envF F fI s.heap.objs.size) = false := by
    unfold interactive
    show (scope.kind == .module && _) = false
    rw [S.kind]; rfl
  have hsf : scope.names.lookup ("self" : Str) = some .local := S.par "self" List.mem_cons_self
  have hkc : scope.names.lookup ("__class__" : Str) = some .free := S.frk "__class__" List.mem_cons_self
  obtain ⟨cdD, hD⟩ := XC.hD
  obtain ⟨oD, hD1, hD2⟩ : ∃ oD, h₁.get? C = some oD ∧ oD.data = .cls cdD := by
    unfold PySem.W.clsIn at hD
    split at hD
    · rename_i ho
      cases hD
      exact ⟨_, kp _ _ (KX _ _ ho), rfl⟩
    · cases hD
  obtain ⟨t1, hx0⟩ := exo_at e0.hok ea
  have hx1 := kp _ _ hx0
  refine ks_wpAt_execs_cons (ks_wpAt_Expr_any (hi := hint) (ks_wpAt_MethodCall (he := he _) ?_))
  refine ks_wpAt_super_base (env := envF F fI s.heap.objs.size) hks hkc (by decide) rfl (kp _ _ (KX _ _ lk)) rfl hp rfl (kp _ _ (KX _ _ hcode)) rfl hvs hfile XC.tp ?_
  obtain ⟨mb, b1, b2⟩ := I.mod.blt
  refine PySem.W.ks_loadName_global S.kind hks (Calls.loadGlobal_builtin (env := envF F fI s.heap.objs.size) (I.mod.glob.keeps I.bk) XC.ms (b1.keeps I.bk) ((b2 _ (by decide)).trans (by decide +kernel)) ⟨rfl, ?_⟩)
  refine wpAny_loadName_free S.kind hkc (by rw [List.lookup_cons, beq_self_eq_true]) ⟨_, kp _ _ (KX _ _ hcell), rfl⟩ ?_
  rw [har]
  refine wpAny_loadName_local S.kind hsf hns (v := .ref a) ?_ ?_
  · have nd2 : (["self", fld] : List Str).Nodup := S.nd.sublist (List.take_sublist 2 (["self", fld, "__class__"] : List Str))
    exact NdefX.zip_look (i := 0) nd2 rfl rfl
  refine ks_wpAny_isType_cls hD1 hD2 ⟨rfl, ?_⟩
  refine ks_wpAny_call_super hD1 hD2 hx1 rfl (fun c z => nomatch z) (PySem.W.looks_mroIn (I.kIn) XC.sb) (fun h₂ e2 k2 => ?_)
  have I2 := I.kept (t' := s.toks + 2) k2
  have hx2 := k2 _ _ hx1
  have IA : PySem.W.InstAt h₂ a { cls := .ref C, data := .fields #[.ref t1, .none, .none, .none, .bool false, .none] } C none := ⟨hx2, rfl, rfl, trivial⟩
  have hsu := XC.su
  unfold PySem.W.ks_superIn at hsu
  rw [hD] at hsu
  refine PySem.W.kxs_getMethod PySem.W.kxs_ValueError e2 (PySem.W.looks_opaque I2.kIn XC.op) (l₀ := cdD.mro) (fun A Q E s k q => wpAny_bind ((PySem.W.looks_clsIn I2.kIn hD) A _ E s k (wpAny_pure q))) rfl I2.kIn hsu (IA.type.andThen (PySem.W.looks_subIn I2.kIn XC.ve)) (PySem.W.ks_ne I2.kIn IA hD) (by decide) ?_
  have hu3 : (h₂.push (PySem.W.kxs_mw "ValueError.__init__" a)).get? h₂.objs.size = some (PySem.W.kxs_mw "ValueError.__init__" a) := Heap.get?_push_size _ rfl
  have I3 := I2.kept (h' := h₂.push (PySem.W.kxs_mw "ValueError.__init__" a)) (t' := s.toks + 2 + 1) (fun b o e => Heap.get?_push_of_some _ e)
  generalize hG3 : h₂.push (PySem.W.kxs_mw "ValueError.__init__" a) = G3 at hu3 I3
  generalize h₂.objs.size = U at hu3
  dsimp only
  refine PySem.W.kxs_callWith (i := "ValueError.__init__") (x := a) rfl (Calls.evalArgs_plain ?_)
  show wpAny _ _ (spliced ((false, eval (.Constant (.str m) jk p3) (envF F fI s.heap.objs.size)) :: backTo p4 (starEach [] (envF F fI s.heap.objs.size)))) _ _ _
  refine Calls.spliced_cons (Calls.Constant_str (Calls.spliced_nil ⟨hu3, ?_⟩))
  have I4 := I3.tok (s.toks + 2 + 1 + 1)
  obtain ⟨nm, q0, N0, bs, bm, sn, sub, ab, col, dd, k0, k1, k2', k3, k5, hC, hbm⟩ := XC.T.cls
  have hx3 : G3.get? a = some ({ cls := .ref C, data := .fields #[.ref t1, .none, .none, .none, .bool false, .none] } : Obj) := by rw [← hG3]; exact Heap.get?_push_of_some _ hx2
  refine wpAny_call (codeAny_of_tree ?_)
  show wpAny _ _ (callAny (.ref U) ⟨[.str m _], []⟩) _ _ _
  simp only [callAny]
  refine wpAny_bind (wpAny_load hu3 ?_)
  simp only [PySem.W.kxs_mw, show (Value.type "method-wrapper" == Value.type "method" || Value.type "method-wrapper" == Value.type "builtin_function_or_method" || Value.type "method-wrapper" == Value.type "method-wrapper") = true by decide, if_true]
  refine PySem.W.KFB.if_so (by decide) ?_
  refine wpAny_bind (PySem.W.check_bound_init PySem.F.excBase_ValueError.toExcCallFacts (I4.kIn _ _ hC) hx3 rfl ?_)
  refine wpAny_bind (wpAny_pure (wpAny_pure ?_))
  refine ⟨plainId_quiet PySem.F.excBase_ValueError.init.plain _, codeAny_builtin PySem.F.excBase_ValueError.initEntry ?_⟩
  refine PySem.W.exc_init_tree (cls := .ref C) (t0 := t1) (dv := none) (c2 := .none) (c3 := .none) (b4 := .bool false) hx3 (by show 1 ≤ sizeLine; decide) fun h5 k5 hx5 ht5 => ?_
  have J := I4.write (t' := s.toks + 2 + 1 + 1) (x := a) (e := a) (o := exo a C none) (by rw [ea]; exact True.intro) (.inl rfl) k5 ⟨_, hx5⟩ (exo_ok hx5)
  have eu : upd H a (exo a C none) = H := by
    funext b
    by_cases hb : b = a
    · rw [hb, upd_same, ea]
    · rw [upd_ne hb]
  rw [eu] at J
  have hst := (pss_one (ps_ost (X := ncx CX P w K mg base ["self", fld, "__class__"] F fI A outer s H E) (f := fld) (p' := p7) (pos := p9) (pv 0 (x := "self") (pos := p6) rfl (.inl hsf)) (pv 1 (x := fld) (pos := p8) rfl (.inl (S.par fld (List.mem_cons_of_mem _ List.mem_cons_self))) hfd hfc))).run [] _ _ H { nx := fun _ H' => Q .non H', rt := Q } J
  refine wpAt_of_wpAny (wpAny_mono (hst ⟨v, rfl, .ref a, rfl, a, C, rfl, XC.T, XC.nf, .inl ⟨ea, fun dx n ne => q dx n ne⟩⟩) (fun fl s' hs => ?_) fun e s' hs => hs)
  have fin : ∀ {σ' : L2.St} {H' : Hp} {v : V} {u : Value}, Inv (ncx CX P w K mg base ["self", fld, "__class__"] F fI A outer s H E) [] σ' H' s' → L2.RelV v u → Q v H' → CE outer P w H s Q u s' :=
    fun {σ' H' v u} J rv q => ⟨v, H', J.os, J.bare, J.base, J.hok, rv, q⟩
  cases fl with
  | ret u =>
    obtain ⟨v, σ', H', J, rv, q⟩ := hs
    exact fin J rv q
  | next =>
    obtain ⟨σ', H', J, q⟩ := hs
    exact fin (v := V.non) (u := Value.none) J rfl q
  | brk =>
    obtain ⟨_, _, _, q⟩ := hs
    exact False.elim q
  | cont =>
    obtain ⟨_, _, _, q⟩ := hs
    exact False.elim q
end
/-- such a class, known under its name -/
structure Xi (P : Program) (w : World) (K : PySem.W.Frag) (mg : Str → Option Value) (base : Heap) (x : Str) (C : Addr) (fld : Str) : Prop where
  T : OexC K C
  g : mg x = some (.ref C)
  f : ∃ fI fd, PySem.W.findIn K (.ref C) "__init__" = some (some (.ref fI)) ∧ PySem.W.typeIn K (.ref fI) = some (.type "function") ∧ (∀ CX, FnOk P w K mg base CX 1 fI fd ["self", fld] (spXi C fld)) ∧ Binds K fd ["self", fld] []
section
variable {X : Cx} {x fld : Str} {C : Addr} {e : Expr} {te : TE} {p pos pos2 : Pos} {k : Nat}
def tMkI (C : Addr) (fld : Str) (te : TE) : L2.St → Hp → XK → Prop := fun σ H Q => te σ H fun v H1 => ∀ d H2, H1 d = none → Ext [] H1 H2 → H2 d = some (.xd [(fld, v)]) → Q (.ref C) (some d) H2
theorem pmk_xi (B : Xi X.prog X.w X.K X.mg X.base x C fld) (hr : Room (k + 2) X.A) (hx : Passes C8.CX0 X (fun _ _ _ => False)) (hg : Gl X x) (he : PE X e te)
    (hdb : (x == ("__debug__" : Str)) = false := by decide) (hs : starEach [e] X.env = (false, eval e X.env) :: starEach [] X.env := by rfl) (hpl : (backTo pos (starEach [] X.env)).any (·.1) = false := by rfl) :
    PMk X (.Call (.Name x p) [e] [] pos) (tMkI C fld te) := by
  obtain ⟨fI, fd, iC, tI, F1, hb⟩ := B.f
  intro pins s σ H Q I h
  refine pmk_oex (ds := []) (dvs := []) (k := 1) B.T iC tI (F1 C8.CX0) (hr.mono (by omega)) hb .nil hx hg B.g (pa_cons (PE.up he) pa_nil (hs := hs)) hdb (he := hs) (hpl := hpl) pins s σ H Q I ?_
  refine ⟨_, fun v H1 q => ?_, h⟩
  refine ⟨by show 1 ≤ 1000; decide, fun a na => ⟨a, v, rfl, upd_same, fun d nd hda => ⟨rfl, d, [(fld, v)], upd_same, ?_, ?_, ?_⟩⟩⟩
  · rw [upd_ne hda, upd_same]
  · rwa [upd_ne hda] at nd
  · have nd : H1 d = none := by rwa [upd_ne hda] at nd
    have e : upd (del (upd (upd (upd H1 a (exo a C none)) d (exd d [(fld, v)])) a (exo a C (some d))) a) d (.xd [(fld, v)]) = upd H1 d (.xd [(fld, v)]) := by
      funext b
      by_cases h1 : b = d
      · rw [h1, upd_same, upd_same]
      · rw [upd_ne h1, upd_ne h1]
        by_cases h2 : b = a
        · rw [h2, del_same, na]
        · rw [del_ne h2, upd_ne h2, upd_ne h1, upd_ne h2]
    rw [e]
    exact q d _ nd (Ext.new nd) upd_same
/-- raise C(e) -/
theorem ps_raiseI {W : WX} (B : Xi X.prog X.w X.K X.mg X.base x C fld) (hr : Room (k + 2) X.A) (hx : Passes C8.CX0 X (fun _ _ _ => False)) (tk : Takes X W) (he : PE X e te) (hc : X.calm = true := by rfl) (hg : Gl X x := by rfl)
    (hdb : (x == ("__debug__" : Str)) = false := by decide) (hs : starEach [e] X.env = (false, eval e X.env) :: starEach [] X.env := by rfl) (hpl : (backTo pos (starEach [] X.env)).any (·.1) = false := by rfl) :
    PS X (.Raise (some (.Call (.Name x p) [e] [] pos)) none pos2) (fun _ σ H => tMkI C fld te σ H fun cls d H' => W cls d σ H') := ps_raise hc tk (pmk_xi B hr hx hg he hdb hs hpl)
end
end Sq
set_option Elab.async false
set_option linter.all false
set_option maxRecDepth 100000
set_option maxHeartbeats 4000000
namespace Sq
open PySem PySem.Spec PyProof.Rows L2
/-! ### isinstance(e, C), e the caught exception, with fields or without -/
def rIsX (K : PySem.W.Frag) (a : Addr) (cls : Value) (d : Option Addr) : List V → Hp → VK → Prop := fun xs H Q => ∃ (c : V) (cv : Value) (b : Bool) (D : Addr), xs = [.ref a, c] ∧ (∀ u, RelV c u → u = cv) ∧ cls = .ref D ∧ ExcC K D ∧ PySem.W.kitOne K (.ref D) cv = some b ∧ (d = none ∨ ∃ dd fs, d = some dd ∧ H dd = some (.xd fs)) ∧ Q (.bl b) H
theorem call_isX {X : Cx} {a : Addr} {cls : Value} {d : Option Addr} {oe : Obj} {pn : List (Addr × Obj)} (hz : Zc cls d oe) (hf : ∃ vs, oe.data = .fields vs) : CallR (X.suite a ((a, oe) :: pn)) (.builtin "isinstance") (rIsX X.K a cls d) := by
  intro pins s σ H xs us Q I r h
  obtain ⟨c, cv, b, D, rfl, hcv, rfl, C, e, hd, q⟩ := h
  cases r with
  | cons rx rr =>
    cases rr with
    | cons rt rr =>
      cases rr
      cases rx
      have ec := hcv _ rt
      subst ec
      obtain ⟨hget, _⟩ := I.pin (a, oe) (List.mem_append_left _ List.mem_cons_self)
      obtain ⟨vs, hv⟩ := hf
      have hcl : (PySem.W.clsIn X.K D).isSome = true := by
        obtain ⟨cd, hc, _⟩ := PySem.W.any_some C.hd
        rw [hc]; rfl
      have nc : PySem.W.notCls oe = true := by unfold PySem.W.notCls; rw [hv] <;> rfl
      have fin : ∀ {A : Around} {E : Value → Shared → Prop} (od), PySem.W.InstAt s.heap a oe D od → wpAny (model X.prog X.w) A (call (.builtin "isinstance") [.ref a, _]) (EP _ pins σ Q) E s := fun {A E} od J =>
        PySem.W.kia_one (PySem.W.kitx_exc (od := od) hcl C.hg C.hk C.hs C.ha C.hn C.ht C.hm) I.kIn J e (fun z => nomatch z) fun tk => ⟨.bl b, H, I.kept (t' := tk) fun _ _ z => z, rfl, q⟩
      rcases hd with rfl | ⟨dd, fs, rfl, ea⟩
      · exact fin none ⟨hget, hz.1, nc, by rw [hz.2]; trivial⟩
      · have hx : ObjOk X.prog X.w H s.heap dd (.xd fs) := I.hok dd _ ea
        obtain ⟨mA, hns, hr⟩ := hx
        obtain ⟨od, ho, hl⟩ := lookIn_ns hns
        exact fin (some od) ⟨hget, hz.1, nc, by rw [hz.2]; exact ho⟩
end Sq
set_option Elab.async false
set_option linter.all false
set_option pp.deepTerms false
set_option pp.deepTerms.threshold 14
set_option pp.maxSteps 200000
set_option format.width 2000
set_option format.indent 1
set_option maxRecDepth 100000
set_option maxHeartbeats 4000000
namespace Sq
open PySem PySem.Spec PyProof.Rows L2 RZ
local macro_rules | `(tactic| walk_at "rd") => `(tactic| simp only [tCont, tNever, iEnumL, tDG2, tTIdx, rU, tAugS, ipI, rGetN, iRng1, iRng2, rIsTup, rIsStr, rEqF, rIsN, rNotN, tWhile, rEqQ, tMkI, tDisp, tPairs, rIndexS, wipe, tNoPart, tDG2, tDGF, tDInF, tDNInF, sDPutF, tDNewF, rSortD, rInS, rInT, rEqLF, tDcF, tDc2F, tLcF, tForF, tAllF, tAnyF, tSumF, iStr, iEnumF, iZipF, iKeysF, iItems, tLZip, tYes, tSeq, tIfS, tNext, tRet, tRetN, tDrop, tTest, tB, tNot, tAnd, tOr, tChain, tOp, tUn, tCB, tCons, tNil, tC, tVar, tIf, tAndV, tOrV, tNotV, tAsg, tPar, tPar3, gName, gSub, gTupF, gCons, gNil, tTupF, tLstF, rI0, rI, rIxF, rIxG, rIxS, rSetF, rSlF, rCatF, rCatL, rTupL, rListT, rListL, rLenT, rLenL, iTupF, iLstF, rAppF, rExtF, rPopF, tBM, tBM0, tSl, tPart, rEq, rNe, tCall, L2.start,
  List.map_cons, List.map_nil, List.length_cons, List.length_nil, Nat.sub_self, List.replicate, List.append_nil, List.cons_append, List.nil_append, List.getElem?_cons_zero, List.getElem?_cons_succ, List.set_cons_zero, List.set_cons_succ,
  exSl, exI, exI2, exB, exS, exR, ex1, ex1', V.int.injEq, V.bl.injEq, V.ref.injEq, V.str.injEq, Option.some.injEq, List.cons.injEq, and_true, true_and, reduceCtorEq, false_and, and_false, or_false, false_or, exists_false, exists_and_left, exists_eq_left', decide_eq_true_eq, decide_true, decide_false, if_false, if_true, ite_true, ite_false, Bool.false_eq_true, Bool.not_true, Bool.not_false, Nat.reduceAdd, Nat.reduceSub, Nat.zero_add, atI_0, atI_1, atI_2, atI_3, ixN_0, ixN_1, ixN_2, cutV_1, cutV_2, Option.some.injEq, HO.lst.injEq, HO.dK.injEq, scal])
local macro_rules | `(tactic| walk_at "rdc") => `(tactic| simp (config := { contextual := true }) only [tCont, tNever, iEnumL, tDG2, tTIdx, rU, tAugS, ipI, rGetN, iRng1, iRng2, rIsTup, rIsStr, rEqF, rIsN, rNotN, tWhile, rEqQ, tMkI, tDisp, tPairs, rIndexS, wipe, tNoPart, tDG2, tDGF, tDInF, tDNInF, sDPutF, tDNewF, rSortD, rInS, rInT, rEqLF, tDcF, tDc2F, tLcF, tForF, tAllF, tAnyF, tSumF, iStr, iEnumF, iZipF, iKeysF, iItems, tLZip, tYes, tSeq, tIfS, tNext, tRet, tRetN, tDrop, tTest, tB, tNot, tAnd, tOr, tChain, tOp, tUn, tCB, tCons, tNil, tC, tVar, tIf, tAndV, tOrV, tNotV, tAsg, tPar, tPar3, gName, gSub, gTupF, gCons, gNil, tTupF, tLstF, rI0, rI, rIxF, rIxG, rIxS, rSetF, rSlF, rCatF, rCatL, rTupL, rListT, rListL, rLenT, rLenL, iTupF, iLstF, rAppF, rExtF, rPopF, tBM, tBM0, tSl, tPart, rEq, rNe, tCall, L2.start,
  List.map_cons, List.map_nil, List.length_cons, List.length_nil, Nat.sub_self, List.replicate, List.append_nil, List.cons_append, List.nil_append, List.getElem?_cons_zero, List.getElem?_cons_succ, List.set_cons_zero, List.set_cons_succ,
  exSl, exI, exI2, exB, exS, exR, ex1, ex1', V.int.injEq, V.bl.injEq, V.ref.injEq, V.str.injEq, Option.some.injEq, List.cons.injEq, and_true, true_and, reduceCtorEq, false_and, and_false, or_false, false_or, exists_false, exists_and_left, exists_eq_left', decide_eq_true_eq, decide_true, decide_false, if_false, if_true, ite_true, ite_false, Bool.false_eq_true, Bool.not_true, Bool.not_false, Nat.reduceAdd, Nat.reduceSub, Nat.zero_add, atI_0, atI_1, atI_2, atI_3, ixN_0, ixN_1, ixN_2, cutV_1, cutV_2, Option.some.injEq, HO.lst.injEq, HO.dK.injEq, scal, *])
section
variable {P : Program} {w : World} {K : PySem.W.Frag} {mg : Str → Option Value} {base : Heap} {f c aX : Addr} {fd : FuncData}
theorem pe_cXN40 {X : Cx} {k j : Nat} {x : Str} {sp : Sp} {p pos : Pos} {e : Expr} {es : List Expr} {t : TA} {W : WX} {E : XK} (c : CalX X.prog X.w X.K X.mg X.base k x sp) (hr : Room j X.A) (hk : k ≤ j) (tk : Takes X W) (hW : ∀ cls d (σ : L2.St) H, σ.length = X.N.length → E cls d H → W cls d σ H) (hg : Gl X x) (ha : PA X (e :: es) t)
    (hdb : (x == ("__debug__" : Str)) = false := by decide) (he : starEach (e :: es) X.env = (false, eval e X.env) :: starEach es X.env := by rfl) (hpl : (backTo pos (starEach es X.env)).any (·.1) = false := by rfl) :
    PE X (.Call (.Name x p) (e :: es) [] pos) (tCall sp [] E t) := by
  obtain ⟨f, fd, ps, F, hm, kp, hb⟩ := c.ex
  exact pe_call F (hr.mono hk) hg hm kp hb .nil (fun _ σ _ _ e s' I c => tk e s' (XE.of_call I (fun cls d H' h => hW cls d σ H' I.len h) c)) ha hdb he hpl

theorem Cg.wt_pos : ∀ t : Cg, 1 ≤ t.wt
  | .l _ => Nat.le_refl _
  | .v _ => Nat.le_refl _
  | .ap f a => by have := Cg.wt_pos f; rw [Cg.wt]; omega
theorem Cg.un_inj {h h' : Cg} : ∀ {r : List Cg}, Cg.un h r = Cg.un h' r → h = h' := fun {r} => by
  induction r generalizing h h' with
  | nil => exact id
  | cons a r ih => intro z; exact (Cg.ap.inj (ih (h := .ap h a) (h' := .ap h' a) z)).1
theorem Cg.rule_ne {h u : Cg} {r : List Cg} (hr : Cg.rule h r = some u) : u ≠ Cg.un h (r.take h.need) := fun z => by
  unfold Cg.rule at hr
  split at hr
  · cases hr
    have := congrArg Cg.wt (show u = Cg.ap (.l .I) u from z)
    rw [show (Cg.ap (.l .I) u).wt = 1 + u.wt from rfl] at this; omega
  · rename_i y _
    cases hr
    have := congrArg Cg.wt (show u = Cg.ap (.ap (.l .K) u) y from z)
    have p1 := Cg.wt_pos y
    simp only [Cg.wt] at this; omega
  · rename_i f g x _
    cases hr
    have := congrArg Cg.wt (Cg.ap.inj (show Cg.ap (.ap f x) (.ap g x) = Cg.ap (.ap (.ap (.l .S) f) g) x from z)).2
    have p1 := Cg.wt_pos g
    simp only [Cg.wt] at this; omega
  · rename_i f g x _
    cases hr
    have := congrArg Cg.wt (Cg.ap.inj (show Cg.ap f (.ap g x) = Cg.ap (.ap (.ap (.l .B) f) g) x from z)).2
    have p1 := Cg.wt_pos g
    simp only [Cg.wt] at this; omega
  · rename_i f g x _
    cases hr
    have := congrArg Cg.wt (show Cg.ap (.ap f x) g = Cg.ap (.ap (.ap (.l .C) f) g) x from z)
    simp only [Cg.wt] at this; omega
  · cases hr
theorem Cg.step_ne : ∀ {t u : Cg}, t.step = some u → u ≠ t
  | .ap f a, u, h => by
    rw [Cg.step] at h
    cases hr : Cg.red (.ap f a) with
    | some w =>
      rw [hr] at h
      cases h
      generalize Cg.ap f a = t at hr
      unfold Cg.red at hr
      by_cases hc : 0 < t.hd.1.need ∧ t.hd.1.need ≤ t.hd.2.length
      · rw [if_pos hc] at hr
        obtain ⟨w, hw, rfl⟩ := Option.map_eq_some_iff.mp hr
        intro z
        have h3 : Cg.un (Cg.un t.hd.1 (t.hd.2.take t.hd.1.need)) (t.hd.2.drop t.hd.1.need) = t := by
          have := Cg.un_hd t
          unfold Cg.un at this ⊢
          rw [← List.foldl_append, List.take_append_drop]
          exact this
        exact Cg.rule_ne hw (Cg.un_inj (z.trans h3.symm))
      · rw [if_neg hc] at hr; cases hr
    | none =>
      rw [hr] at h
      dsimp only at h
      cases hf : f.step with
      | some f' =>
        rw [hf] at h
        cases h
        exact fun z => Cg.step_ne hf (Cg.ap.inj z).1
      | none =>
        rw [hf] at h
        obtain ⟨a', ha, rfl⟩ := Option.map_eq_some_iff.mp h
        exact fun z => Cg.step_ne ha (Cg.ap.inj z).2
theorem Cg.data_eqv : ∀ {t u : Cg}, PyData.eqv t.data u.data = decide (t = u) := fun {t u} => by
  induction t generalizing u with
  | l k =>
    cases u with
    | l k' => simp only [Cg.data, PyData.eqv]; cases k <;> cases k' <;> decide +kernel
    | v x => simp [Cg.data, PyData.eqv]
    | ap g b => simp [Cg.data, PyData.eqv]
  | v x =>
    cases u with
    | l k' => simp [Cg.data, PyData.eqv]
    | v y => simp [Cg.data, PyData.eqv, PyData.eqvAll]; rw [Bool.eq_iff_iff]; simp
    | ap g b =>
      have h1 : PyData.eqv (.str "var") g.data = false := by
        cases g with
        | l k => cases k <;> decide +kernel
        | v _ => rfl
        | ap _ _ => rfl
      have h2 : PyData.eqv (Cg.v x).data (Cg.ap g b).data = (PyData.eqv (.str "var") g.data && PyData.eqvAll [.str x] [b.data]) := by
        show PyData.eqv (.tuple [.str "var", .str x]) (.tuple [g.data, b.data]) = _
        rw [Fm.eqv_tup, PyData.eqvAll]
      rw [h2, h1, decide_eq_false (fun z => nomatch z)]
      rfl
  | ap f a ihf iha =>
    cases u with
    | l k' => simp [Cg.data, PyData.eqv]
    | v y => exact Cg.eqv_v _ y
    | ap g b =>
      simp only [Cg.data, PyData.eqv, PyData.eqvAll, ihf, iha, Bool.and_true]
      rw [Bool.eq_iff_iff]
      simp
abbrev s_look_rows : Stmt := top 30
abbrev n_look_rows : List Str := ["rows", "k"]
theorem sc_look_rows : FnScope n_look_rows ["rows"] (defScope s_look_rows) := ⟨rfl, rfl, rfl, by decide +kernel, rfl, by decide +kernel, by decide +kernel⟩
def spLk15 (K : PySem.W.Frag) (aX : Addr) : Sp := fun vs H Q E => ∃ R ws ts, vs = [.ref R] ∧ H R = some (.lst ws) ∧ TdAll K H ws (ts.map Cg.data) ∧ ts.length ≤ 10 ∧ (∀ t ∈ ts, t.Ok ∧ t.dep ≤ 100) ∧
  (((∀ (i : Nat) (t u : Cg), ts[i]? = some t → ts[i + 1]? = some u → t.step = some u) ∧ ∀ H', Ext [] H H' → Q .non H') ∨ (∃ t u r, ts = t :: u :: r ∧ t.step ≠ some u ∧ ∀ d H', Ext [] H H' → H' d = some (.xd [("part", .int 1)]) → E (.ref aX) (some d) H'))
theorem ok_lk15 (F : Dn K mg "look_rows" s_look_rows f fd c) (B : Bl mg) (X_BadPaper : Xi P w K mg base "BadPaper" aX "part") (G_step0 : Cal P w K mg base 110 "step" (spStC K 110)) : CalX P w K mg base 111 "look_rows" (spLk15 K aX) := by
  have G_step := G_step0
  refine F.calX (ps := ["rows"]) (fun _ _ _ _ _ _ us hl => match us, hl with | [_], _ => rfl) sc_look_rows (fun vs H Q E h => ?_) (fun A outer s H vs Q E hr h => ?_)
  · obtain ⟨_, _, _, rfl, _⟩ := h; rfl
  obtain ⟨R, ws, ts, rfl, hR, hws, hl, hts, h⟩ := h
  refine ⟨_, (pss_one (ps_forF (passes_of rfl) rfl (pi_range2 (by rfl) B.b_range (pa_cons pe_int (pa_cons (pe_callB call_lenL (by rfl) B.b_len (by decide +kernel) (pa_cons (pv 0) pa_nil)) pa_nil))) (pg_name (i := 1) sc_look_rows.nd rfl (by first | exact Or.inl rfl | exact Or.inr rfl)) (pss_one (ps_if (pt_cmpR (op_neQ K (unitsQ hr)) (C8.pe_c G_step hr (by omega) (by rfl) (pa_cons (pe_ix ix_lstF (pv 0) (pe_op op_sub (pv 1) pe_int) (fun _ _ => rfl)) pa_nil)) (pe_ix ix_lstF (pv 0) (pv 1) (fun _ _ => rfl)) (nomark _)) (pss_one (ps_raiseI (k := 0) X_BadPaper (hr.mono (by omega)) C8.pass0 (takes_of rfl rfl rfl rfl) (pv 1))) pss_nil)))), ?_⟩
  walk_at "rd"
  have hlw := hws.length
  rw [List.length_map] at hlw
  refine ⟨_, hR, _, _, ⟨rfl, rfl⟩, ⟨by decide, by decide, by omega, by omega⟩, ?_⟩
  rw [show ((ws.length : Int) - 1).toNat = ts.length - 1 by omega]
  have one : ∀ (i : Nat) (H2 : Hp), i < ts.length - 1 → Ext [] H H2 → ∃ (x y : V) (t u : Cg), ws[i]? = some x ∧ ws[i + 1]? = some y ∧ ts[i]? = some t ∧ ts[i + 1]? = some u ∧ Td K H2 x t.data ∧ Td K H2 y u.data ∧ t.Ok ∧ t.dep ≤ 100 ∧ u.Ok ∧ u.dep ≤ 100 := fun i H2 hi e2 => by
    have h1 : i < ws.length := by omega
    have h2 : i + 1 < ws.length := by omega
    obtain ⟨d1, a1, b1⟩ := (hws.ext e2).get (List.getElem?_eq_getElem h1)
    obtain ⟨d2, a2, b2⟩ := (hws.ext e2).get (List.getElem?_eq_getElem h2)
    rw [List.getElem?_map] at a1 a2
    obtain ⟨t, t1, rfl⟩ := Option.map_eq_some_iff.mp a1
    obtain ⟨u, u1, rfl⟩ := Option.map_eq_some_iff.mp a2
    have k1 := hts t (List.mem_of_getElem? t1)
    have k2 := hts u (List.mem_of_getElem? u1)
    exact ⟨_, _, t, u, List.getElem?_eq_getElem h1, List.getElem?_eq_getElem h2, t1, u1, b1, b2, k1.1, k1.2, k2.1, k2.2⟩
  rcases h with ⟨hall, q⟩ | ⟨t0, u0, r0, rfl, hne, hE⟩
  · refine for_go walk_range (fun i σ' H' => (∃ y1, σ' = [some (.ref R), y1]) ∧ Ext [] H H') ⟨⟨_, rfl⟩, Ext.refl _ _⟩ (fun _ _ _ _ _ => trivial) (fun i x σ' H2 H2' hi ⟨⟨y1, hσ⟩, e2⟩ yy => ?_) fun σ' H2 ⟨⟨y1, hσ⟩, e2⟩ => ?_
    · obtain ⟨rfl, rfl⟩ := yy
      subst hσ
      obtain ⟨x, y, t, u, x1, y1', t1, u1, dx, dy, ok1, dp1, ok2, dp2⟩ := one i H2' hi e2
      walk_at "rd"
      refine ⟨_, e2.lst0 hR, x, by rw [show (1 : Int) + (i : Nat) - 1 = (i : Nat) by omega]; exact atI_nat x1, x, t, rfl, dx, ok1, by omega, by omega, fun v3 H3 e3 hm => ?_⟩
      rw [hall i t u t1 u1] at hm
      have hm : Td K H3 v3 u.data := hm
      refine ⟨_, e3.lst0 (e2.lst0 hR), y, by rw [show (1 : Int) + (i : Nat) = ((i + 1 : Nat) : Int) by omega]; exact atI_nat y1', ?_⟩
      refine ⟨_, hm, _, dy.ext e3, Cg.deep ok2 (by omega), Cg.deep ok2 (by omega), ?_⟩
      rw [if_neg (by rw [Cg.data_eqv]; simp)]
      exact ⟨⟨_, rfl⟩, e2.trans e3⟩
    · subst hσ
      walk_at "rd"
      exact q H2 e2
  · have h0 : 0 < (t0 :: u0 :: r0).length - 1 := by simp
    refine for_go walk_range (fun i σ' H' => i = 0 ∧ (∃ y1, σ' = [some (.ref R), y1]) ∧ H' = H) ⟨rfl, ⟨_, rfl⟩, rfl⟩ (fun _ _ _ _ _ => trivial) (fun i x σ' H2 H2' hi ⟨hi0, ⟨y1, hσ⟩, hH⟩ yy => ?_) fun σ' H2 ⟨hi0, _⟩ => by omega
    obtain ⟨rfl, rfl⟩ := yy
    subst hσ hi0 hH
    obtain ⟨x, y, t, u, x1, y1', t1, u1, dx, dy, ok1, dp1, ok2, dp2⟩ := one 0 H2' h0 (Ext.refl _ _)
    cases t1
    cases u1
    walk_at "rd"
    refine ⟨_, hR, x, atI_nat (j := 0) x1, x, t0, rfl, dx, ok1, by omega, by omega, fun v3 H3 e3 hm => ?_⟩
    refine ⟨_, e3.lst0 hR, y, atI_nat (j := 1) y1', ?_⟩
    cases hs : t0.step with
    | none =>
      rw [hs] at hm
      subst hm
      refine ⟨.none, .non, _, dy.ext e3, ⟨rfl, by decide⟩, Cg.deep ok2 (by omega), ?_⟩
      have : PyData.eqv .none u0.data = false := by cases u0 <;> rfl
      rw [if_pos (by rw [this]; rfl)]
      exact fun d H4 n4 e4 h4 => hE d H4 (e3.trans e4) h4
    | some u' =>
      rw [hs] at hm
      have hm : Td K H3 v3 u'.data := hm
      obtain ⟨i1, i2⟩ := Cg.step_dep hs ok1
      refine ⟨_, hm, _, dy.ext e3, Cg.deep i2 (by omega), Cg.deep ok2 (by omega), ?_⟩
      rw [if_pos (by rw [Cg.data_eqv]; simp; exact fun z => hne (by rw [hs, z]))]
      exact fun d H4 n4 e4 h4 => hE d H4 (e3.trans e4) h4
abbrev s__law_part : Stmt := top 46
abbrev n__law_part : List Str := ["rows", "e"]
theorem sc__law_part : FnScope n__law_part ["rows"] (defScope s__law_part) := ⟨rfl, rfl, rfl, by decide +kernel, rfl, by decide +kernel, by decide +kernel⟩
def spPart15 (K : PySem.W.Frag) : Sp := fun vs H Q _ => ∃ R ws ts, vs = [.ref R] ∧ H R = some (.lst ws) ∧ TdAll K H ws (ts.map Cg.data) ∧ ts.length ≤ 10 ∧ (∀ t ∈ ts, t.Ok ∧ t.dep ≤ 100) ∧
  (((∀ (i : Nat) (t u : Cg), ts[i]? = some t → ts[i + 1]? = some u → t.step = some u) ∧ ∀ H', Ext [] H H' → Q (.str "right") H') ∨ (∃ t u r, ts = t :: u :: r ∧ t.step ≠ some u ∧ ∀ H', Ext [] H H' → Q (.int 1) H'))
theorem ok_part15 (F : Dn K mg "_law_part" s__law_part f fd c) (B : Bl mg) (gX : mg "BadPaper" = some (.ref aX)) (XF : XfC K aX) (hno : PySem.W.findIn K (.ref aX) "part" = some none) (exX : PySem.W.exmOne K (.ref aX) (.ref aX) = some true) (G_look_rows : CalX P w K mg base 111 "look_rows" (spLk15 K aX)) : Cal P w K mg base 112 "_law_part" (spPart15 K) := by
  refine F.cal (ps := ["rows"]) (fun _ _ _ _ _ _ us hl => match us, hl with | [_], _ => rfl) sc__law_part (fun vs H Q E h => ?_) (fun A outer s H vs Q E hr h => ?_)
  · obtain ⟨_, _, _, rfl, _⟩ := h; rfl
  obtain ⟨R, ws, ts, rfl, hR, hws, hl, hts, h⟩ := h
  refine ⟨_, pss_cons (ps_try_as (X := CxD P w K mg base n__law_part "_law_part" s__law_part f c A outer s H E) (n := "e") (i := 1)
      (tb := fun W D σ H => ∃ Ech : XK, (∀ cls d (σ' : L2.St) H', σ'.length = 2 → Ech cls d H' → W cls d σ' H') ∧ (tDrop (tCall (spLk15 K aX) [] Ech (tCons (tVar 0) tNil))) D σ H)
      (ts := fun a cls d => tRet (tXf a cls d aX "part" (tVar 1))) (c := .ref aX) rfl rfl sc__law_part.nd rfl rfl ⟨rfl, by decide, .inl gX⟩ LamX.takes0 (fun W pn xe tk _ => ⟨fun pins s' σ H' D I ⟨Ech, hW, h⟩ =>
        (pss_one (ps_expr (pe_cXN40 G_look_rows hr (by omega) tk hW (by rfl) (pa_cons (pv 0) pa_nil)))).run pins s' σ H' D I h⟩)
      (fun a oe cls d pn hz hf => pss_one (ps_ret (pe_xf XF hno hz hf (pv 1))))) (pss_one (ps_ret pe_str)), ?_⟩
  refine ⟨fun cls d H' => cls = .ref aX ∧ ∃ (dd : Addr), d = some dd ∧ H' dd = some (.xd [("part", .int 1)]) ∧ Q (.int 1) H', fun cls d σ' H' hl ⟨e, dd, ed, hd, hq⟩ => ?_, ?_⟩
  · subst e
    subst ed
    refine ⟨true, exX, fun _ a na => ?_, fun y => absurd y (by decide)⟩
    walk_at "rd"
    have hg : (σ'.set 1 (some (V.ref a)))[1]? = some (some (.ref a)) := by rw [List.getElem?_set_self (by omega)]
    exact ⟨.ref a, hg, rfl, rfl, dd, _, _, rfl, hd, rfl, hq⟩
  · walk_at "rd"
    refine ⟨R, ws, ts, rfl, hR, hws, hl, hts, ?_⟩
    rcases h with ⟨h1, q⟩ | ⟨t, u, r, h1, h2, q⟩
    · exact .inl ⟨h1, fun H' e1 => q H' e1⟩
    · exact .inr ⟨t, u, r, h1, h2, fun d H' e1 hd => ⟨rfl, d, rfl, hd, q H' e1⟩⟩
abbrev s__law_put : Stmt := top 44
abbrev n__law_put : List Str := ["thing", "name", "other"]
theorem sc__law_put : FnScope n__law_put ["thing", "name", "other"] (defScope s__law_put) := ⟨rfl, rfl, rfl, by decide +kernel, rfl, by decide +kernel, by decide +kernel⟩
def spLput (K : PySem.W.Frag) (k : Nat) : Sp := fun vs H Q _ => ∃ (v vo : V) (t o : Cg) (x : Str), vs = [v, .str x, vo] ∧ Td K H v t.data ∧ Td K H vo o.data ∧ t.Ok ∧ PyData.strOk x = true ∧ t.dep + 1 ≤ k ∧ t.dep ≤ 150 ∧ ∀ v' H', Ext [] H H' → Td K H' v' (t.put x o).data → Q v' H'
theorem ok_lput (F : Dn K mg "_law_put" s__law_put f fd c) (B : Bl mg) : ∀ k, Cal P w K mg base k "_law_put" (spLput K k) := by
  refine F.calRec (ps := ["thing", "name", "other"]) (fun _ _ _ _ _ _ us hl => match us, hl with | [_, _, _], _ => rfl) (fun vs H Q E ⟨v, vo, t, o, x, _, _, _, _, _, h, _⟩ => by omega) fun k G__law_put => ?_
  refine F.ok sc__law_put (fun vs H Q E h => ?_) (fun A outer s H vs Q E hr h => ?_)
  · obtain ⟨_, _, _, _, _, rfl, _⟩ := h; rfl
  obtain ⟨v, vo, t, o, x, rfl, ht, ho, hok, hx, hk, hd, q⟩ := h
  refine ⟨_, (pss_cons (ps_if (pt_cmpR (op_eqQ K (unitsQ hr)) (pv 0) (pe_tupK K (pa_cons pe_str (pa_cons (pv 1) pa_nil))) (nomark _)) (pss_one (ps_ret (pv 2))) pss_nil)
    (pss_cons (ps_if (PW.pt (pw_or (pt_val (pe_callB (call_isStr K) (by rfl) B.b_isinstance (by decide +kernel) (pa_cons (pv 0) (pa_cons (pe_bltn (v := .ty "str") (u := .type "str") (by rfl) B.b_str (by decide +kernel) rfl) pa_nil)))) (pw_or1 (pt_cmpR (op_eqQ K (unitsQ hr)) (pe_ix (ix_tupK K) (pv 0) pe_int (fun _ _ => rfl)) pe_str (nomark _))))) (pss_one (ps_ret (pv 0))) pss_nil)
    (pss_one (ps_ret (pe_tupK K (pa_cons (C8.pe_c G__law_put hr (by omega) (by rfl) (pa_cons (pe_ix (ix_tupK K) (pv 0) pe_int (fun _ _ => rfl)) (pa_cons (pv 1) (pa_cons (pv 2) pa_nil)))) (pa_cons (C8.pe_c G__law_put hr (by omega) (by rfl) (pa_cons (pe_ix (ix_tupK K) (pv 0) pe_int (fun _ _ => rfl)) (pa_cons (pv 1) (pa_cons (pv 2) pa_nil)))) pa_nil))))))), ?_⟩
  walk_at "rd"
  have hv : DeepD (Cg.v x).data := Cg.deep hx (by show 2 ≤ 170; decide)
  refine ⟨by decide, fun p1 H1 e1 h1 => ⟨_, ht.ext e1, (Cg.v x).data, .tup h1 (.cons (.str _) (.cons (.str _) .nil)), Cg.deep hok (by omega), hv, ?_⟩⟩
  rw [Cg.eqv_v]
  have ht1 := ht.ext e1
  have ho1 := ho.ext e1
  by_cases hv0 : t = .v x
  · rw [if_pos (by rw [hv0]; simp)]
    refine q _ H1 e1 ?_
    rw [hv0]
    show Td K H1 vo (if x = x then o else Cg.v x).data
    rw [if_pos rfl]
    exact ho1
  rw [if_neg (by simpa using hv0)]
  refine ⟨_, ht1, ?_⟩
  cases t with
  | l k2 =>
    rw [if_pos (by rfl)]
    exact q _ H1 e1 ht1
  | v y =>
    have hy : y ≠ x := fun z => hv0 (by rw [z])
    rw [if_neg (by exact Bool.false_ne_true)]
    obtain ⟨p, rfl, hp⟩ := cg_v ht1
    refine ⟨p, rfl, _, hp, _, atI_0, _, .str _, _, .str _, strvar, strvar, ?_⟩
    rw [if_pos (by decide +kernel)]
    refine q _ H1 e1 ?_
    show Td K H1 _ (if y = x then o else Cg.v y).data
    rw [if_neg hy]
    exact ht1
  | ap g a =>
    rw [if_neg (by exact Bool.false_ne_true)]
    obtain ⟨p, u, w2, rfl, hp, hu, hw⟩ := cg_ap ht1
    rw [Cg.dep] at hk hd
    refine ⟨p, rfl, _, hp, _, atI_0, _, hu, _, .str _, Cg.deep hok.1 (by omega), strvar, ?_⟩
    rw [if_neg (by rw [Cg.eqv_var]; decide)]
    refine ⟨p, rfl, _, hp, _, atI_0, u, vo, g, o, x, rfl, hu, ho1, hok.1, hx, by omega, by omega, fun v2 H2 e2 d2 => ?_⟩
    refine ⟨p, rfl, _, tupF_ext e2 hp, _, atI_1, w2, vo, a, o, x, rfl, hw.ext e2, ho1.ext e2, hok.2, hx, by omega, by omega, fun v3 H3 e3 d3 => ⟨by decide, fun p4 H4 e4 h4 => ?_⟩⟩
    exact q _ H4 (e1.trans (e2.trans (e3.trans e4))) (.tup h4 (.cons (d2.ext (e3.trans e4)) (.cons (d3.ext e4) .nil)))
abbrev s__law_thing : Stmt := top 45
abbrev n__law_thing : List Str := ["dice", "deep"]
theorem sc__law_thing : FnScope n__law_thing ["dice", "deep"] (defScope s__law_thing) := ⟨rfl, rfl, rfl, by decide +kernel, rfl, by decide +kernel, by decide +kernel⟩
def Cg.In : Cg → Nat → Prop
  | .l _, _ => True
  | .v x, _ => x = "y" ∨ x = "z"
  | .ap f a, D => ∃ e, D = e + 1 ∧ f.In e ∧ a.In e
def spThing (K : PySem.W.Frag) (k : Nat) : Sp := fun vs H Q _ => ∃ dd D, vs = [.ref dd, .int (D : Nat)] ∧ DiceAt H dd ∧ D + 2 ≤ k ∧ ∀ v (t : Cg) H', Ext [dd] H H' → DiceAt H' dd → t.In D → Td K H' v t.data → Q v H'
theorem ok_thing15 (F : Dn K mg "_law_thing" s__law_thing f fd c) (B : Bl mg) (G__law_roll0 : Cal P w K mg base 1 "_law_roll" spRoll) : ∀ k, Cal P w K mg base k "_law_thing" (spThing K k) := by
  refine F.calRec (ps := ["dice", "deep"]) (fun _ _ _ _ _ _ us hl => match us, hl with | [_, _], _ => rfl) (fun vs H Q E ⟨_, _, _, _, h, _⟩ => by omega) fun k G__law_thing => ?_
  by_cases hk : k < 1
  · exact ⟨fun vs H Q E ⟨_, _, _, _, h, _⟩ => by omega, fun A outer s H args us vs Q E _ _ _ _ ⟨_, _, _, _, h, _⟩ => by omega⟩
  have G__law_roll := G__law_roll0.mono (k := k) (by omega)
  refine F.ok sc__law_thing (fun vs H Q E h => ?_) (fun A outer s H vs Q E hr h => ?_)
  · obtain ⟨_, _, rfl, _⟩ := h; rfl
  obtain ⟨dd, D, rfl, hd, hD, q⟩ := h
  refine ⟨_, (pss_cons (ps_if (PW.pt (pw_or (pt_cmpR op_eq (pv 1) pe_int (nomark _)) (pw_or1 (pt_cmpR op_eq (C8.pe_c G__law_roll hr (by omega) (by rfl) (pa_cons (pv 0) (pa_cons pe_int pa_nil))) pe_int (nomark _))))) (pss_one (ps_ret (pe_ix ix_lstF (pe_lstF (pa_cons pe_str (pa_cons pe_str (pa_cons pe_str (pa_cons pe_str (pa_cons pe_str (pa_cons (pe_tupK K (pa_cons pe_str (pa_cons pe_str pa_nil))) (pa_cons (pe_tupK K (pa_cons pe_str (pa_cons pe_str pa_nil))) pa_nil)))))))) (C8.pe_c G__law_roll hr (by omega) (by rfl) (pa_cons (pv 0) (pa_cons pe_int pa_nil))) (fun _ _ => rfl)))) pss_nil)
    (pss_one (ps_ret (pe_tupK K (pa_cons (C8.pe_c G__law_thing hr (by omega) (by rfl) (pa_cons (pv 0) (pa_cons (pe_op op_sub (pv 1) pe_int) pa_nil))) (pa_cons (C8.pe_c G__law_thing hr (by omega) (by rfl) (pa_cons (pv 0) (pa_cons (pe_op op_sub (pv 1) pe_int) pa_nil))) pa_nil)))))), ?_⟩
  walk_at "rd"
  by_cases hD0 : (D : Int) = 0
  · rw [if_pos hD0]
    refine ⟨by decide, fun p1 H1 e1 h1 => ⟨by decide, fun p2 H2 e2 h2 => ⟨by decide, fun R3 H3 n3 e3 h3 => ?_⟩⟩⟩
    have e13 := e1.trans (e2.trans e3)
    refine ⟨dd, 7, rfl, hd.ext0 e13, by decide, by decide, fun r H4 r0 r7 e4 hd4 => ?_⟩
    obtain ⟨n, rfl⟩ := Int.eq_ofNat_of_zero_le r0
    have n7 : n < 7 := by omega
    have hR4 : H4 R3 = some (.lst [.str "S", .str "K", .str "I", .str "B", .str "C", .ref p1, .ref p2]) := e4.lst h3 (fun z => by
      obtain ⟨_, _, _, w⟩ := (hd.ext0 (e1.trans e2) : DiceAt H2 dd)
      rw [List.mem_singleton.mp z, w] at n3; cases n3)
    have tY : Td K H4 (.ref p1) (Cg.v "y").data := .tup (tupF_ext e4 (tupF_ext (e2.trans e3) h1)) (.cons (.str _) (.cons (.str _) .nil))
    have tZ : Td K H4 (.ref p2) (Cg.v "z").data := .tup (tupF_ext e4 (tupF_ext e3 h2)) (.cons (.str _) (.cons (.str _) .nil))
    have eH : Ext [dd] H H4 := (Ext.refl [dd] H).trans (e13.any.trans e4)
    have leafs : ∃ (x : V) (t : Cg), ([.str "S", .str "K", .str "I", .str "B", .str "C", .ref p1, .ref p2] : List V)[n]? = some x ∧ Td K H4 x t.data ∧ t.In D := by
      match n, n7 with
      | 0, _ => exact ⟨_, .l .S, rfl, .str _, trivial⟩
      | 1, _ => exact ⟨_, .l .K, rfl, .str _, trivial⟩
      | 2, _ => exact ⟨_, .l .I, rfl, .str _, trivial⟩
      | 3, _ => exact ⟨_, .l .B, rfl, .str _, trivial⟩
      | 4, _ => exact ⟨_, .l .C, rfl, .str _, trivial⟩
      | 5, _ => exact ⟨_, .v "y", rfl, tY, .inl rfl⟩
      | 6, _ => exact ⟨_, .v "z", rfl, tZ, .inr rfl⟩
    obtain ⟨x, t, hx, htx, hin⟩ := leafs
    exact ⟨_, _, rfl, hR4, x, atI_nat hx, q x t H4 eH hd4 hin htx⟩
  rw [if_neg hD0]
  refine ⟨dd, 3, rfl, hd, by decide, by decide, fun r0 H0 _ _ e0 hd0 => ?_⟩
  dsimp only
  refine ⟨rfl, ?_⟩
  by_cases hr0 : V.int r0 = V.int 0
  · rw [if_pos hr0]
    refine ⟨by decide, fun p1 H1 e1 h1 => ⟨by decide, fun p2 H2 e2 h2 => ⟨by decide, fun R3 H3 n3 e3 h3 => ?_⟩⟩⟩
    have e13 := e1.trans (e2.trans e3)
    refine ⟨dd, 7, rfl, hd0.ext0 e13, by decide, by decide, fun r H4 r0 r7 e4 hd4 => ?_⟩
    obtain ⟨n, rfl⟩ := Int.eq_ofNat_of_zero_le r0
    have n7 : n < 7 := by omega
    have hR4 : H4 R3 = some (.lst [.str "S", .str "K", .str "I", .str "B", .str "C", .ref p1, .ref p2]) := e4.lst h3 (fun z => by
      obtain ⟨_, _, _, w⟩ := (hd0.ext0 (e1.trans e2) : DiceAt H2 dd)
      rw [List.mem_singleton.mp z, w] at n3; cases n3)
    have tY : Td K H4 (.ref p1) (Cg.v "y").data := .tup (tupF_ext e4 (tupF_ext (e2.trans e3) h1)) (.cons (.str _) (.cons (.str _) .nil))
    have tZ : Td K H4 (.ref p2) (Cg.v "z").data := .tup (tupF_ext e4 (tupF_ext e3 h2)) (.cons (.str _) (.cons (.str _) .nil))
    have eH : Ext [dd] H H4 := e0.trans (e13.any.trans e4)
    have leafs : ∃ (x : V) (t : Cg), ([.str "S", .str "K", .str "I", .str "B", .str "C", .ref p1, .ref p2] : List V)[n]? = some x ∧ Td K H4 x t.data ∧ t.In D := by
      match n, n7 with
      | 0, _ => exact ⟨_, .l .S, rfl, .str _, trivial⟩
      | 1, _ => exact ⟨_, .l .K, rfl, .str _, trivial⟩
      | 2, _ => exact ⟨_, .l .I, rfl, .str _, trivial⟩
      | 3, _ => exact ⟨_, .l .B, rfl, .str _, trivial⟩
      | 4, _ => exact ⟨_, .l .C, rfl, .str _, trivial⟩
      | 5, _ => exact ⟨_, .v "y", rfl, tY, .inl rfl⟩
      | 6, _ => exact ⟨_, .v "z", rfl, tZ, .inr rfl⟩
    obtain ⟨x, t, hx, htx, hin⟩ := leafs
    exact ⟨_, _, rfl, hR4, x, atI_nat hx, q x t H4 eH hd4 hin htx⟩
  rw [if_neg hr0]
  obtain ⟨D, rfl⟩ : ∃ E, D = E + 1 := ⟨D - 1, by omega⟩
  rw [show (((D + 1 : Nat) : Int) - 1) = (D : Nat) by push_cast; omega]
  refine ⟨dd, D, rfl, hd0, by omega, fun v1 t1 H1 e1 hd1 i1 d1 => ⟨dd, D, rfl, hd1, by omega, fun v2 t2 H2 e2 hd2 i2 d2 => ⟨by decide, fun p3 H3 e3 h3 => ?_⟩⟩⟩
  exact q _ (.ap t1 t2) H3 (e0.trans (e1.trans (e2.trans e3.any))) (hd2.ext0 e3) ⟨D, rfl, i1, i2⟩ (.tup h3 (.cons ((d1.ext e2).ext e3) (.cons (d2.ext e3) .nil)))
end
end Sq
set_option Elab.async false
set_option linter.all false
set_option maxRecDepth 100000
set_option maxHeartbeats 4000000
namespace Sq
open PySem PySem.Spec PyProof.Rows L2
theorem b3_len : (bares 3 []).length = 51 := by decide +kernel
theorem ap_0 : (bares 3 []).all (fun u => fine15 (.app ((bares 3 []).getD 0 (.var "")) u)) = true := by decide +kernel
theorem ap_1 : (bares 3 []).all (fun u => fine15 (.app ((bares 3 []).getD 1 (.var "")) u)) = true := by decide +kernel
theorem ap_2 : (bares 3 []).all (fun u => fine15 (.app ((bares 3 []).getD 2 (.var "")) u)) = true := by decide +kernel
theorem ap_3 : (bares 3 []).all (fun u => fine15 (.app ((bares 3 []).getD 3 (.var "")) u)) = true := by decide +kernel
theorem ap_4 : (bares 3 []).all (fun u => fine15 (.app ((bares 3 []).getD 4 (.var "")) u)) = true := by decide +kernel
theorem ap_5 : (bares 3 []).all (fun u => fine15 (.app ((bares 3 []).getD 5 (.var "")) u)) = true := by decide +kernel
theorem ap_6 : (bares 3 []).all (fun u => fine15 (.app ((bares 3 []).getD 6 (.var "")) u)) = true := by decide +kernel
theorem ap_7 : (bares 3 []).all (fun u => fine15 (.app ((bares 3 []).getD 7 (.var "")) u)) = true := by decide +kernel
theorem ap_8 : (bares 3 []).all (fun u => fine15 (.app ((bares 3 []).getD 8 (.var "")) u)) = true := by decide +kernel
theorem ap_9 : (bares 3 []).all (fun u => fine15 (.app ((bares 3 []).getD 9 (.var "")) u)) = true := by decide +kernel
theorem ap_10 : (bares 3 []).all (fun u => fine15 (.app ((bares 3 []).getD 10 (.var "")) u)) = true := by decide +kernel
theorem ap_11 : (bares 3 []).all (fun u => fine15 (.app ((bares 3 []).getD 11 (.var "")) u)) = true := by decide +kernel
theorem ap_12 : (bares 3 []).all (fun u => fine15 (.app ((bares 3 []).getD 12 (.var "")) u)) = true := by decide +kernel
theorem ap_13 : (bares 3 []).all (fun u => fine15 (.app ((bares 3 []).getD 13 (.var "")) u)) = true := by decide +kernel
theorem ap_14 : (bares 3 []).all (fun u => fine15 (.app ((bares 3 []).getD 14 (.var "")) u)) = true := by decide +kernel
theorem ap_15 : (bares 3 []).all (fun u => fine15 (.app ((bares 3 []).getD 15 (.var "")) u)) = true := by decide +kernel
theorem ap_16 : (bares 3 []).all (fun u => fine15 (.app ((bares 3 []).getD 16 (.var "")) u)) = true := by decide +kernel
theorem ap_17 : (bares 3 []).all (fun u => fine15 (.app ((bares 3 []).getD 17 (.var "")) u)) = true := by decide +kernel
theorem ap_18 : (bares 3 []).all (fun u => fine15 (.app ((bares 3 []).getD 18 (.var "")) u)) = true := by decide +kernel
theorem ap_19 : (bares 3 []).all (fun u => fine15 (.app ((bares 3 []).getD 19 (.var "")) u)) = true := by decide +kernel
theorem ap_20 : (bares 3 []).all (fun u => fine15 (.app ((bares 3 []).getD 20 (.var "")) u)) = true := by decide +kernel
theorem ap_21 : (bares 3 []).all (fun u => fine15 (.app ((bares 3 []).getD 21 (.var "")) u)) = true := by decide +kernel
theorem ap_22 : (bares 3 []).all (fun u => fine15 (.app ((bares 3 []).getD 22 (.var "")) u)) = true := by decide +kernel
theorem ap_23 : (bares 3 []).all (fun u => fine15 (.app ((bares 3 []).getD 23 (.var "")) u)) = true := by decide +kernel
theorem ap_24 : (bares 3 []).all (fun u => fine15 (.app ((bares 3 []).getD 24 (.var "")) u)) = true := by decide +kernel
theorem ap_25 : (bares 3 []).all (fun u => fine15 (.app ((bares 3 []).getD 25 (.var "")) u)) = true := by decide +kernel
theorem ap_26 : (bares 3 []).all (fun u => fine15 (.app ((bares 3 []).getD 26 (.var "")) u)) = true := by decide +kernel
theorem ap_27 : (bares 3 []).all (fun u => fine15 (.app ((bares 3 []).getD 27 (.var "")) u)) = true := by decide +kernel
theorem ap_28 : (bares 3 []).all (fun u => fine15 (.app ((bares 3 []).getD 28 (.var "")) u)) = true := by decide +kernel
theorem ap_29 : (bares 3 []).all (fun u => fine15 (.app ((bares 3 []).getD 29 (.var "")) u)) = true := by decide +kernel
theorem ap_30 : (bares 3 []).all (fun u => fine15 (.app ((bares 3 []).getD 30 (.var "")) u)) = true := by decide +kernel
theorem ap_31 : (bares 3 []).all (fun u => fine15 (.app ((bares 3 []).getD 31 (.var "")) u)) = true := by decide +kernel
theorem ap_32 : (bares 3 []).all (fun u => fine15 (.app ((bares 3 []).getD 32 (.var "")) u)) = true := by decide +kernel
theorem ap_33 : (bares 3 []).all (fun u => fine15 (.app ((bares 3 []).getD 33 (.var "")) u)) = true := by decide +kernel
theorem ap_34 : (bares 3 []).all (fun u => fine15 (.app ((bares 3 []).getD 34 (.var "")) u)) = true := by decide +kernel
theorem ap_35 : (bares 3 []).all (fun u => fine15 (.app ((bares 3 []).getD 35 (.var "")) u)) = true := by decide +kernel
theorem ap_36 : (bares 3 []).all (fun u => fine15 (.app ((bares 3 []).getD 36 (.var "")) u)) = true := by decide +kernel
theorem ap_37 : (bares 3 []).all (fun u => fine15 (.app ((bares 3 []).getD 37 (.var "")) u)) = true := by decide +kernel
theorem ap_38 : (bares 3 []).all (fun u => fine15 (.app ((bares 3 []).getD 38 (.var "")) u)) = true := by decide +kernel
theorem ap_39 : (bares 3 []).all (fun u => fine15 (.app ((bares 3 []).getD 39 (.var "")) u)) = true := by decide +kernel
theorem ap_40 : (bares 3 []).all (fun u => fine15 (.app ((bares 3 []).getD 40 (.var "")) u)) = true := by decide +kernel
theorem ap_41 : (bares 3 []).all (fun u => fine15 (.app ((bares 3 []).getD 41 (.var "")) u)) = true := by decide +kernel
theorem ap_42 : (bares 3 []).all (fun u => fine15 (.app ((bares 3 []).getD 42 (.var "")) u)) = true := by decide +kernel
theorem ap_43 : (bares 3 []).all (fun u => fine15 (.app ((bares 3 []).getD 43 (.var "")) u)) = true := by decide +kernel
theorem ap_44 : (bares 3 []).all (fun u => fine15 (.app ((bares 3 []).getD 44 (.var "")) u)) = true := by decide +kernel
theorem ap_45 : (bares 3 []).all (fun u => fine15 (.app ((bares 3 []).getD 45 (.var "")) u)) = true := by decide +kernel
theorem ap_46 : (bares 3 []).all (fun u => fine15 (.app ((bares 3 []).getD 46 (.var "")) u)) = true := by decide +kernel
theorem ap_47 : (bares 3 []).all (fun u => fine15 (.app ((bares 3 []).getD 47 (.var "")) u)) = true := by decide +kernel
theorem ap_48 : (bares 3 []).all (fun u => fine15 (.app ((bares 3 []).getD 48 (.var "")) u)) = true := by decide +kernel
theorem ap_49 : (bares 3 []).all (fun u => fine15 (.app ((bares 3 []).getD 49 (.var "")) u)) = true := by decide +kernel
theorem ap_50 : (bares 3 []).all (fun u => fine15 (.app ((bares 3 []).getD 50 (.var "")) u)) = true := by decide +kernel
theorem ap_all : ∀ i, i < 51 → (bares 3 []).all (fun u => fine15 (.app ((bares 3 []).getD i (.var "")) u)) = true := by
  intro i hi
  match i, hi with
  | 0, _ => exact ap_0
  | 1, _ => exact ap_1
  | 2, _ => exact ap_2
  | 3, _ => exact ap_3
  | 4, _ => exact ap_4
  | 5, _ => exact ap_5
  | 6, _ => exact ap_6
  | 7, _ => exact ap_7
  | 8, _ => exact ap_8
  | 9, _ => exact ap_9
  | 10, _ => exact ap_10
  | 11, _ => exact ap_11
  | 12, _ => exact ap_12
  | 13, _ => exact ap_13
  | 14, _ => exact ap_14
  | 15, _ => exact ap_15
  | 16, _ => exact ap_16
  | 17, _ => exact ap_17
  | 18, _ => exact ap_18
  | 19, _ => exact ap_19
  | 20, _ => exact ap_20
  | 21, _ => exact ap_21
  | 22, _ => exact ap_22
  | 23, _ => exact ap_23
  | 24, _ => exact ap_24
  | 25, _ => exact ap_25
  | 26, _ => exact ap_26
  | 27, _ => exact ap_27
  | 28, _ => exact ap_28
  | 29, _ => exact ap_29
  | 30, _ => exact ap_30
  | 31, _ => exact ap_31
  | 32, _ => exact ap_32
  | 33, _ => exact ap_33
  | 34, _ => exact ap_34
  | 35, _ => exact ap_35
  | 36, _ => exact ap_36
  | 37, _ => exact ap_37
  | 38, _ => exact ap_38
  | 39, _ => exact ap_39
  | 40, _ => exact ap_40
  | 41, _ => exact ap_41
  | 42, _ => exact ap_42
  | 43, _ => exact ap_43
  | 44, _ => exact ap_44
  | 45, _ => exact ap_45
  | 46, _ => exact ap_46
  | 47, _ => exact ap_47
  | 48, _ => exact ap_48
  | 49, _ => exact ap_49
  | 50, _ => exact ap_50
  | i + 51, h => omega
end Sq
set_option Elab.async false
set_option linter.all false
set_option maxRecDepth 100000
set_option maxHeartbeats 4000000
namespace Sq
open PySem PySem.Spec PyProof.Rows L2
theorem fn_0 : (((bares 3 ["x0"]).drop 0).take 25).all (fun u => fine15 (.fn "x0" u)) = true := by decide +kernel
theorem fn_1 : (((bares 3 ["x0"]).drop 25).take 25).all (fun u => fine15 (.fn "x0" u)) = true := by decide +kernel
theorem fn_2 : (((bares 3 ["x0"]).drop 50).take 25).all (fun u => fine15 (.fn "x0" u)) = true := by decide +kernel
theorem fn_3 : (((bares 3 ["x0"]).drop 75).take 25).all (fun u => fine15 (.fn "x0" u)) = true := by decide +kernel
theorem fn_4 : (((bares 3 ["x0"]).drop 100).take 25).all (fun u => fine15 (.fn "x0" u)) = true := by decide +kernel
theorem fn_5 : (((bares 3 ["x0"]).drop 125).take 25).all (fun u => fine15 (.fn "x0" u)) = true := by decide +kernel
theorem fn_6 : (((bares 3 ["x0"]).drop 150).take 25).all (fun u => fine15 (.fn "x0" u)) = true := by decide +kernel
theorem fn_7 : (((bares 3 ["x0"]).drop 175).take 25).all (fun u => fine15 (.fn "x0" u)) = true := by decide +kernel
theorem fn_8 : (((bares 3 ["x0"]).drop 200).take 25).all (fun u => fine15 (.fn "x0" u)) = true := by decide +kernel
theorem fn_9 : (((bares 3 ["x0"]).drop 225).take 25).all (fun u => fine15 (.fn "x0" u)) = true := by decide +kernel
theorem fn_10 : (((bares 3 ["x0"]).drop 250).take 25).all (fun u => fine15 (.fn "x0" u)) = true := by decide +kernel
theorem fn_11 : (((bares 3 ["x0"]).drop 275).take 25).all (fun u => fine15 (.fn "x0" u)) = true := by decide +kernel
theorem fn_12 : (((bares 3 ["x0"]).drop 300).take 25).all (fun u => fine15 (.fn "x0" u)) = true := by decide +kernel
theorem fn_13 : (((bares 3 ["x0"]).drop 325).take 25).all (fun u => fine15 (.fn "x0" u)) = true := by decide +kernel
theorem fn_14 : (((bares 3 ["x0"]).drop 350).take 25).all (fun u => fine15 (.fn "x0" u)) = true := by decide +kernel
theorem fn_15 : (((bares 3 ["x0"]).drop 375).take 25).all (fun u => fine15 (.fn "x0" u)) = true := by decide +kernel
theorem fn_16 : (((bares 3 ["x0"]).drop 400).take 25).all (fun u => fine15 (.fn "x0" u)) = true := by decide +kernel
theorem fn_17 : (((bares 3 ["x0"]).drop 425).take 25).all (fun u => fine15 (.fn "x0" u)) = true := by decide +kernel
theorem fn_18 : (((bares 3 ["x0"]).drop 450).take 25).all (fun u => fine15 (.fn "x0" u)) = true := by decide +kernel
theorem fn_19 : (((bares 3 ["x0"]).drop 475).take 25).all (fun u => fine15 (.fn "x0" u)) = true := by decide +kernel
theorem fn_20 : (((bares 3 ["x0"]).drop 500).take 25).all (fun u => fine15 (.fn "x0" u)) = true := by decide +kernel
theorem fn_21 : (((bares 3 ["x0"]).drop 525).take 25).all (fun u => fine15 (.fn "x0" u)) = true := by decide +kernel
theorem fn_22 : (((bares 3 ["x0"]).drop 550).take 25).all (fun u => fine15 (.fn "x0" u)) = true := by decide +kernel
theorem fn_23 : (((bares 3 ["x0"]).drop 575).take 25).all (fun u => fine15 (.fn "x0" u)) = true := by decide +kernel
theorem fn_24 : (((bares 3 ["x0"]).drop 600).take 25).all (fun u => fine15 (.fn "x0" u)) = true := by decide +kernel
theorem fn_25 : (((bares 3 ["x0"]).drop 625).take 25).all (fun u => fine15 (.fn "x0" u)) = true := by decide +kernel
theorem fn_26 : (((bares 3 ["x0"]).drop 650).take 25).all (fun u => fine15 (.fn "x0" u)) = true := by decide +kernel
theorem fn_27 : (((bares 3 ["x0"]).drop 675).take 25).all (fun u => fine15 (.fn "x0" u)) = true := by decide +kernel
theorem fn_28 : (((bares 3 ["x0"]).drop 700).take 25).all (fun u => fine15 (.fn "x0" u)) = true := by decide +kernel
theorem fn_29 : (((bares 3 ["x0"]).drop 725).take 25).all (fun u => fine15 (.fn "x0" u)) = true := by decide +kernel
theorem fn_30 : (((bares 3 ["x0"]).drop 750).take 25).all (fun u => fine15 (.fn "x0" u)) = true := by decide +kernel
theorem fn_31 : (((bares 3 ["x0"]).drop 775).take 25).all (fun u => fine15 (.fn "x0" u)) = true := by decide +kernel
theorem fn_len : (bares 3 ["x0"]).length = 776 := by decide +kernel
theorem fn_all : ∀ i, i < 32 → (((bares 3 ["x0"]).drop (25 * i)).take 25).all (fun u => fine15 (.fn "x0" u)) = true := by
  intro i hi
  match i, hi with
  | 0, _ => exact fn_0
  | 1, _ => exact fn_1
  | 2, _ => exact fn_2
  | 3, _ => exact fn_3
  | 4, _ => exact fn_4
  | 5, _ => exact fn_5
  | 6, _ => exact fn_6
  | 7, _ => exact fn_7
  | 8, _ => exact fn_8
  | 9, _ => exact fn_9
  | 10, _ => exact fn_10
  | 11, _ => exact fn_11
  | 12, _ => exact fn_12
  | 13, _ => exact fn_13
  | 14, _ => exact fn_14
  | 15, _ => exact fn_15
  | 16, _ => exact fn_16
  | 17, _ => exact fn_17
  | 18, _ => exact fn_18
  | 19, _ => exact fn_19
  | 20, _ => exact fn_20
  | 21, _ => exact fn_21
  | 22, _ => exact fn_22
  | 23, _ => exact fn_23
  | 24, _ => exact fn_24
  | 25, _ => exact fn_25
  | 26, _ => exact fn_26
  | 27, _ => exact fn_27
  | 28, _ => exact fn_28
  | 29, _ => exact fn_29
  | 30, _ => exact fn_30
  | 31, _ => exact fn_31
  | i + 32, h => omega
end Sq
set_option Elab.async false
set_option linter.all false
set_option pp.deepTerms false
set_option pp.deepTerms.threshold 14
set_option pp.maxSteps 200000
set_option format.width 2000
set_option format.indent 1
set_option maxRecDepth 100000
set_option maxHeartbeats 4000000
namespace Sq
open PySem PySem.Spec PyProof.Rows L2 RZ
local macro_rules | `(tactic| walk_at "rd") => `(tactic| simp only [tCont, tNever, iEnumL, tDG2, tTIdx, rU, tAugS, ipI, rGetN, iRng1, iRng2, rIsTup, rIsStr, rEqF, rIsN, rNotN, tWhile, rEqQ, tMkI, tDisp, tPairs, rIndexS, wipe, tNoPart, tDG2, tDGF, tDInF, tDNInF, sDPutF, tDNewF, rSortD, rInS, rInT, rEqLF, tDcF, tDc2F, tLcF, tForF, tAllF, tAnyF, tSumF, iStr, iEnumF, iZipF, iKeysF, iItems, tLZip, tYes, tSeq, tIfS, tNext, tRet, tRetN, tDrop, tTest, tB, tNot, tAnd, tOr, tChain, tOp, tUn, tCB, tCons, tNil, tC, tVar, tIf, tAndV, tOrV, tNotV, tAsg, tPar, tPar3, gName, gSub, gTupF, gCons, gNil, tTupF, tLstF, rI0, rI, rIxF, rIxG, rIxS, rSetF, rSlF, rCatF, rCatL, rTupL, rListT, rListL, rLenT, rLenL, iTupF, iLstF, rAppF, rExtF, rPopF, tBM, tBM0, tSl, tPart, rEq, rNe, tCall, L2.start,
  List.map_cons, List.map_nil, List.length_cons, List.length_nil, Nat.sub_self, List.replicate, List.append_nil, List.cons_append, List.nil_append, List.getElem?_cons_zero, List.getElem?_cons_succ, List.set_cons_zero, List.set_cons_succ,
  exSl, exI, exI2, exB, exS, exR, ex1, ex1', V.int.injEq, V.bl.injEq, V.ref.injEq, V.str.injEq, Option.some.injEq, List.cons.injEq, and_true, true_and, reduceCtorEq, false_and, and_false, or_false, false_or, exists_false, exists_and_left, exists_eq_left', decide_eq_true_eq, decide_true, decide_false, if_false, if_true, ite_true, ite_false, Bool.false_eq_true, Bool.not_true, Bool.not_false, Nat.reduceAdd, Nat.reduceSub, Nat.zero_add, atI_0, atI_1, atI_2, atI_3, ixN_0, ixN_1, ixN_2, cutV_1, cutV_2, Option.some.injEq, HO.lst.injEq, HO.dK.injEq, scal])
local macro_rules | `(tactic| walk_at "rdc") => `(tactic| simp (config := { contextual := true }) only [tCont, tNever, iEnumL, tDG2, tTIdx, rU, tAugS, ipI, rGetN, iRng1, iRng2, rIsTup, rIsStr, rEqF, rIsN, rNotN, tWhile, rEqQ, tMkI, tDisp, tPairs, rIndexS, wipe, tNoPart, tDG2, tDGF, tDInF, tDNInF, sDPutF, tDNewF, rSortD, rInS, rInT, rEqLF, tDcF, tDc2F, tLcF, tForF, tAllF, tAnyF, tSumF, iStr, iEnumF, iZipF, iKeysF, iItems, tLZip, tYes, tSeq, tIfS, tNext, tRet, tRetN, tDrop, tTest, tB, tNot, tAnd, tOr, tChain, tOp, tUn, tCB, tCons, tNil, tC, tVar, tIf, tAndV, tOrV, tNotV, tAsg, tPar, tPar3, gName, gSub, gTupF, gCons, gNil, tTupF, tLstF, rI0, rI, rIxF, rIxG, rIxS, rSetF, rSlF, rCatF, rCatL, rTupL, rListT, rListL, rLenT, rLenL, iTupF, iLstF, rAppF, rExtF, rPopF, tBM, tBM0, tSl, tPart, rEq, rNe, tCall, L2.start,
  List.map_cons, List.map_nil, List.length_cons, List.length_nil, Nat.sub_self, List.replicate, List.append_nil, List.cons_append, List.nil_append, List.getElem?_cons_zero, List.getElem?_cons_succ, List.set_cons_zero, List.set_cons_succ,
  exSl, exI, exI2, exB, exS, exR, ex1, ex1', V.int.injEq, V.bl.injEq, V.ref.injEq, V.str.injEq, Option.some.injEq, List.cons.injEq, and_true, true_and, reduceCtorEq, false_and, and_false, or_false, false_or, exists_false, exists_and_left, exists_eq_left', decide_eq_true_eq, decide_true, decide_false, if_false, if_true, ite_true, ite_false, Bool.false_eq_true, Bool.not_true, Bool.not_false, Nat.reduceAdd, Nat.reduceSub, Nat.zero_add, atI_0, atI_1, atI_2, atI_3, ixN_0, ixN_1, ixN_2, cutV_1, cutV_2, Option.some.injEq, HO.lst.injEq, HO.dK.injEq, scal, *])
/-! #### drawn bare terms -/
def xOf (n : Nat) : Str := "x" ++ Str.ofString (toString (n : Int))
theorem xOf_ok : ∀ n : Nat, n < 10 → ((n : Int).natAbs.log2 < 1920 ∧ (Str.ofString "x").length + (Str.ofString (toString (n : Int))).length ≤ sizeLine) ∧ PyData.strOk (xOf n) = true ∧ xOf n ≠ "y" ∧ xOf n ≠ "z" := by
  decide +kernel
/-- drawn at most D deep, the names bd bound -/
def Bt.In : Bt → Nat → List Str → Prop
  | .var x, _, bd => x ∈ bd ∨ x = "y" ∨ x = "z"
  | .fn x t, D, bd => ∃ e, D = e + 1 ∧ x = xOf bd.length ∧ t.In e (x :: bd)
  | .app t u, D, bd => ∃ e, D = e + 1 ∧ t.In e bd ∧ u.In e bd
  | _, _, _ => False
theorem wo_has_ne {x y : Str} (h : y ≠ x) : ∀ t : Cg, (t.wo x).has y = t.has y
  | .l _ => rfl
  | .v z => by
    rw [Cg.wo]
    by_cases e : z = x
    · rw [if_pos e, e]
      show false = decide (x = y)
      rw [decide_eq_false (fun w => h w.symm)]
    · rw [if_neg e]; rfl
  | .ap f a => by
    rw [Cg.wo]
    split
    · rfl
    · split
      · rename_i hc
        rw [hc.1]
        show f.has y = (f.has y || decide (x = y))
        rw [decide_eq_false (fun w => h w.symm), Bool.or_false]
      · split
        · show ((false || f.has y) || (a.wo x).has y) = (f.has y || a.has y)
          rw [wo_has_ne h a]; rfl
        · split
          · show ((false || (f.wo x).has y) || a.has y) = (f.has y || a.has y)
            rw [wo_has_ne h f]; rfl
          · show ((false || (f.wo x).has y) || (a.wo x).has y) = (f.has y || a.has y)
            rw [wo_has_ne h f, wo_has_ne h a]; rfl
/-- no other names are left -/
theorem no_has {x : Str} (hy : x ≠ "y") (hz : x ≠ "z") : ∀ {b : Bt} {D : Nat} {bd : List Str}, b.In D bd → x ∉ bd → (ofB b).has x = false
  | .var y, D, bd, h, hx => by
    show decide (y = x) = false
    refine decide_eq_false fun e => ?_
    subst e
    rcases h with h | h | h
    · exact hx h
    · exact hy h
    · exact hz h
  | .fn y t, D, bd, h, hx => by
    obtain ⟨e, rfl, rfl, h⟩ := h
    show ((ofB t).wo (xOf bd.length)).has x = false
    by_cases e : x = xOf bd.length
    · subst e; exact Cg.wo_has _
    · rw [wo_has_ne e]
      exact no_has hy hz h fun w => (List.mem_cons.mp w).elim e hx
  | .app t u, D, bd, h, hx => by
    obtain ⟨e, rfl, h1, h2⟩ := h
    show ((ofB t).has x || (ofB u).has x) = false
    rw [no_has hy hz h1 hx, no_has hy hz h2 hx]; rfl
  | .pair _ _, _, _, h, _ => h.elim
  | .fst _, _, _, h, _ => h.elim
  | .snd _, _, _, h, _ => h.elim
theorem in_bares : ∀ {b : Bt} {D : Nat} {bd : List Str}, b.In D bd → bd.length + D < 10 → (ofB b).has "y" = false → (ofB b).has "z" = false → b ∈ bares D bd
  | .var x, D, bd, h, hl, hy, hz => by
    have hm : x ∈ bd := by
      rcases h with h | h | h
      · exact h
      · subst h; exact absurd (show decide ((Str.ofString "y") = Str.ofString "y") = false from hy) (by decide)
      · subst h; exact absurd (show decide ((Str.ofString "z") = Str.ofString "z") = false from hz) (by decide)
    have : Bt.var x ∈ bd.map .var := List.mem_map.mpr ⟨x, hm, rfl⟩
    cases D with
    | zero => exact this
    | succ D => exact List.mem_append_left _ this
  | .fn x t, D, bd, h, hl, hy, hz => by
    obtain ⟨e, rfl, rfl, h⟩ := h
    obtain ⟨_, _, n1, n2⟩ := xOf_ok bd.length (by omega)
    have hy' : ((ofB t).wo (xOf bd.length)).has "y" = false := hy
    have hz' : ((ofB t).wo (xOf bd.length)).has "z" = false := hz
    rw [wo_has_ne (fun z => n1 z.symm)] at hy'
    rw [wo_has_ne (fun z => n2 z.symm)] at hz'
    have := in_bares h (by rw [List.length_cons]; omega) hy' hz'
    exact List.mem_append_right _ (List.mem_append_left _ (List.mem_map.mpr ⟨t, this, rfl⟩))
  | .app t u, D, bd, h, hl, hy, hz => by
    obtain ⟨e, rfl, h1, h2⟩ := h
    have hy : ((ofB t).has "y" || (ofB u).has "y") = false := hy
    have hz : ((ofB t).has "z" || (ofB u).has "z") = false := hz
    rw [Bool.or_eq_false_iff] at hy hz
    have i1 := in_bares h1 (by omega) hy.1 hz.1
    have i2 := in_bares h2 (by omega) hy.2 hz.2
    exact List.mem_append_right _ (List.mem_append_right _ (List.mem_flatMap.mpr ⟨t, i1, List.mem_map.mpr ⟨u, i2, rfl⟩⟩))
  | .pair _ _, _, _, h, _, _, _ => h.elim
  | .fst _, _, _, h, _, _, _ => h.elim
  | .snd _, _, _, h, _, _, _ => h.elim
/-- the law's question, answered in the kernel -/
theorem fine_all {b : Bt} (h : b ∈ bares 4 []) : fine15 b = true := by
  have h : b ∈ List.map Bt.var [] ++ ((bares 3 [xOf 0]).map (.fn (xOf 0)) ++ (bares 3 []).flatMap fun t => (bares 3 []).map fun u => .app t u) := h
  rcases List.mem_append.mp h with h | h
  · cases h
  rcases List.mem_append.mp h with h | h
  · obtain ⟨t, ht, rfl⟩ := List.mem_map.mp h
    have hx : xOf 0 = "x0" := by decide +kernel
    rw [hx] at ht ⊢
    obtain ⟨n, hn, hg⟩ := List.mem_iff_getElem.mp ht
    have hlen := fn_len
    have := List.all_eq_true.mp (fn_all (n / 25) (by omega)) t (by
      refine List.mem_iff_getElem.mpr ⟨n - 25 * (n / 25), ?_, ?_⟩
      · rw [List.length_take, List.length_drop]; omega
      · rw [List.getElem_take, List.getElem_drop]
        rw [← hg]
        congr 1
        omega)
    exact this
  · obtain ⟨t, ht, h2⟩ := List.mem_flatMap.mp h
    obtain ⟨u, hu, rfl⟩ := List.mem_map.mp h2
    obtain ⟨n, hn, hg⟩ := List.mem_iff_getElem.mp ht
    have hlen := b3_len
    have := List.all_eq_true.mp (ap_all n (by omega)) u hu
    rw [List.getD_eq_getElem?_getD, List.getElem?_eq_getElem hn, hg] at this
    exact this
def bdN : Nat → Nat
  | 0 => 2
  | D + 1 => 2 * bdN D + 1
def wtN : Nat → Nat
  | 0 => 1
  | D + 1 => 3 * wtN D
theorem bdN_lo : ∀ D, 2 ≤ bdN D
  | 0 => Nat.le_refl _
  | D + 1 => by have := bdN_lo D; rw [bdN]; omega
theorem wtN_lo : ∀ D, 1 ≤ wtN D
  | 0 => Nat.le_refl _
  | D + 1 => by have := wtN_lo D; rw [wtN]; omega
theorem wo_wt (x : Str) : ∀ t : Cg, (t.wo x).wt + 1 ≤ 3 * t.wt
  | .l _ => by show 2 + 1 ≤ 3; decide
  | .v y => by
    rw [Cg.wo]
    split
    · show 1 + 1 ≤ 3; decide
    · show 2 + 1 ≤ 3; decide
  | .ap f a => by
    have h1 := wo_wt x f
    have h2 := wo_wt x a
    have p1 := Cg.wt_pos f
    have p2 := Cg.wt_pos a
    have hd : (Cg.ap f a).wt = f.wt + a.wt := rfl
    rw [Cg.wo]
    split
    · show 1 + (Cg.ap f a).wt + 1 ≤ _; omega
    · split
      · omega
      · split
        · show 1 + f.wt + (a.wo x).wt + 1 ≤ _; omega
        · split
          · show 1 + (f.wo x).wt + a.wt + 1 ≤ _; omega
          · show 1 + (f.wo x).wt + (a.wo x).wt + 1 ≤ _; omega
theorem in_small : ∀ {b : Bt} {D : Nat} {bd : List Str}, b.In D bd → bd.length + D < 10 → (∀ x ∈ bd, PyData.strOk x = true) → b.Ok3 ∧ b.bd ≤ bdN D ∧ b.dep ≤ D + 1 ∧ (ofB b).wt ≤ wtN D
  | .var x, D, bd, h, hl, hb => by
    have := bdN_lo D
    have := wtN_lo D
    refine ⟨?_, this |> fun _ => by show 2 ≤ bdN D; omega, by show 1 ≤ D + 1; omega, by show 1 ≤ wtN D; omega⟩
    rcases h with h | h | h
    · exact hb x h
    · subst h; show PyData.strOk "y" = true; decide +kernel
    · subst h; show PyData.strOk "z" = true; decide +kernel
  | .fn x t, D, bd, h, hl, hb => by
    obtain ⟨e, rfl, rfl, h⟩ := h
    obtain ⟨_, ok, _, _⟩ := xOf_ok bd.length (by omega)
    obtain ⟨i1, i2, i3, i4⟩ := in_small h (by rw [List.length_cons]; omega) fun y hy => (List.mem_cons.mp hy).elim (fun z => by rw [z]; exact ok) (hb y)
    have := wo_wt (xOf bd.length) (ofB t)
    exact ⟨⟨ok, i1⟩, by show 2 * t.bd + 1 ≤ 2 * bdN e + 1; omega, by show t.dep + 1 ≤ _; omega, by show ((ofB t).wo (xOf bd.length)).wt ≤ 3 * wtN e; omega⟩
  | .app t u, D, bd, h, hl, hb => by
    obtain ⟨e, rfl, h1, h2⟩ := h
    obtain ⟨i1, i2, i3, i4⟩ := in_small h1 (by omega) hb
    obtain ⟨j1, j2, j3, j4⟩ := in_small h2 (by omega) hb
    exact ⟨⟨i1, j1⟩, by show max t.bd u.bd + 1 ≤ 2 * bdN e + 1; omega, by show max t.dep u.dep + 1 ≤ _; omega, by show (ofB t).wt + (ofB u).wt ≤ 3 * wtN e; omega⟩
  | .pair _ _, _, _, h, _, _ => h.elim
  | .fst _, _, _, h, _, _ => h.elim
  | .snd _, _, _, h, _, _ => h.elim
section
variable {P : Program} {w : World} {K : PySem.W.Frag} {mg : Str → Option Value} {base : Heap} {f c : Addr} {fd : FuncData}
abbrev s__law_bare : Stmt := top 43
abbrev n__law_bare : List Str := ["dice", "deep", "bound", "kind", "names", "name"]
theorem sc__law_bare : FnScope n__law_bare ["dice", "deep", "bound"] (defScope s__law_bare) := ⟨rfl, rfl, rfl, by decide +kernel, rfl, by decide +kernel, by decide +kernel⟩
def spBare15 (K : PySem.W.Frag) (k : Nat) : Sp := fun vs H Q _ => ∃ dd D R bd, vs = [.ref dd, .int (D : Nat), .ref R] ∧ DiceAt H dd ∧ H R = some (.lst (bd.map V.str)) ∧ R ≠ dd ∧ bd.length + D < 10 ∧ D + 2 ≤ k ∧ ∀ v (b : Bt) H', Ext [dd] H H' → DiceAt H' dd → b.In D bd → Td K H' v b.data → Q v H'
theorem ok_bare15 (F : Dn K mg "_law_bare" s__law_bare f fd c) (B : Bl mg) (G__law_roll0 : Cal P w K mg base 1 "_law_roll" spRoll) : ∀ k, Cal P w K mg base k "_law_bare" (spBare15 K k) := by
  refine F.calRec (ps := ["dice", "deep", "bound"]) (fun _ _ _ _ _ _ us hl => match us, hl with | [_, _, _], _ => rfl) (fun vs H Q E ⟨_, _, _, _, _, _, _, _, _, h, _⟩ => by omega) fun k G__law_bare => ?_
  by_cases hk : k < 1
  · exact ⟨fun vs H Q E ⟨_, _, _, _, _, _, _, _, _, h, _⟩ => by omega, fun A outer s H args us vs Q E _ _ _ _ ⟨_, _, _, _, _, _, _, _, _, h, _⟩ => by omega⟩
  have G__law_roll := G__law_roll0.mono (k := k) (by omega)
  refine F.ok sc__law_bare (fun vs H Q E h => ?_) (fun A outer s H vs Q E hr h => ?_)
  · obtain ⟨_, _, _, _, rfl, _⟩ := h; rfl
  obtain ⟨dd, D, R, bd, rfl, hd, hR, hne, hl, hD, q⟩ := h
  refine ⟨_, (pss_cons (ps_set (i := 3) sc__law_bare.nd rfl (by first | exact Or.inl rfl | exact Or.inr rfl) (C8.pe_c G__law_roll hr (by omega) (by rfl) (pa_cons (pv 0) (pa_cons pe_int pa_nil))))
    (pss_cons (ps_if (PW.pt (pw_or (pt_cmpR op_eq (pv 1) pe_int (nomark _)) (pw_or1 (pt_cmpR op_eq (pv 3) pe_int (nomark _))))) (pss_cons (ps_set (i := 4) sc__law_bare.nd rfl (by first | exact Or.inl rfl | exact Or.inr rfl) (pe_op op_catL (pv 2) (pe_lstF (pa_cons pe_str (pa_cons pe_str pa_nil)))))
    (pss_one (ps_ret (pe_tupK K (pa_cons pe_str (pa_cons (pe_ix ix_lstF (pv 4) (C8.pe_c G__law_roll hr (by omega) (by rfl) (pa_cons (pv 0) (pa_cons (pe_callB call_lenL (by rfl) B.b_len (by decide +kernel) (pa_cons (pv 4) pa_nil)) pa_nil))) (fun _ _ => rfl)) pa_nil)))))) pss_nil)
    (pss_cons (ps_if (pt_cmpR op_eq (pv 3) pe_int (nomark _)) (pss_cons (ps_set (i := 5) sc__law_bare.nd rfl (by first | exact Or.inl rfl | exact Or.inr rfl) (pe_op op_add_str pe_str (pe_callTy call_str_int (by rfl) B.b_str (by decide +kernel) (pa_cons (pe_callB call_lenL (by rfl) B.b_len (by decide +kernel) (pa_cons (pv 2) pa_nil)) pa_nil))))
    (pss_one (ps_ret (pe_tupK K (pa_cons pe_str (pa_cons (pv 5) (pa_cons (C8.pe_c G__law_bare hr (by omega) (by rfl) (pa_cons (pv 0) (pa_cons (pe_op op_sub (pv 1) pe_int) (pa_cons (pe_op op_catL (pe_lstF (pa_cons (pv 5) pa_nil)) (pv 2)) pa_nil)))) pa_nil))))))) pss_nil)
    (pss_one (ps_ret (pe_tupK K (pa_cons pe_str (pa_cons (C8.pe_c G__law_bare hr (by omega) (by rfl) (pa_cons (pv 0) (pa_cons (pe_op op_sub (pv 1) pe_int) (pa_cons (pv 2) pa_nil)))) (pa_cons (C8.pe_c G__law_bare hr (by omega) (by rfl) (pa_cons (pv 0) (pa_cons (pe_op op_sub (pv 1) pe_int) (pa_cons (pv 2) pa_nil)))) pa_nil))))))))), ?_⟩
  walk_at "rd"
  refine ⟨dd, 4, rfl, hd, by decide, by decide, fun r0 H1 a0 b0 e1 hd1 => ?_⟩
  have hR1 := e1.lst hR (by simpa using hne)
  clear hd hR
  dsimp only
  by_cases hD0 : (D : Int) = 0
  · rw [if_pos hD0]
    refine ⟨by decide, fun R2 H2 n2 e2 h2 => ⟨_, e2.lst0 hR1, _, h2, ?_, fun R3 H3 n3 e3 h3 => ?_⟩⟩
    · rw [List.length_map, List.length_cons, List.length_cons, List.length_nil]
      have : (10000 : Nat) ≤ sizeLine := by decide
      omega
    refine ⟨_, h3, dd, _, rfl, (hd1.ext0 e2).ext0 e3, ?_, ?_, fun r4 H4 a4 b4 e4 hd4 => ?_⟩
    · rw [List.length_append]; simp; omega
    · rw [List.length_append]; simp; omega
    obtain ⟨n, rfl⟩ := Int.eq_ofNat_of_zero_le a4
    have ndd : R3 ≠ dd := fun z => by
      obtain ⟨_, _, _, w⟩ := (hd1.ext0 e2 : DiceAt H2 dd)
      rw [z, w] at n3; cases n3
    have hR4 := e4.lst h3 (by simpa using ndd)
    have hmm : bd.map V.str ++ [V.str "y", V.str "z"] = (bd ++ [Str.ofString "y", Str.ofString "z"]).map V.str := by rw [List.map_append]; rfl
    have hn : n < (bd ++ [Str.ofString "y", Str.ofString "z"]).length := by
      rw [hmm, List.length_map] at b4
      omega
    have hx := List.getElem?_eq_getElem hn
    generalize (bd ++ [Str.ofString "y", Str.ofString "z"])[n] = x at hx
    have hxm : x ∈ bd ∨ x = "y" ∨ x = "z" := by
      rcases List.mem_append.mp (List.mem_of_getElem? hx) with z | z
      · exact .inl z
      · rcases List.mem_cons.mp z with z | z
        · exact .inr (.inl z)
        · exact .inr (.inr (List.mem_singleton.mp z))
    rw [hmm] at hR4
    refine ⟨_, _, rfl, hR4, .str x, atI_nat (by rw [List.getElem?_map, hx]; rfl), by decide, fun p5 H5 e5 h5 => ?_⟩
    exact q _ (.var x) H5 (e1.trans ((e2.trans e3).any.trans (e4.trans e5.any))) (hd4.ext0 e5) hxm (.tup h5 (.cons (.str _) (.cons (.str _) .nil)))
  rw [if_neg hD0]
  refine ⟨rfl, ?_⟩
  by_cases hk0 : V.int r0 = V.int 0
  · rw [if_pos hk0]
    refine ⟨by decide, fun R2 H2 n2 e2 h2 => ⟨_, e2.lst0 hR1, _, h2, ?_, fun R3 H3 n3 e3 h3 => ?_⟩⟩
    · rw [List.length_map, List.length_cons, List.length_cons, List.length_nil]
      have : (10000 : Nat) ≤ sizeLine := by decide
      omega
    refine ⟨_, h3, dd, _, rfl, (hd1.ext0 e2).ext0 e3, ?_, ?_, fun r4 H4 a4 b4 e4 hd4 => ?_⟩
    · rw [List.length_append]; simp; omega
    · rw [List.length_append]; simp; omega
    obtain ⟨n, rfl⟩ := Int.eq_ofNat_of_zero_le a4
    have ndd : R3 ≠ dd := fun z => by
      obtain ⟨_, _, _, w⟩ := (hd1.ext0 e2 : DiceAt H2 dd)
      rw [z, w] at n3; cases n3
    have hR4 := e4.lst h3 (by simpa using ndd)
    have hmm : bd.map V.str ++ [V.str "y", V.str "z"] = (bd ++ [Str.ofString "y", Str.ofString "z"]).map V.str := by rw [List.map_append]; rfl
    have hn : n < (bd ++ [Str.ofString "y", Str.ofString "z"]).length := by
      rw [hmm, List.length_map] at b4
      omega
    have hx := List.getElem?_eq_getElem hn
    generalize (bd ++ [Str.ofString "y", Str.ofString "z"])[n] = x at hx
    have hxm : x ∈ bd ∨ x = "y" ∨ x = "z" := by
      rcases List.mem_append.mp (List.mem_of_getElem? hx) with z | z
      · exact .inl z
      · rcases List.mem_cons.mp z with z | z
        · exact .inr (.inl z)
        · exact .inr (.inr (List.mem_singleton.mp z))
    rw [hmm] at hR4
    refine ⟨_, _, rfl, hR4, .str x, atI_nat (by rw [List.getElem?_map, hx]; rfl), by decide, fun p5 H5 e5 h5 => ?_⟩
    exact q _ (.var x) H5 (e1.trans ((e2.trans e3).any.trans (e4.trans e5.any))) (hd4.ext0 e5) hxm (.tup h5 (.cons (.str _) (.cons (.str _) .nil)))
  rw [if_neg hk0]
  refine ⟨rfl, ?_⟩
  obtain ⟨D, rfl⟩ : ∃ E, D = E + 1 := ⟨D - 1, by omega⟩
  have hDm : (((D + 1 : Nat) : Int) - 1) = (D : Nat) := by push_cast; omega
  rw [hDm]
  by_cases hk1 : V.int r0 = V.int 1
  · rw [if_pos hk1]
    obtain ⟨⟨x1, x2⟩, x3, _, _⟩ := xOf_ok bd.length (by omega)
    refine ⟨_, hR1, by rw [List.length_map]; exact x1, by rw [List.length_map]; exact x2, by decide, fun R2 H2 n2 e2 h2 => ?_⟩
    refine ⟨_, h2, _, e2.lst0 hR1, ?_, fun R3 H3 n3 e3 h3 => ?_⟩
    · rw [List.length_map, List.length_cons, List.length_nil]
      have : (10000 : Nat) ≤ sizeLine := by decide
      omega
    have hx : (Str.ofString "x" ++ Str.ofString (toString (((bd.map V.str).length : Nat) : Int))) = xOf bd.length := by rw [List.length_map]; rfl
    rw [hx] at h3
    have h3 : H3 R3 = some (.lst ((xOf bd.length :: bd).map V.str)) := h3
    have ndd : R3 ≠ dd := fun z => by
      obtain ⟨_, _, _, w⟩ := (hd1.ext0 e2 : DiceAt H2 dd)
      rw [z, w] at n3; cases n3
    refine ⟨dd, D, R3, xOf bd.length :: bd, rfl, (hd1.ext0 e2).ext0 e3, h3, ndd, by rw [List.length_cons]; omega, by omega, fun v1 t1 H4 e4 hd4 i1 d1 => ⟨by decide, fun p5 H5 e5 h5 => ?_⟩⟩
    rw [hx] at h5
    exact q _ (.fn (xOf bd.length) t1) H5 (e1.trans ((e2.trans e3).any.trans (e4.trans e5.any))) (hd4.ext0 e5) ⟨D, rfl, rfl, i1⟩ (.tup h5 (.cons (.str _) (.cons (.str _) (.cons (d1.ext e5) .nil))))
  rw [if_neg hk1]
  refine ⟨dd, D, R, bd, rfl, hd1, hR1, hne, by omega, by omega, fun v1 t1 H2 e2 hd2 i1 d1 => ?_⟩
  have hR2 := e2.lst hR1 (by simpa using hne)
  refine ⟨dd, D, R, bd, rfl, hd2, hR2, hne, by omega, by omega, fun v2 t2 H3 e3 hd3 i2 d2 => ⟨by decide, fun p4 H4 e4 h4 => ?_⟩⟩
  exact q _ (.app t1 t2) H4 (e1.trans (e2.trans (e3.trans e4.any))) (hd3.ext0 e4) ⟨D, rfl, i1, i2⟩ (.tup h4 (.cons (.str _) (.cons ((d1.ext e3).ext e4) (.cons (d2.ext e4) .nil))))
end
end Sq
set_option Elab.async false
set_option linter.all false
set_option maxRecDepth 100000
set_option maxHeartbeats 2000000
namespace Sq
open PySem PySem.Spec PyProof.Rows L2 RZ
/-! ### a lambda handed to a def; the other tables stay -/
section
variable {X : Cx} {pins : List (Addr × Obj)} {σ : L2.St} {H : Hp} {s : Shared}
theorem TabS.keep {S : List Addr} {H H' : Hp} {P : Addr} {q : Str} (t : LamX.TabS H P q) (e : Ext S H H') (n : P ∉ S) (hS : ∀ a ∈ S, ∀ c, H a ≠ some (LamX.CodeO c q)) : LamX.TabS H' P q := by
  obtain ⟨ps, h1, h2, h3⟩ := t
  refine ⟨ps, e.tbl P ps h1 n, h2, fun pos cv hc => ?_⟩
  obtain ⟨c, e1, e2⟩ := h3 pos cv hc
  exact ⟨c, e1, e.keep c _ e2 (fun z => hS c z c e2) LamX.codeO_ne⟩
theorem lam_new {c P : Addr} {params : Arguments} {body : Expr} {scope : Scope} {pos : Pos} {E Q : Value → Shared → Prop} (I : L2.Inv X pins σ H s) (TB : LamX.TabB X.base X.mg c P) (hcode : X.env.code = .ref c) (hT : LamX.TabS H P (X.env.qual ++ "<lambda>"))
    (hdef : defaultsOf params X.env = ([], [])) (hfree : ∀ y ∈ scope.names, y.2 = .free → ∃ c, X.env.cells.lookup y.1 = some c)
    (go : ∀ (g c' : Addr) (pm cv : Value) (G : Hp) (r : Shared), L2.Inv X pins σ G r → Ext [P] H G → LamX.TabS G P (X.env.qual ++ "<lambda>") →
      r.heap.get? g = some (PySem.W.kla_obj "<lambda>" (X.env.qual ++ "<lambda>") params body scope (cloFrom X.env.cells scope.names []) pm c' cv) → G g = none → g ∉ frs X.stack → G c' = some (LamX.CodeO c' (X.env.qual ++ "<lambda>")) → Q (.ref g) r) :
    wpAny (model X.prog X.w) X.A (eval (.Lambda params body scope pos) X.env) Q E s := by
  obtain ⟨ps, hP, htr, hnm⟩ := id hT
  refine PySem.W.kla_eval hdef ?_
  have hBI : s.heap.BuiltinsAt X.mg P := TB.bm.keeps I.bk
  have hobj : s.heap.get? P = some { cls := .none, data := .fields ps } := I.hok P _ hP
  have away : ∀ g, s.heap.objs.size ≤ g → g ∉ frs X.stack := fun g hg hm => by
    rcases List.mem_cons.mp (I.stkSub _ hm) with z | z
    · have hlt := I.lt
      rw [← z] at hlt
      exact absurd (Nat.lt_of_lt_of_le hlt hg) (Nat.lt_irrefl _)
    · exact I.nofs hg z
  cases hfound : codeAmong pos ps.toList with
  | some cv0 =>
    obtain ⟨c', rfl, hcode'⟩ := hnm pos cv0 hfound
    refine PySem.W.kla_makeFunctionHit (mg := X.mg) (c := c) (P := P) (ps := ps) (closure_ok hfree) I.ok.glob (I.mod.glob.keeps I.bk) hcode (TB.code.keeps I.bk) hobj htr hfound hBI fun cv h' tk hk hge => ?_
    exact go h'.objs.size c' _ cv H _ (I.kept fun b o z => Heap.get?_push_of_some _ (hk b o z)) (Ext.refl _ _) hT (Heap.get?_push_size _ rfl) (I.hok.fresh hge) (away _ hge) hcode'
  | none =>
    refine PySem.W.kla_makeFunction (mg := X.mg) (c := c) (P := P) (ps := ps) (closure_ok hfree) I.ok.glob (I.mod.glob.keeps I.bk) hcode (TB.code.keeps I.bk) hobj htr hfound TB.gP hBI fun c' cv h' tk hk hge hlt hrec hnewt => ?_
    obtain ⟨c2, oc, fs, t, z, hoc, hfs, hq⟩ := hrec
    cases z
    have big : s.heap.objs.size ≤ h'.objs.size := Nat.le_trans hge (Nat.le_of_lt hlt)
    have hcn : H c' = none := I.hok.fresh hge
    have hPc : P ≠ c' := ne_of_none hP hcn
    generalize hG : upd (upd H P (.tbl (ps ++ #[rawInt pos.line, rawInt pos.col, .ref c']))) c' (LamX.CodeO c' (X.env.qual ++ "<lambda>")) = G
    have I' : L2.Inv X pins σ G { s with heap := h'.push (PySem.W.kla_obj "<lambda>" (X.env.qual ++ "<lambda>") params body scope (cloFrom X.env.cells scope.names []) ((X.mg "__name__").getD .none) c' cv), toks := tk } := by
      rw [← hG]
      exact LamX.inv_table (more := #[rawInt pos.line, rawInt pos.col, .ref c']) I hP (fun b o hb z => Heap.get?_push_of_some _ (hk b o hb z)) (Heap.get?_push_of_some _ hnewt) hge ⟨oc, fs, t, Heap.get?_push_of_some _ hoc, hfs, hq⟩
    have gP : G P = some (.tbl (ps ++ #[rawInt pos.line, rawInt pos.col, .ref c'])) := by rw [← hG, upd_ne hPc, upd_same]
    have gO : ∀ b o, H b = some o → b ≠ P → G b = some o := fun b o z n => by rw [← hG, upd_ne (ne_of_none z hcn), upd_ne n]; exact z
    have gC : G c' = some (LamX.CodeO c' (X.env.qual ++ "<lambda>")) := by rw [← hG, upd_same]
    have nt : ∀ b o, H b = some o → (∀ qs, o ≠ .tbl qs) → b ≠ P := fun b o z n y => by rw [y, hP] at z; exact n ps (Option.some.inj z).symm
    have hl : (ps ++ #[rawInt pos.line, rawInt pos.col, .ref c']).toList = ps.toList ++ [rawInt pos.line, rawInt pos.col, .ref c'] := by simp
    have htr' : TriplesOk (ps ++ #[rawInt pos.line, rawInt pos.col, .ref c']).toList := by rw [hl]; exact PySem.TriplesOk_snoc _ _ _ _ htr
    have eG : Ext [P] H G := by
      refine ⟨fun b o z _ n => gO b o z (nt b o z n), fun b xs z => gO b _ z (nt b _ z fun _ y => by cases y), fun b o u z => gO b _ z (nt b _ z fun _ y => by cases y), fun P' t' => ?_, fun P' qs z n => gO P' _ z (by simpa using n)⟩
      by_cases y : P' = P
      · rw [y]; exact ⟨_, gP, htr'⟩
      · obtain ⟨qs, z, k⟩ := t'
        exact ⟨qs, gO P' _ z y, k⟩
    refine go h'.objs.size c' _ cv G _ I' eG ⟨_, gP, htr', fun p' cw hcw => ?_⟩ (Heap.get?_push_size _ rfl) ?_ (away _ big) gC
    · rw [hl] at hcw
      rcases LamX.among_app _ htr hcw with z | z
      · obtain ⟨c0, y1, y2⟩ := hnm p' cw z
        exact ⟨c0, y1, gO c0 _ y2 (nt c0 _ y2 LamX.codeO_ne)⟩
      · exact ⟨c', z, gC⟩
    · have n1 : h'.objs.size ≠ c' := Nat.ne_of_gt hlt
      have n2 : h'.objs.size ≠ P := Nat.ne_of_gt (Nat.lt_of_lt_of_le (Heap.lt_size hobj) big)
      rw [← hG, upd_ne n1, upd_ne n2]
      exact I.hok.fresh big
end
def tLamX (P : Addr) (q : Str) (TT : (XK → Hp → VK → Prop) → Hp → VK → Prop) (t : XK → TE) : TE := fun σ H Q => LamX.TabS H P q ∧ ∀ G, Ext [P] H G → LamX.TabS G P q → TT (fun E H' Q' => t E σ H' Q') G Q
theorem pe_lamX {X : Cx} {TT : (XK → Hp → VK → Prop) → Hp → VK → Prop} {x a : Str} {st : Stmt} {g cg c P : Addr} {fd : FuncData} {k : Nat} {Ng : List Str} {params : Arguments} {body : Expr} {scope : Scope} {t : XK → TE} {p lpos pos : Pos} (F : Dn X.K X.mg x st g fd cg) (hg : Gl X x)
    (hb : BindOk x st [a]) (Sg : FnScope Ng [a] (defScope st)) (hNg : Ng[0]? = some a) (hva : Vis (defScope st) a) (hG : LamX.GivesTo X Ng x (defScope st) g (.ref cg) (defBody st) a (X.env.qual ++ "<lambda>") TT)
    (TB : LamX.TabB X.base X.mg c P) (hcode : X.env.code = .ref c) (hr : Room (k + 2) X.A) (L : LamX.LamS X.env.scope scope) (hdef : defaultsOf params X.env = ([], []))
    (hbind : ∀ (q : Str) (cl : List (Str × Addr)) (pm cv ctv : Value), bindArgs (PySem.W.kla_fn "<lambda>" q params body scope cl pm cv ctv) ⟨[], []⟩ = pure [])
    (hbody : ∀ (A : Around) (outer : List Env) (s : Shared) (H : Hp) (E : XK) (f c' : Addr), Room k (A.deeper (LamX.lamEnv X scope s.heap.objs.size f c')) → PE (LamX.lamCx X A outer s H E scope f c') body (t E))
    (hdb : (x == ("__debug__" : Str)) = false := by decide) (hd : (a == ("__debug__" : Str)) = false := by decide) (hcd : (a == ("__classdict__" : Str)) = false := by decide) :
    PE X (.Call (.Name x p) [.Lambda params body scope lpos] [] pos) (tLamX P (X.env.qual ++ "<lambda>") TT t) := by
  have hbd := F.binds hb
  obtain ⟨⟨oc, od, kV, doc, pm, an, ct, osl, rfl, lk, hcg⟩, hm, hk⟩ := F
  refine ⟨fun pins s σ H Q I ⟨hT, q⟩ => ?_⟩
  refine wpAny_Call_Name_kw (ld_glob I hg hm ?_ hdb)
  refine PySem.W.callWith_K (h₀ := X.base) I.ok.mod.kin hk ?_ (by rfl) (by rfl)
  refine Calls.spliced_cons (lam_new I TB hcode hT hdef (L.has I.ok) fun f c' pm' cv G r I1 eG tG hf hfn hfr hco => ?_)
  refine Calls.spliced_nil ⟨I1.kIn, ?_⟩
  refine wpAny_call (codeAny_mono (LamX.run_ofS (N := Ng) (ps := [a]) (us := [.ref f]) (vs := [.ref f]) (E := C8.E0) (Q := Q) (CX := C8.CX0) lk hcg Sg hr I1.env0 (hbd r [.ref f] I1.kIn rfl) (.cons rfl .nil) rfl fun hr' => ?_) fun z s2 out => ?_)
  · obtain ⟨t', ht', hq'⟩ := hG f c' r G Q (fun E H' Q' => t E σ H' Q') (fun W pn xe E p1 p2 tk hW => LamX.pe_act (i := 0) I1 L hf hfn hfr (hbind _ _ _ _ _) tk hW hr' (fun A outer s H hr2 => hbody A outer s H E f c' hr2) hNg hva hd hcd) hco (q G eG tG)
    exact ⟨t', ht'.nox, hq'⟩
  · cases z with
    | error e => exact (show False from out).elim
    | ok fl =>
      cases fl with
      | ret u => exact I1.after out
      | next => exact False.elim out
      | brk => exact False.elim out
      | cont => exact False.elim out
end Sq
set_option Elab.async false
set_option linter.all false
set_option maxRecDepth 100000
set_option maxHeartbeats 4000000
namespace Sq
open PySem PySem.Spec PyProof.Rows L2 RZ
local macro_rules | `(tactic| walk_at "rd") => `(tactic| simp only [tCont, tNever, iEnumL, iRng1, tDisp, tPairs, rIndexS, wipe, tNoPart, tDG2, tDGF, tDInF, tDNInF, sDPutF, tDNewF, rSortD, rInS, rInT, rEqLF, tDcF, tDc2F, tLcF, tForF, tAllF, tAnyF, tSumF, iStr, iEnumF, iZipF, iKeysF, iItems, tLZip, tYes, tSeq, tIfS, tNext, tRet, tRetN, tDrop, tTest, tB, tNot, tAnd, tOr, tChain, tOp, tUn, tCB, tCons, tNil, tC, tVar, tIf, tAndV, tOrV, tNotV, tAsg, tPar, tPar3, gName, gSub, gTupF, gCons, gNil, tTupF, tLstF, rI0, rI, rIxF, rIxG, rIxS, rSetF, rSlF, rCatF, rCatL, rTupL, rListT, rListL, rLenT, rLenL, iTupF, iLstF, rAppF, rExtF, rPopF, tBM, tBM0, tSl, tPart, rEq, rNe, tCall, L2.start,
  List.map_cons, List.map_nil, List.length_cons, List.length_nil, Nat.sub_self, List.replicate, List.append_nil, List.cons_append, List.nil_append, List.getElem?_cons_zero, List.getElem?_cons_succ, List.set_cons_zero, List.set_cons_succ,
  exSl, exI, exI2, exB, exS, exR, ex1, ex1', V.int.injEq, V.bl.injEq, V.ref.injEq, V.str.injEq, Option.some.injEq, List.cons.injEq, and_true, true_and, reduceCtorEq, false_and, and_false, or_false, false_or, exists_false, exists_and_left, exists_eq_left', decide_eq_true_eq, decide_true, decide_false, if_false, if_true, ite_true, ite_false, Bool.false_eq_true, Bool.not_true, Bool.not_false, Nat.reduceAdd, Nat.reduceSub, Nat.zero_add, atI_0, atI_1, atI_2, atI_3, ixN_0, ixN_1, ixN_2, cutV_1, cutV_2, Option.some.injEq, HO.lst.injEq, HO.dK.injEq, scal])
local macro_rules | `(tactic| walk_at "rdc") => `(tactic| simp (config := { contextual := true }) only [tCont, tNever, iEnumL, iRng1, tDisp, tPairs, rIndexS, wipe, tNoPart, tDG2, tDGF, tDInF, tDNInF, sDPutF, tDNewF, rSortD, rInS, rInT, rEqLF, tDcF, tDc2F, tLcF, tForF, tAllF, tAnyF, tSumF, iStr, iEnumF, iZipF, iKeysF, iItems, tLZip, tYes, tSeq, tIfS, tNext, tRet, tRetN, tDrop, tTest, tB, tNot, tAnd, tOr, tChain, tOp, tUn, tCB, tCons, tNil, tC, tVar, tIf, tAndV, tOrV, tNotV, tAsg, tPar, tPar3, gName, gSub, gTupF, gCons, gNil, tTupF, tLstF, rI0, rI, rIxF, rIxG, rIxS, rSetF, rSlF, rCatF, rCatL, rTupL, rListT, rListL, rLenT, rLenL, iTupF, iLstF, rAppF, rExtF, rPopF, tBM, tBM0, tSl, tPart, rEq, rNe, tCall, L2.start,
  List.map_cons, List.map_nil, List.length_cons, List.length_nil, Nat.sub_self, List.replicate, List.append_nil, List.cons_append, List.nil_append, List.getElem?_cons_zero, List.getElem?_cons_succ, List.set_cons_zero, List.set_cons_succ,
  exSl, exI, exI2, exB, exS, exR, ex1, ex1', V.int.injEq, V.bl.injEq, V.ref.injEq, V.str.injEq, Option.some.injEq, List.cons.injEq, and_true, true_and, reduceCtorEq, false_and, and_false, or_false, false_or, exists_false, exists_and_left, exists_eq_left', decide_eq_true_eq, decide_true, decide_false, if_false, if_true, ite_true, ite_false, Bool.false_eq_true, Bool.not_true, Bool.not_false, Nat.reduceAdd, Nat.reduceSub, Nat.zero_add, atI_0, atI_1, atI_2, atI_3, ixN_0, ixN_1, ixN_2, cutV_1, cutV_2, Option.some.injEq, HO.lst.injEq, HO.dK.injEq, scal, *])
abbrev s__law_told : Stmt := top 42
abbrev n__law_told : List Str := ["what"]
theorem sc__law_told : FnScope n__law_told ["what"] (defScope s__law_told) := ⟨rfl, rfl, rfl, by decide +kernel, rfl, by decide +kernel, by decide +kernel⟩
/-- what a refusal is told as -/
def TTa (aT aB aW aL : Addr) : (XK → Hp → VK → Prop) → Hp → VK → Prop := fun tl H Q => tl (fun cls _ H' => (cls = .ref aT ∧ Q (.str "formula") H') ∨ (cls = .ref aB ∧ Q (.str "term") H') ∨ (cls = .ref aW ∧ Q (.str "no way") H') ∨ (cls = .ref aL ∧ Q (.str "large") H')) H Q
structure ErA (K : PySem.W.Frag) (mg : Str → Option Value) (aT aB aW aL : Addr) : Prop where
  t : mg "BadType" = some (.ref aT)
  b : mg "BadTerm" = some (.ref aB)
  w : mg "NoWay" = some (.ref aW)
  l : mg "TooLarge" = some (.ref aL)
  tt : PySem.W.exmOne K (.ref aT) (.ref aT) = some true
  bt : PySem.W.exmOne K (.ref aB) (.ref aT) = some false
  bb : PySem.W.exmOne K (.ref aB) (.ref aB) = some true
  wt : PySem.W.exmOne K (.ref aW) (.ref aT) = some false
  wb : PySem.W.exmOne K (.ref aW) (.ref aB) = some false
  ww : PySem.W.exmOne K (.ref aW) (.ref aW) = some true
  lt : PySem.W.exmOne K (.ref aL) (.ref aT) = some false
  lb : PySem.W.exmOne K (.ref aL) (.ref aB) = some false
  lw : PySem.W.exmOne K (.ref aL) (.ref aW) = some false
  ll : PySem.W.exmOne K (.ref aL) (.ref aL) = some true
theorem gives_toldA {X : Cx} {aT aB aW aL g cg : Addr} {q : Str} (R : ErA X.K X.mg aT aB aW aL) : LamX.GivesTo X n__law_told "_law_told" (defScope s__law_told) g (.ref cg) (defBody s__law_told) "what" q (TTa aT aB aW aL) := by
  intro f c' s H Q tl act hc h
  refine ⟨_, pss_one (ps_try_many (X := (cxOf C8.CX0 X.prog X.w X.K X.mg X.base n__law_told "_law_told" (defScope s__law_told) g (.ref cg) X.A X.stack s H C8.E0).nox)
      (l := [(.ref aT, fun _ _ _ => tRet (tC (.str "formula"))), (.ref aB, fun _ _ _ => tRet (tC (.str "term"))), (.ref aW, fun _ _ _ => tRet (tC (.str "no way"))), (.ref aL, fun _ _ _ => tRet (tC (.str "large")))])
      (tb := fun W D σ H => ∃ Ech : XK, (∀ cls d σ' H', Ech cls d H' → W cls d σ' H') ∧ σ[0]? = some (some (.ref f)) ∧ H c' = some (LamX.CodeO c' q) ∧ tl Ech H D.rt)
      rfl rfl LamX.takes0 (fun W pn xe tk _ => ?_)
      (.cons ⟨rfl, by decide, .inl R.t⟩ (fun a oe cls d pn _ _ => pss_one (ps_ret pe_str)) (.cons ⟨rfl, by decide, .inl R.b⟩ (fun a oe cls d pn _ _ => pss_one (ps_ret pe_str)) (.cons ⟨rfl, by decide, .inl R.w⟩ (fun a oe cls d pn _ _ => pss_one (ps_ret pe_str)) (.cons ⟨rfl, by decide, .inl R.l⟩ (fun a oe cls d pn _ _ => pss_one (ps_ret pe_str)) .nil))))), ?_⟩
  · refine ⟨fun pins s' σ H' D I h' => ?_⟩
    obtain ⟨Ech, hW, h1, h2, h3⟩ := h'
    exact (pss_one (ps_ret (act W pn xe Ech _ _ tk hW))).run pins s' σ H' D I ⟨h1, h2, h3⟩
  · refine ⟨fun cls _ H' => (cls = .ref aT ∧ Q (.str "formula") H') ∨ (cls = .ref aB ∧ Q (.str "term") H') ∨ (cls = .ref aW ∧ Q (.str "no way") H') ∨ (cls = .ref aL ∧ Q (.str "large") H'), fun cls d σ' H' hh => ?_, rfl, hc, h⟩
    have no : ∀ {p : Prop}, (false : Bool) = true → p := fun y => absurd y (by decide)
    have ye : ∀ {p : Prop}, (true : Bool) = false → p := fun y => absurd y (by decide)
    rcases hh with ⟨e, z⟩ | ⟨e, z⟩ | ⟨e, z⟩ | ⟨e, z⟩ <;> subst e
    · exact ⟨true, R.tt, fun _ a _ => z, fun y => ye y⟩
    · exact ⟨false, R.bt, fun y => no y, fun _ => ⟨true, R.bb, fun _ a _ => z, fun y => ye y⟩⟩
    · exact ⟨false, R.wt, fun y => no y, fun _ => ⟨false, R.wb, fun y => no y, fun _ => ⟨true, R.ww, fun _ a _ => z, fun y => ye y⟩⟩⟩
    · exact ⟨false, R.lt, fun y => no y, fun _ => ⟨false, R.lb, fun y => no y, fun _ => ⟨false, R.lw, fun y => no y, fun _ => ⟨true, R.ll, fun _ a _ => z, fun y => ye y⟩⟩⟩⟩
end Sq
set_option Elab.async false
set_option linter.all false
set_option maxRecDepth 100000
set_option maxHeartbeats 2000000
namespace Sq
open PySem PySem.Spec PyProof.Rows L2
/-! ### what stays through a law's turns: the dice, two tables, the lambdas' table -/
structure RI (ds : List Addr) (p tN tS tL : Addr) (q : Str) (H : Hp) : Prop where
  p : H p = some (.lst (ds.map V.ref))
  d : ∀ d ∈ ds, DiceAt H d
  tn : GxR.TabG H tN
  ts : GxR.TabG H tS
  tl : LamX.TabS H tL q
theorem code_lst {c : Addr} {q : Str} {xs : List V} : LamX.CodeO c q ≠ .lst xs := fun z => by unfold LamX.CodeO at z; cases z
theorem TabG.nl {t : Addr} {H : Hp} (ht : GxR.TabG H t) {a : Addr} {xs : List V} (k : H a = some (.lst xs)) : a ∉ [t] := fun w => by
  obtain ⟨ps, hps, _⟩ := ht
  rw [show a = t by simpa using w, hps] at k; cases k
theorem TabS.nl {t : Addr} {q : Str} {H : Hp} (ht : LamX.TabS H t q) {a : Addr} {xs : List V} (k : H a = some (.lst xs)) : a ∉ [t] := fun w => by
  obtain ⟨ps, hps, _⟩ := ht
  rw [show a = t by simpa using w, hps] at k; cases k
theorem dice_ne {H : Hp} {d D : Addr} {l : List Str} (h : DiceAt H d) (e : H D = some (.lst (l.map V.str))) : D ∉ [d] := fun z => by
  obtain ⟨x, y, z', hd⟩ := h
  rw [show D = d by simpa using z, hd] at e
  cases l with
  | nil => cases e
  | cons a l => cases e
section
variable {ds : List Addr} {p tN tS tL : Addr} {q : Str} {H H' : Hp}
theorem RI.ext0 (h : RI ds p tN tS tL q H) (e : Ext [] H H') : RI ds p tN tS tL q H' :=
  ⟨e.lst0 h.p, fun d hd => DiceAt.ext0 e (h.d d hd), e.tab _ h.tn, e.tab _ h.ts, TabS.keep h.tl e (fun z => nomatch z) fun _ z => nomatch z⟩
theorem RI.step {d : Addr} (h : RI ds p tN tS tL q H) (hp : p ∉ ds) (hd : d ∈ ds) (e : Ext [d] H H') (h' : DiceAt H' d) : RI ds p tN tS tL q H' := by
  obtain ⟨x, y, z, hdl⟩ := h.d d hd
  refine ⟨e.lst h.p fun w => hp (by rw [show p = d by simpa using w]; exact hd), fun d' hd' => ?_, e.tab _ h.tn, e.tab _ h.ts, TabS.keep h.tl e (fun w => ?_) fun a ha c => ?_⟩
  · by_cases q : d' = d
    · rw [q]; exact h'
    · obtain ⟨x, y, z, r⟩ := h.d d' hd'
      exact ⟨x, y, z, e.lst r (by simpa using q)⟩
  · obtain ⟨ps, h1, _⟩ := h.tl
    rw [show tL = d by simpa using w, hdl] at h1
    cases h1
  · rw [show a = d by simpa using ha, hdl]
    exact fun w => code_lst (Option.some.inj w).symm
theorem RI.tab {t : Addr} (h : RI ds p tN tS tL q H) (ht : GxR.TabG H t) (n : tL ≠ t) (e : Ext [t] H H') : RI ds p tN tS tL q H' := by
  obtain ⟨ps, hps, _⟩ := id ht
  refine ⟨e.lst h.p (TabG.nl ht h.p), fun d hd => ?_, e.tab _ h.tn, e.tab _ h.ts, TabS.keep h.tl e (fun w => n (by simpa using w)) fun a ha c => ?_⟩
  · obtain ⟨x, y, z, r⟩ := h.d d hd
    exact ⟨x, y, z, e.lst r (TabG.nl ht r)⟩
  · rw [show a = t by simpa using ha, hps]
    exact fun w => LamX.codeO_ne ps (Option.some.inj w).symm
theorem RI.lam (h : RI ds p tN tS tL q H) (e : Ext [tL] H H') (ht : LamX.TabS H' tL q) : RI ds p tN tS tL q H' := by
  refine ⟨e.lst h.p (TabS.nl h.tl h.p), fun d hd => ?_, e.tab _ h.tn, e.tab _ h.ts, ht⟩
  obtain ⟨x, y, z, r⟩ := h.d d hd
  exact ⟨x, y, z, e.lst r (TabS.nl h.tl r)⟩
end
end Sq
set_option Elab.async false
set_option linter.all false
set_option maxRecDepth 100000
set_option maxHeartbeats 2000000
namespace Sq
open PySem PySem.Spec PyProof.Rows L2
/-! ### what stays through a law's turns: the dice, any number of tables, the lambdas' table -/
structure RJ (ds : List Addr) (p : Addr) (ts : List Addr) (tL : Addr) (q : Str) (H : Hp) : Prop where
  p : H p = some (.lst (ds.map V.ref))
  d : ∀ d ∈ ds, DiceAt H d
  t : ∀ t ∈ ts, GxR.TabG H t
  tl : LamX.TabS H tL q
theorem tabs_nl {ts : List Addr} {H : Hp} (h : ∀ t ∈ ts, GxR.TabG H t) {a : Addr} {xs : List V} (k : H a = some (.lst xs)) : a ∉ ts := fun w => by
  obtain ⟨ps, hps, _⟩ := h a w
  rw [hps] at k; cases k
section
variable {ds ts : List Addr} {p tL : Addr} {q : Str} {H H' : Hp}
theorem RJ.ext0 (h : RJ ds p ts tL q H) (e : Ext [] H H') : RJ ds p ts tL q H' :=
  ⟨e.lst0 h.p, fun d hd => DiceAt.ext0 e (h.d d hd), fun t ht => e.tab _ (h.t t ht), TabS.keep h.tl e (fun z => nomatch z) fun _ z => nomatch z⟩
theorem RJ.step {d : Addr} (h : RJ ds p ts tL q H) (hp : p ∉ ds) (hd : d ∈ ds) (e : Ext [d] H H') (h' : DiceAt H' d) : RJ ds p ts tL q H' := by
  obtain ⟨x, y, z, hdl⟩ := h.d d hd
  refine ⟨e.lst h.p fun w => hp (by rw [show p = d by simpa using w]; exact hd), fun d' hd' => ?_, fun t ht => e.tab _ (h.t t ht), TabS.keep h.tl e (fun w => ?_) fun a ha c => ?_⟩
  · by_cases q : d' = d
    · rw [q]; exact h'
    · obtain ⟨x, y, z, r⟩ := h.d d' hd'
      exact ⟨x, y, z, e.lst r (by simpa using q)⟩
  · obtain ⟨ps, h1, _⟩ := h.tl
    rw [show tL = d by simpa using w, hdl] at h1
    cases h1
  · rw [show a = d by simpa using ha, hdl]
    exact fun w => code_lst (Option.some.inj w).symm
theorem RJ.tabs {S : List Addr} (h : RJ ds p ts tL q H) (hS : ∀ t ∈ S, t ∈ ts) (n : tL ∉ ts) (e : Ext S H H') : RJ ds p ts tL q H' := by
  have hg : ∀ t ∈ S, GxR.TabG H t := fun t ht => h.t t (hS t ht)
  refine ⟨e.lst h.p (tabs_nl hg h.p), fun d hd => ?_, fun t ht => e.tab _ (h.t t ht), TabS.keep h.tl e (fun w => n (hS _ w)) fun a ha c => ?_⟩
  · obtain ⟨x, y, z, r⟩ := h.d d hd
    exact ⟨x, y, z, e.lst r (tabs_nl hg r)⟩
  · obtain ⟨ps, hps, _⟩ := hg a ha
    rw [hps]
    exact fun w => LamX.codeO_ne ps (Option.some.inj w).symm
theorem RJ.lam (h : RJ ds p ts tL q H) (e : Ext [tL] H H') (ht : LamX.TabS H' tL q) : RJ ds p ts tL q H' := by
  refine ⟨e.lst h.p (TabS.nl h.tl h.p), fun d hd => ?_, fun t k => e.tab _ (h.t t k), ht⟩
  obtain ⟨x, y, z, r⟩ := h.d d hd
  exact ⟨x, y, z, e.lst r (TabS.nl h.tl r)⟩
end
end Sq
set_option Elab.async false
set_option linter.all false
set_option maxRecDepth 100000
set_option maxHeartbeats 4000000
namespace Sq
open PySem PySem.Spec PyProof.Rows L2
/-! ### what stays through a law's turns, with any number of lambdas' tables -/
structure RM (ds : List Addr) (p : Addr) (ts : List Addr) (ls : List (Addr × Str)) (H : Hp) : Prop where
  p : H p = some (.lst (ds.map V.ref))
  d : ∀ d ∈ ds, DiceAt H d
  t : ∀ t ∈ ts, GxR.TabG H t
  tl : ∀ x ∈ ls, LamX.TabS H x.1 x.2
section
variable {ds ts : List Addr} {p : Addr} {ls : List (Addr × Str)} {H H' : Hp}
theorem RM.ext0 (h : RM ds p ts ls H) (e : Ext [] H H') : RM ds p ts ls H' :=
  ⟨e.lst0 h.p, fun d hd => DiceAt.ext0 e (h.d d hd), fun t ht => e.tab _ (h.t t ht), fun x hx => TabS.keep (h.tl x hx) e (fun z => nomatch z) fun _ z => nomatch z⟩
theorem RM.step {d : Addr} (h : RM ds p ts ls H) (hp : p ∉ ds) (hd : d ∈ ds) (e : Ext [d] H H') (h' : DiceAt H' d) : RM ds p ts ls H' := by
  obtain ⟨x, y, z, hdl⟩ := h.d d hd
  refine ⟨e.lst h.p fun w => hp (by rw [show p = d by simpa using w]; exact hd), fun d' hd' => ?_, fun t ht => e.tab _ (h.t t ht), fun r hr => TabS.keep (h.tl r hr) e (fun w => ?_) fun a ha c => ?_⟩
  · by_cases q : d' = d
    · rw [q]; exact h'
    · obtain ⟨x, y, z, r⟩ := h.d d' hd'
      exact ⟨x, y, z, e.lst r (by simpa using q)⟩
  · obtain ⟨ps, h1, _⟩ := h.tl r hr
    rw [show r.1 = d by simpa using w, hdl] at h1
    cases h1
  · rw [show a = d by simpa using ha, hdl]
    exact fun w => code_lst (Option.some.inj w).symm
theorem RM.tabs {S : List Addr} (h : RM ds p ts ls H) (hS : ∀ t ∈ S, t ∈ ts ∨ t ∈ ls.map (·.1)) (e : Ext S H H') (n : ∀ x ∈ ls, x.1 ∈ S → LamX.TabS H' x.1 x.2) : RM ds p ts ls H' := by
  have hg : ∀ t ∈ S, ∃ ps, H t = some (.tbl ps) := fun t ht => by
    rcases hS t ht with w | w
    · obtain ⟨ps, h1, _⟩ := h.t t w; exact ⟨ps, h1⟩
    · obtain ⟨x, hx, rfl⟩ := List.mem_map.mp w
      obtain ⟨ps, h1, _⟩ := h.tl x hx
      exact ⟨ps, h1⟩
  have nl : ∀ {a xs}, H a = some (.lst xs) → a ∉ S := fun k w => by
    obtain ⟨ps, h1⟩ := hg _ w
    rw [h1] at k; cases k
  refine ⟨e.lst h.p (nl h.p), fun d hd => ?_, fun t ht => e.tab _ (h.t t ht), fun r hr => ?_⟩
  · obtain ⟨x, y, z, r⟩ := h.d d hd
    exact ⟨x, y, z, e.lst r (nl r)⟩
  · by_cases w : r.1 ∈ S
    · exact n r hr w
    · refine TabS.keep (h.tl r hr) e w fun a ha c => ?_
      obtain ⟨ps, h1⟩ := hg a ha
      rw [h1]
      exact fun w => LamX.codeO_ne ps (Option.some.inj w).symm
end
end Sq
set_option Elab.async false
set_option linter.all false
set_option maxRecDepth 100000
set_option maxHeartbeats 4000000
namespace Sq
open PySem PySem.Spec PyProof.Rows L2 RZ
local macro_rules | `(tactic| walk_at "rd") => `(tactic| simp only [tCont, tDisp, tPairs, rIndexS, wipe, tNoPart, tDG2, tDGF, tDInF, tDNInF, sDPutF, tDNewF, rSortD, rInS, rInT, rEqLF, tDcF, tDc2F, tLcF, tForF, tAllF, tAnyF, tSumF, iStr, iEnumF, iZipF, iKeysF, iItems, tLZip, tYes, tSeq, tIfS, tNext, tRet, tRetN, tDrop, tTest, tB, tNot, tAnd, tOr, tChain, tOp, tUn, tCB, tCons, tNil, tC, tVar, tIf, tAndV, tOrV, tNotV, tAsg, tPar, tPar3, gName, gSub, gTupF, gCons, gNil, tTupF, tLstF, rI0, rI, rIxF, rIxG, rIxS, rSetF, rSlF, rCatF, rCatL, rTupL, rListT, rListL, rLenT, rLenL, iTupF, iLstF, rAppF, rExtF, rPopF, tBM, tBM0, tSl, tPart, rEq, rNe, tCall, L2.start,
  List.map_cons, List.map_nil, List.length_cons, List.length_nil, Nat.sub_self, List.replicate, List.append_nil, List.cons_append, List.nil_append, List.getElem?_cons_zero, List.getElem?_cons_succ, List.set_cons_zero, List.set_cons_succ,
  exSl, exI, exI2, exB, exS, exR, ex1, ex1', V.int.injEq, V.bl.injEq, V.ref.injEq, V.str.injEq, Option.some.injEq, List.cons.injEq, and_true, true_and, reduceCtorEq, false_and, and_false, or_false, false_or, exists_false, exists_and_left, exists_eq_left', decide_eq_true_eq, decide_true, decide_false, if_false, if_true, ite_true, ite_false, Bool.false_eq_true, Bool.not_true, Bool.not_false, Nat.reduceAdd, Nat.reduceSub, Nat.zero_add, atI_0, atI_1, atI_2, atI_3, ixN_0, ixN_1, ixN_2, cutV_1, cutV_2, Option.some.injEq, HO.lst.injEq, HO.dK.injEq, scal])
local macro_rules | `(tactic| walk_at "rdc") => `(tactic| simp (config := { contextual := true }) only [tCont, tDisp, tPairs, rIndexS, wipe, tNoPart, tDG2, tDGF, tDInF, tDNInF, sDPutF, tDNewF, rSortD, rInS, rInT, rEqLF, tDcF, tDc2F, tLcF, tForF, tAllF, tAnyF, tSumF, iStr, iEnumF, iZipF, iKeysF, iItems, tLZip, tYes, tSeq, tIfS, tNext, tRet, tRetN, tDrop, tTest, tB, tNot, tAnd, tOr, tChain, tOp, tUn, tCB, tCons, tNil, tC, tVar, tIf, tAndV, tOrV, tNotV, tAsg, tPar, tPar3, gName, gSub, gTupF, gCons, gNil, tTupF, tLstF, rI0, rI, rIxF, rIxG, rIxS, rSetF, rSlF, rCatF, rCatL, rTupL, rListT, rListL, rLenT, rLenL, iTupF, iLstF, rAppF, rExtF, rPopF, tBM, tBM0, tSl, tPart, rEq, rNe, tCall, L2.start,
  List.map_cons, List.map_nil, List.length_cons, List.length_nil, Nat.sub_self, List.replicate, List.append_nil, List.cons_append, List.nil_append, List.getElem?_cons_zero, List.getElem?_cons_succ, List.set_cons_zero, List.set_cons_succ,
  exSl, exI, exI2, exB, exS, exR, ex1, ex1', V.int.injEq, V.bl.injEq, V.ref.injEq, V.str.injEq, Option.some.injEq, List.cons.injEq, and_true, true_and, reduceCtorEq, false_and, and_false, or_false, false_or, exists_false, exists_and_left, exists_eq_left', decide_eq_true_eq, decide_true, decide_false, if_false, if_true, ite_true, ite_false, Bool.false_eq_true, Bool.not_true, Bool.not_false, Nat.reduceAdd, Nat.reduceSub, Nat.zero_add, atI_0, atI_1, atI_2, atI_3, ixN_0, ixN_1, ixN_2, cutV_1, cutV_2, Option.some.injEq, HO.lst.injEq, HO.dK.injEq, scal, *])
section
variable {P : Program} {w : World} {K : PySem.W.Frag} {mg : Str → Option Value} {base : Heap} {f c tb tw : Addr} {fd : FuncData} {NS NV : List Str}
abbrev n__law_rounds : List Str := ["script", "most", "cells", "cell"]
theorem sc__law_rounds : FnScope n__law_rounds ["script", "most"] (defScope s__law_rounds) := ⟨rfl, rfl, rfl, by decide +kernel, rfl, by decide +kernel, by decide +kernel⟩
/-- the script's list, whatever its numbers -/
def spRounds (K : PySem.W.Frag) (most : Nat) : Sp := fun vs H Q _ => ∃ (a : Addr) (ns : List Int), vs = [.ref a, .int (most : Nat)] ∧ SqL K H a (ns.map V.int) ∧
  ∀ (p : Addr) (ds : List Addr) (H' : Hp), Ext [] H H' → H' p = some (.lst (ds.map V.ref)) → ds.length ≤ most → (∀ d ∈ ds, DiceAt H' d) → ds.Nodup → p ∉ ds → Q (.ref p) H'
theorem ok_rounds {most : Nat} (hmo : 1 ≤ most ∧ most ≤ 50) (F : Dn K mg "_law_rounds" s__law_rounds f fd c) (B : Bl mg) (G__law_dice : Cal P w K mg base 1 "_law_dice" spDice) : Cal P w K mg base 2 "_law_rounds" (spRounds K most) := by
  refine F.cal (ps := ["script", "most"]) (fun _ _ _ _ _ _ us hl => match us, hl with | [_, _], _ => rfl) sc__law_rounds (fun vs H Q E h => ?_) (fun A outer s H vs Q E hr h => ?_)
  · obtain ⟨_, _, rfl, _⟩ := h; rfl
  obtain ⟨a, ns, rfl, ha, q⟩ := h
  refine ⟨_, (pss_cons (ps_set (i := 2) sc__law_rounds.nd rfl (by first | exact Or.inl rfl | exact Or.inr rfl) (pe_slice sl_list (pv 0) po_none (po_some (pv 1))))
    (pss_cons (ps_if (pt_cmpR (op_eqLK K hr.units) (pv 2) (pe_lstF pa_nil) (nomark _)) (pss_one (ps_set (i := 2) sc__law_rounds.nd rfl (by first | exact Or.inl rfl | exact Or.inr rfl) (pe_lstF (pa_cons pe_int pa_nil)))) pss_nil)
    (pss_one (ps_ret (pe_lcF (own := [("cell", 3)]) rfl sc__law_rounds.nd (pi_lstK K (pv 2)) (blkOk_by (own := [("cell", 3)]) (N := n__law_rounds) (sc := defScope s__law_rounds) (by decide +kernel)) (fun _ _ _ _ _ => (pg_name (i := 3) sc__law_rounds.nd rfl (by first | exact Or.inl rfl | exact Or.inr rfl))) (fun _ _ _ _ _ => pts_nil) (fun _ _ _ _ _ => (C8.pe_c G__law_dice hr (by omega) (by rfl) (pa_cons (pv 3) pa_nil)))))))), ?_⟩
  have mk : ∀ (pl : Addr) (ms : List Int) (H1 : Hp) (x0 x1 x2 : Option V), ms.length ≤ most → Ext [] H H1 → H1 pl = some (.lst (ms.map V.int)) → LcB (Itl K pl) (gName 3) tYes (tCall spDice [] C8.E0 (tCons (tVar 3) tNil)) [3] [x0, x1, x2, none] H1 Q := fun pl ms H1 x0 x1 x2 hl e1 h1 => by
    refine lc_go walk_list (fun D i ys H' => ∃ ds : List Addr, ys = ds.map V.ref ∧ ds.length = i ∧ Ext [] H1 H' ∧ (∀ d ∈ ds, DiceAt H' d ∧ d ≠ D) ∧ ds.Nodup) (fun D hD => ⟨[], rfl, rfl, Ext.new hD, fun d hd => (by cases hd), List.nodup_nil⟩) (fun D i ys H' ⟨_, _, _, e, _⟩ => SqL.of (e.lst0 h1)) (fun D i x ys H' H'' hD hi ⟨ds, hys, hdl, e, hds, nd⟩ hyl hH y => ?_) fun D ys H' hD ⟨ds, hys, hdl, e, hds, nd⟩ hH _ => ?_
    · obtain ⟨rfl, hx⟩ := y
      rw [List.getElem?_map] at hx
      cases hm : ms[i]? with
      | none => rw [hm] at hx; cases hx
      | some n =>
        rw [hm] at hx
        cases hx
        walk_at "rd"
        have hs1 : (100 : Nat) < sizeLine := by decide
        rw [List.length_map] at hi
        refine ⟨n, rfl, fun p H2 hp e2 hdp => ⟨ys, e2.lst0 hH, by omega, ys ++ [.ref p], by rw [List.length_append, List.length_singleton]; omega, upd_same, ds ++ [p], by rw [hys, List.map_append]; rfl, by rw [List.length_append, List.length_singleton]; omega, (e.trans e2).over hD (Ext.setL List.mem_cons_self (e2.lst0 hH)), fun d hd => ?_, ?_⟩⟩
        · have keep : ∀ d, DiceAt H2 d → d ≠ D → DiceAt (upd H2 D (.lst (ys ++ [.ref p]))) d ∧ d ≠ D := fun d ⟨x, y, z, h⟩ n => ⟨⟨x, y, z, by rw [upd_ne n]; exact h⟩, n⟩
          rcases List.mem_append.mp hd with z | z
          · obtain ⟨⟨x, y, z, h⟩, n⟩ := hds d z
            exact keep d ⟨x, y, z, e2.lst0 h⟩ n
          · have : d = p := by simpa using z
            subst this
            exact keep d hdp fun z => by rw [z, hH] at hp; cases hp
        · refine List.nodup_append.mpr ⟨nd, by simp, fun a ha b hb e => ?_⟩
          have hb' : b = p := by simpa using hb
          subst hb' e
          obtain ⟨⟨x, y, z, h⟩, _⟩ := hds a ha
          rw [h] at hp
          cases hp
    · rw [List.length_map] at hdl
      exact q D ds H' (e1.trans e) (by rw [hH, hys]) (by omega) (fun d hd => (hds d hd).1) nd fun hm => (hds D hm).2 rfl
  have tdi : ∀ (ms : List Int) (H1 : Hp), TdAll K H1 (ms.map V.int) (ms.map PyData.int) := fun ms H1 => by
    induction ms with
    | nil => exact .nil
    | cons m ms ih => exact .cons (.int m) ih
  have shi : ∀ ms : List Int, SeqAt.shaped (.list (ms.map PyData.int)) = true := fun ms => by
    have : PyData.canLayAll0 (ms.map PyData.int) = true ∧ PyData.depthAll (ms.map PyData.int) = 0 := by
      induction ms with
      | nil => exact ⟨by rw [List.map_nil, PyData.canLayAll0], by rw [List.map_nil, PyData.depthAll]⟩
      | cons x l ih => exact ⟨by rw [List.map_cons, PyData.canLayAll0, ih.1, PyData.canLay0]; rfl, by rw [List.map_cons, PyData.depthAll, ih.2, PyData.depth]; rfl⟩
    unfold SeqAt.shaped
    rw [PyData.canLay0, PyData.depth, this.1, this.2]
    rfl
  have she : SeqAt.shaped (.list []) = true := by decide +kernel
  have hcut : cutV (ns.map V.int) none (some (most : Nat)) = (ns.take most).map V.int := by
    have := cutV_to (xs := ns.map V.int) (k := most)
    rw [List.map_take]
    exact this
  have h4 : (ns.take most).length ≤ most := by rw [List.length_take]; omega
  walk_at "rd"
  refine ⟨a, ns.map V.int, rfl, ha, fun p1 hp1 => ⟨by decide, fun p2 H2 n2 e2 h2 => ⟨p1, rfl, _, e2.lst0 upd_same, _, h2, (ns.take most).map PyData.int, by rw [hcut]; exact tdi _ _, [], .nil, shi _, she, ?_⟩⟩⟩
  have e02 : Ext [] H H2 := (Ext.new hp1).trans e2
  by_cases hq : PyData.eqvAll ((ns.take most).map PyData.int) [] = true
  · rw [if_pos hq]
    exact ⟨by decide, fun p3 H3 n3 e3 h3 => ⟨_, h3, mk p3 [0] H3 _ _ _ (by simpa using hmo.1) (e02.trans e3) h3⟩⟩
  · rw [if_neg hq]
    refine ⟨p1, rfl, _, e2.lst0 upd_same, ?_⟩
    exact mk p1 (ns.take most) H2 _ _ _ h4 e02 (by rw [← hcut]; exact e2.lst0 upd_same)
end
end Sq
set_option Elab.async false
set_option linter.all false
set_option maxRecDepth 100000
set_option maxHeartbeats 4000000
namespace Sq
open PySem PySem.Spec PyProof.Rows L2 RZ
/-! ### the strings that pass a test, laid into a new list -/
section
variable {K : PySem.W.Frag}
theorem lc_filS {J : It} {n : Nat} {G : Hp → Prop} {Y : Nat → Hp → V → Hp → Prop} {tt : TT} {vs : List Nat} {σ : L2.St} {H1 : Hp} {Q : VK} {i : Nat} (w : Walk J n G Y) (zs : List Str) (hn : n = zs.length) (hlen : n ≤ 1000) (hG : ∀ H', Ext [] H1 H' → G H') (hY : ∀ k H x H', Y k H x H' → H' = H ∧ ∃ z, zs[k]? = some z ∧ x = .str z) (bz : Str → Bool)
    (hσ : ∀ x, wipe ((wipe σ vs).set i (some x)) vs = wipe σ vs) (hi : ∀ x : V, ((wipe σ vs).set i (some x))[i]? = some (some x))
    (htt : ∀ (z : Str) (H' : Hp) (R : Bool → Hp → Prop), z ∈ zs → Ext [] H1 H' → (∀ H'', Ext [] H' H'' → R (bz z) H'') → tt ((wipe σ vs).set i (some (.str z))) H' R)
    (hd : ∀ D H', H1 D = none → Ext [] H1 H' → H' D = some (.lst ((zs.filter bz).map V.str)) → Q (.ref D) H') : LcB J (gName i) tt (tVar i) vs σ H1 Q := by
  subst hn
  refine lc_go w (fun D j ys H' => ys = ((zs.take j).filter bz).map V.str ∧ Ext [] H1 H') (fun D hD => ⟨rfl, Ext.new hD⟩) (fun D j ys H' ⟨_, e⟩ => hG _ e) (fun D j x ys H' H'' hD hj ⟨hys, e⟩ hyl hH y => ?_) fun D ys H' hD ⟨hys, e⟩ hH _ => ?_
  · obtain ⟨rfl, z, hz, rfl⟩ := hY _ _ _ _ y
    refine ⟨hσ _, ?_⟩
    have hs1 : (10000 : Nat) < sizeLine := by decide
    refine htt z _ _ (List.mem_of_getElem? hz) e fun H3 e3 => ?_
    by_cases hb : bz z = true
    · rw [if_pos hb]
      refine ⟨_, hi _, ys, e3.lst0 hH, by omega, ys ++ [.str z], by rw [List.length_append, List.length_singleton]; omega, upd_same, ?_, (e.trans e3).over hD (Ext.setL List.mem_cons_self (e3.lst0 hH))⟩
      rw [take_snoc hz, List.filter_append, List.map_append, hys]; simp [hb]
    · rw [if_neg hb]
      refine ⟨ys, by omega, e3.lst0 hH, ?_, e.trans e3⟩
      rw [take_snoc hz, List.filter_append, List.map_append, hys]; simp [hb]
  · refine hd D H' hD e ?_
    rw [hH, hys, List.take_length]
end
/-! lists of strings -/
theorem tdStrs {K : PySem.W.Frag} {H : Hp} : ∀ ns : List Str, TdAll K H (ns.map V.str) (ns.map PyData.str)
  | [] => .nil
  | n :: ns => .cons (.str n) (tdStrs ns)
theorem shStrs {ns : List Str} (h : ∀ n ∈ ns, PyData.strOk n = true) : SeqAt.shaped (.list (ns.map PyData.str)) = true := by
  have : PyData.canLayAll0 (ns.map PyData.str) = true ∧ PyData.depthAll (ns.map PyData.str) = 0 := by
    induction ns with
    | nil => exact ⟨by rw [List.map_nil, PyData.canLayAll0], by rw [List.map_nil, PyData.depthAll]⟩
    | cons x l ih =>
      have ih := ih fun n hn => h n (List.mem_cons_of_mem _ hn)
      exact ⟨by rw [List.map_cons, PyData.canLayAll0, ih.1, PyData.canLay0, h x List.mem_cons_self]; rfl, by rw [List.map_cons, PyData.depthAll, ih.2, PyData.depth]; rfl⟩
  unfold SeqAt.shaped
  rw [PyData.canLay0, PyData.depth, this.1, this.2]
  rfl
theorem eqvStrs : ∀ ns : List Str, PyData.eqvAll (ns.map PyData.str) (ns.map PyData.str) = true
  | [] => (by simp [PyData.eqvAll])
  | n :: ns => by rw [List.map_cons, PyData.eqvAll, eqvStrs ns, PyData.eqv]; simp
end Sq
set_option Elab.async false
set_option linter.all false
set_option pp.deepTerms false
set_option pp.deepTerms.threshold 12
set_option pp.maxSteps 200000
set_option format.width 2000
set_option format.indent 1
set_option maxRecDepth 100000
set_option maxHeartbeats 8000000
namespace Sq
open PySem PySem.Spec PyProof.Rows L2 RZ
local macro_rules | `(tactic| walk_at "rd") => `(tactic| simp only [tCont, tNever, iEnumL, tDG2, tTIdx, rU, tAugS, ipI, rGetN, iRng1, iRng2, rIsTup, rIsStr, rEqF, rIsN, rNotN, tWhile, rEqQ, tMkI, tLamX, TTa, tDisp, tPairs, rIndexS, wipe, tNoPart, tDG2, tDGF, tDInF, tDNInF, sDPutF, tDNewF, rSortD, rInS, rInT, rEqLF, tDcF, tDc2F, tLcF, tForF, tAllF, tAnyF, tSumF, iStr, iEnumF, iZipF, iKeysF, iItems, tLZip, tYes, tSeq, tIfS, tNext, tRet, tRetN, tDrop, tTest, tB, tNot, tAnd, tOr, tChain, tOp, tUn, tCB, tCons, tNil, tC, tVar, tIf, tAndV, tOrV, tNotV, tAsg, tPar, tPar3, gName, gSub, gTupF, gCons, gNil, tTupF, tLstF, rI0, rI, rIxF, rIxG, rIxS, rSetF, rSlF, rCatF, rCatL, rTupL, rListT, rListL, rLenT, rLenL, iTupF, iLstF, rAppF, rExtF, rPopF, tBM, tBM0, tSl, tPart, rEq, rNe, tCall, L2.start,
  List.map_cons, List.map_nil, List.length_cons, List.length_nil, Nat.sub_self, List.replicate, List.append_nil, List.cons_append, List.nil_append, List.getElem?_cons_zero, List.getElem?_cons_succ, List.set_cons_zero, List.set_cons_succ,
  exSl, exI, exI2, exB, exS, exR, ex1, ex1', V.int.injEq, V.bl.injEq, V.ref.injEq, V.str.injEq, Option.some.injEq, List.cons.injEq, and_true, true_and, reduceCtorEq, false_and, and_false, or_false, false_or, exists_false, exists_and_left, exists_eq_left', decide_eq_true_eq, decide_true, decide_false, if_false, if_true, ite_true, ite_false, Bool.false_eq_true, Bool.not_true, Bool.not_false, Nat.reduceAdd, Nat.reduceSub, Nat.zero_add, atI_0, atI_1, atI_2, atI_3, ixN_0, ixN_1, ixN_2, cutV_1, cutV_2, Option.some.injEq, HO.lst.injEq, HO.dK.injEq, scal])
local macro_rules | `(tactic| walk_at "rdc") => `(tactic| simp (config := { contextual := true }) only [tCont, tNever, iEnumL, tDG2, tTIdx, rU, tAugS, ipI, rGetN, iRng1, iRng2, rIsTup, rIsStr, rEqF, rIsN, rNotN, tWhile, rEqQ, tMkI, tLamX, TTa, tDisp, tPairs, rIndexS, wipe, tNoPart, tDG2, tDGF, tDInF, tDNInF, sDPutF, tDNewF, rSortD, rInS, rInT, rEqLF, tDcF, tDc2F, tLcF, tForF, tAllF, tAnyF, tSumF, iStr, iEnumF, iZipF, iKeysF, iItems, tLZip, tYes, tSeq, tIfS, tNext, tRet, tRetN, tDrop, tTest, tB, tNot, tAnd, tOr, tChain, tOp, tUn, tCB, tCons, tNil, tC, tVar, tIf, tAndV, tOrV, tNotV, tAsg, tPar, tPar3, gName, gSub, gTupF, gCons, gNil, tTupF, tLstF, rI0, rI, rIxF, rIxG, rIxS, rSetF, rSlF, rCatF, rCatL, rTupL, rListT, rListL, rLenT, rLenL, iTupF, iLstF, rAppF, rExtF, rPopF, tBM, tBM0, tSl, tPart, rEq, rNe, tCall, L2.start,
  List.map_cons, List.map_nil, List.length_cons, List.length_nil, Nat.sub_self, List.replicate, List.append_nil, List.cons_append, List.nil_append, List.getElem?_cons_zero, List.getElem?_cons_succ, List.set_cons_zero, List.set_cons_succ,
  exSl, exI, exI2, exB, exS, exR, ex1, ex1', V.int.injEq, V.bl.injEq, V.ref.injEq, V.str.injEq, Option.some.injEq, List.cons.injEq, and_true, true_and, reduceCtorEq, false_and, and_false, or_false, false_or, exists_false, exists_and_left, exists_eq_left', decide_eq_true_eq, decide_true, decide_false, if_false, if_true, ite_true, ite_false, Bool.false_eq_true, Bool.not_true, Bool.not_false, Nat.reduceAdd, Nat.reduceSub, Nat.zero_add, atI_0, atI_1, atI_2, atI_3, ixN_0, ixN_1, ixN_2, cutV_1, cutV_2, Option.some.injEq, HO.lst.injEq, HO.dK.injEq, scal, *])
section
variable {P : Program} {w : World} {K : PySem.W.Frag} {mg : Str → Option Value} {base : Heap} {f c tM tL aT aB aW aL : Addr} {fd : FuncData}
abbrev s_law : Stmt := top 47
abbrev n_law : List Str := ["script", "dice", "thing", "other", "clear", "one", "two", "bare", "made_there", "name", "best", "free_type", "rows", "here", "turn", "after", "letter", "laid_v", "again", "part"]
theorem sc_law : FnScope n_law ["script"] (defScope s_law) := ⟨rfl, rfl, rfl, by decide +kernel, rfl, by decide +kernel, by decide +kernel⟩
theorem Cg.In.ok : ∀ {t : Cg} {D : Nat}, t.In D → t.Ok ∧ t.dep ≤ D + 2
  | .l _, D, _ => ⟨trivial, by show 1 ≤ D + 2; omega⟩
  | .v x, D, h => ⟨by
      show PyData.strOk x = true
      rcases h with rfl | rfl <;> decide +kernel, by show 2 ≤ D + 2; omega⟩
  | .ap f a, D, h => by
    obtain ⟨e, rfl, h1, h2⟩ := h
    have i1 := Cg.In.ok h1
    have i2 := Cg.In.ok h2
    exact ⟨⟨i1.1, i2.1⟩, by show max f.dep a.dep + 1 ≤ _; omega⟩
theorem Cg.put_ok {x : Str} {o : Cg} : ∀ {t : Cg}, t.Ok → o.Ok → (t.put x o).Ok ∧ (t.put x o).dep ≤ t.dep + o.dep
  | .l _, _, ho => ⟨trivial, by show 1 ≤ 1 + o.dep; omega⟩
  | .v y, h, ho => by
    show (if y = x then o else Cg.v y).Ok ∧ (if y = x then o else Cg.v y).dep ≤ 2 + o.dep
    split
    · exact ⟨ho, by omega⟩
    · exact ⟨h, by show 2 ≤ 2 + o.dep; omega⟩
  | .ap f a, h, ho => by
    have i1 := Cg.put_ok (x := x) h.1 ho
    have i2 := Cg.put_ok (x := x) h.2 ho
    exact ⟨⟨i1.1, i2.1⟩, by show max (f.put x o).dep (a.put x o).dep + 1 ≤ max f.dep a.dep + 1 + o.dep; omega⟩
def spOfB0 (K : PySem.W.Frag) (k : Nat) : Sp := fun vs H Q _ => ∃ (v : V) (b : Bt), vs = [v] ∧ Td K H v b.data ∧ b.Ok3 ∧ b.bd ≤ 100 ∧ b.dep + 104 ≤ k ∧ ∀ v' H', Ext [] H H' → Td K H' v' (ofB b).data → Q v' H'
theorem ofB0 {k j : Nat} (C : CalX P w K mg base j "of_bare" (spOfB K k aB)) : Cal P w K mg base j "of_bare" (spOfB0 K k) := by
  refine C.cal fun vs H Q E ⟨v, b, e, h1, h2, h3, h4, q⟩ => ⟨v, e, .inl ⟨b, h1, h2, h3, h4, q⟩⟩
def spEndC0 (K : PySem.W.Frag) : Sp := fun vs H Q _ => ∃ (vt : V) (t : Cg) (m : Nat) (u : Cg) (n : Nat), vs = [vt, .int (m : Nat)] ∧ Td K H vt t.data ∧ t.Ok ∧ t.dep + m ≤ 140 ∧ m ≤ 100 ∧ Cg.endC (m + 1) t 0 = some (u, n) ∧
  ∀ (p : Addr) v H', Ext [] H H' → tupF K H' p = some [v, .int (n : Nat)] → Td K H' v u.data → u.Ok → u.dep ≤ 150 → Q (.ref p) H'
theorem endC0 {j : Nat} (C : CalX P w K mg base j "end" (spEndC K aL)) : Cal P w K mg base j "end" (spEndC0 K) := by
  refine C.cal fun vs H Q E ⟨vt, t, m, u, n, e, h1, h2, h3, h4, h5, q⟩ => ⟨vt, t, m, e, h1, h2, h3, h4, ?_⟩
  rw [h5]
  exact q
/-- what the law is told of an end -/
def EndV (K : PySem.W.Frag) (H : Hp) (v : V) (t : Cg) (m : Nat) : Prop := match Cg.endC (m + 1) t 0 with
  | some (u, n) => ∃ p w, v = .ref p ∧ tupF K H p = some [w, .int (n : Nat)] ∧ Td K H w u.data ∧ u.Ok ∧ u.dep ≤ 150
  | none => v = .str "large"
theorem EndV.ext {S : List Addr} {H H' : Hp} {v : V} {t : Cg} {m : Nat} (h : EndV K H v t m) (e : Ext S H H') : EndV K H' v t m := by
  unfold EndV at h ⊢
  cases hc : Cg.endC (m + 1) t 0 with
  | none => rw [hc] at h; exact h
  | some z => rw [hc] at h; obtain ⟨p, w, h1, h2, h3, h4⟩ := h; exact ⟨p, w, h1, tupF_ext e h2, h3.ext e, h4⟩
theorem CalX.imp {x : Str} {sp sp' : Sp} {k : Nat} (C : CalX P w K mg base k x sp) (h : ∀ vs H Q E, sp' vs H Q E → sp vs H Q E) : CalX P w K mg base k x sp' := by
  obtain ⟨f, fd, ps, F, r⟩ := C.ex
  exact ⟨f, fd, ps, ⟨fun vs H Q E z => F.len _ _ _ _ (h _ _ _ _ z), fun A outer s H args us vs Q E hr e0 bd r z => F.run A outer s H args us vs Q E hr e0 bd r (h _ _ _ _ z)⟩, r⟩
/-- the end, or that it is too far: what is asked of both -/
def spEndT (K : PySem.W.Frag) (aL : Addr) : Sp := fun vs H Q E => ∃ (vt : V) (t : Cg) (m : Nat), vs = [vt, .int (m : Nat)] ∧ Td K H vt t.data ∧ t.Ok ∧ t.dep + m ≤ 140 ∧ m ≤ 100 ∧ (∀ J, Q (.str "large") J → E (.ref aL) none J) ∧ ∀ v J, Ext [] H J → EndV K J v t m → Q v J
theorem endT {j : Nat} (C : CalX P w K mg base j "end" (spEndC K aL)) : CalX P w K mg base j "end" (spEndT K aL) := by
  refine C.imp fun vs H Q E ⟨vt, t, m, e, h1, h2, h3, h4, q2, h⟩ => ⟨vt, t, m, e, h1, h2, h3, h4, ?_⟩
  unfold EndV at h
  cases hc : Cg.endC (m + 1) t 0 with
  | none =>
    rw [hc] at h
    exact fun H' e => q2 H' (h _ H' e rfl)
  | some z =>
    rw [hc] at h
    exact fun p v H' e h1 h2 h3 h4 => h _ H' e ⟨p, v, rfl, h1, h2, h3, h4⟩
/-- its data -/
theorem EndV.dat {H : Hp} {v : V} {t : Cg} {m : Nat} (h : EndV K H v t m) : (v = .str "large" ∧ Cg.endC (m + 1) t 0 = none) ∨ ∃ p w u n, Cg.endC (m + 1) t 0 = some (u, n) ∧ v = .ref p ∧ tupF K H p = some [w, .int ((n : Nat) : Int)] ∧ Td K H w u.data ∧ u.Ok ∧ u.dep ≤ 150 := by
  unfold EndV at h
  cases hc : Cg.endC (m + 1) t 0 with
  | none => rw [hc] at h; exact .inl ⟨h, rfl⟩
  | some z =>
    rw [hc] at h
    obtain ⟨p, w, h1, h2, h3, h4, h5⟩ := h
    exact .inr ⟨p, w, z.1, z.2, rfl, h1, h2, h3, h4, h5⟩
theorem deep_end {u : Cg} {n : Nat} (h : u.Ok) (hd : u.dep ≤ 160) : DeepD (.tuple [u.data, .int (n : Nat)]) := by
  have h1 := Cg.lay h
  have h2 := Cg.dep_data u
  refine ⟨by simp [PyData.canLay0, PyData.canLayAll0, h1], ?_⟩
  simp [PyData.depth, PyData.depthAll]
  omega
theorem strlarge : DeepD (.str "large") := ⟨by decide +kernel, by decide⟩
def FmV (K : PySem.W.Frag) (H : Hp) (v : V) (n : Nat) : Option Fm → Prop
  | none => v = .non
  | some g => Td K H v g.data ∧ g.dep ≤ n ∧ ∀ x ∈ g.names, x ∈ LET
theorem FmV.ext {S : List Addr} {H H' : Hp} {v : V} {n : Nat} {r : Option Fm} (h : FmV K H v n r) (e : Ext S H H') : FmV K H' v n r := by
  cases r with
  | none => exact h
  | some g => exact ⟨h.1.ext e, h.2⟩
def TyV (K : PySem.W.Frag) (H : Hp) (v : V) : Option (Option Fm) → Prop
  | none => v = .str "large"
  | some r => FmV K H v 30 r
theorem deepF {g : Fm} (hd : g.dep ≤ 60) (hn : ∀ x ∈ g.names, x ∈ LET) : DeepD g.data := by
  have := Fm.shaped (NS := LET) let_ok hn (by omega)
  exact ⟨SeqAt.canLay_of_shaped this, Nat.le_trans (SeqAt.depth_of_shaped this) (by decide)⟩
def spPrT (K : PySem.W.Frag) : Sp := fun vs H Q _ => ∃ (v : V) (b : Bt) (best : Option Fm), vs = [v] ∧ Td K H v b.data ∧ b.dep + 2 ≤ 60 ∧ prR b = some best ∧ ∀ v' H', Ext [] H H' → FmV K H' v' 40 best → Q v' H'
theorem prT {k : Nat} (C : Cal P w K mg base k "principal" (spPr K)) : Cal P w K mg base k "principal" (spPrT K) := by
  refine Cal.imp (fun vs H Q E ⟨v, b, best, e, h1, h2, h3, q⟩ => ⟨v, b, e, h1, h2, fun hg H' e' => ?_, fun g m ps hg => ?_⟩) C
  · rcases prR_out h3 with ⟨_, rfl⟩ | ⟨g, m, ps, hg', _⟩
    · exact q _ H' e' rfl
    · rw [hg] at hg'; cases hg'
  · rcases prR_out h3 with ⟨hg', _⟩ | ⟨g', m', ps', hg', hd, r2, hrun, hsafe, hout⟩
    · rw [hg] at hg'; cases hg'
    · rw [hg] at hg'
      cases hg'
      refine ⟨by omega, 200, r2, hrun, hsafe, fun hr H' e' => ?_, fun l hr _ v' H' e' hv' => ?_⟩
      · subst hr
        rcases hout with ⟨_, rfl⟩ | ⟨l, z, _⟩
        · exact q _ H' e' rfl
        · cases z
      · subst hr
        rcases hout with ⟨z, _⟩ | ⟨l', z, rfl, h4, h5⟩
        · cases z
        · cases z
          exact q v' H' e' ⟨hv', h4, h5⟩
def spTyT (K : PySem.W.Frag) (k : Nat) (aB aL : Addr) : Sp := fun vs H Q E => ∃ (v : V) (t : Cg), vs = [v] ∧ Td K H v t.data ∧ t.Ok ∧ t.dep + 3 ≤ k ∧ t.dep ≤ 150 ∧ t.wt ≤ 4000 ∧ ((gsC t 0 = none ∧ ∀ H', Ext [] H H' → E (.ref aB) none H') ∨ ∃ r, tyR t = some r ∧ (∀ J, Q (.str "large") J → E (.ref aL) none J) ∧ ∀ v' J, Ext [] H J → TyV K J v' r → Q v' J)
theorem tyT {k j : Nat} (C : CalX P w K mg base j "type_of" (spTyO K k aB aL)) : CalX P w K mg base j "type_of" (spTyT K k aB aL) := by
  refine C.imp fun vs H Q E ⟨v, t, e, h1, h2, h3, h4, h5, h⟩ => ⟨v, t, e, h1, h2, h3, h4, h5, ?_⟩
  rcases h with h | ⟨r, hr, q2, q⟩
  · exact .inl h
  · refine .inr ⟨r, hr, ?_⟩
    obtain ⟨g, k, qs, _, _, _, hc⟩ := tyR_out hr
    cases r with
    | none => exact fun H' e => q2 H' (q _ H' e rfl)
    | some r =>
      cases r with
      | none => exact fun H' e => q _ H' e rfl
      | some f =>
        refine fun v' H' e hv => q v' H' e ⟨hv, ?_⟩
        rcases hc with ⟨_, z⟩ | ⟨_, r2, _, _, z⟩
        · cases z
        · rcases z with ⟨_, z⟩ | ⟨l, _, z, z2, z3⟩
          · cases z
          · cases z
            exact ⟨z2, z3⟩
/-- rows of steps: each the step of the one before; the last one; all of them if fewer than five -/
structure RowsR (t : Cg) (ts : List Cg) (th : Cg) (i : Nat) : Prop where
  hd : ts.head? = some t
  ls : ts.getLast? = some th
  len : ts.length ≤ i + 1
  st : ∀ (j : Nat) (x y : Cg), ts[j]? = some x → ts[j + 1]? = some y → x.step = some y
  en : ts.length < i + 1 → th.step = none
theorem RowsR.start (t : Cg) : RowsR t [t] t 0 := ⟨rfl, rfl, Nat.le_refl _, fun j x y _ h => (by simp at h), fun h => absurd h (Nat.lt_irrefl _)⟩
theorem RowsR.all {t th : Cg} {ts : List Cg} {i : Nat} (h : RowsR t ts th i) (hok : t.Ok) : ∀ (j : Nat) (x : Cg), ts[j]? = some x → x.Ok ∧ x.dep ≤ t.dep + j := by
  intro j
  induction j with
  | zero =>
    intro x hx
    have := h.hd
    rw [List.head?_eq_getElem?, hx] at this
    cases this
    exact ⟨hok, Nat.le_refl _⟩
  | succ j ih =>
    intro x hx
    have hlt := (List.getElem?_eq_some_iff.mp hx).1
    have hj : ts[j]? = some ts[j] := List.getElem?_eq_getElem (by omega)
    obtain ⟨i1, i2⟩ := ih _ hj
    obtain ⟨k1, k2⟩ := Cg.step_dep (h.st j _ _ hj hx) i1
    exact ⟨k2, by omega⟩
theorem RowsR.ok {t th : Cg} {ts : List Cg} {i : Nat} (h : RowsR t ts th i) (hok : t.Ok) : th.Ok ∧ th.dep ≤ t.dep + i := by
  have := h.ls
  rw [List.getLast?_eq_getElem?] at this
  obtain ⟨i1, i2⟩ := h.all hok _ _ this
  have := h.len
  exact ⟨i1, by omega⟩
theorem RowsR.next {t th u : Cg} {ts : List Cg} {i : Nat} (h : RowsR t ts th i) (hs : th.step = some u) : RowsR t (ts ++ [u]) u (i + 1) := by
  have hl : ts.length = i + 1 := by
    have h1 := h.len
    by_cases h2 : ts.length < i + 1
    · have := h.en h2
      rw [hs] at this; cases this
    · omega
  have hlast := h.ls
  rw [List.getLast?_eq_getElem?] at hlast
  refine ⟨by rw [List.head?_append, h.hd]; rfl, by simp, by rw [List.length_append, hl]; exact Nat.le_refl _, fun j x y hx hy => ?_, fun z => by rw [List.length_append, hl] at z; exact absurd z (Nat.lt_irrefl _)⟩
  by_cases hj : j + 1 < ts.length
  · rw [List.getElem?_append_left hj] at hy
    rw [List.getElem?_append_left (by omega)] at hx
    exact h.st j x y hx hy
  · have hj2 : j + 1 = ts.length := by
      have := (List.getElem?_eq_some_iff.mp hy).1
      rw [List.length_append, List.length_singleton] at this
      omega
    rw [List.getElem?_append_right (by omega), hj2, Nat.sub_self] at hy
    cases hy
    rw [List.getElem?_append_left (by omega), show j = ts.length - 1 by omega, hlast] at hx
    cases hx
    exact hs
theorem RowsR.end {t th : Cg} {ts : List Cg} (h : RowsR t ts th 4) (hl : ts.length < 5) : Cg.endC 5 t 0 = some (th, ts.length - 1) := by
  have hth := h.en hl
  have hlast := h.ls
  rw [List.getLast?_eq_getElem?] at hlast
  have key : ∀ (m j : Nat) (x : Cg) (k : Nat), ts.length - 1 - j = m → ts[j]? = some x → m < k → Cg.endC k x j = some (th, ts.length - 1) := by
    intro m
    induction m with
    | zero =>
      intro j x k hm hx hk
      have hj := (List.getElem?_eq_some_iff.mp hx).1
      have : j = ts.length - 1 := by omega
      subst this
      rw [hlast] at hx
      cases hx
      obtain ⟨k, rfl⟩ : ∃ l, k = l + 1 := ⟨k - 1, by omega⟩
      rw [Cg.endC, hth]
    | succ m ih =>
      intro j x k hm hx hk
      obtain ⟨k, rfl⟩ : ∃ l, k = l + 1 := ⟨k - 1, by omega⟩
      have hy : ts[j + 1]? = some ts[j + 1] := List.getElem?_eq_getElem (by omega)
      rw [Cg.endC, h.st j x _ hx hy]
      exact ih (j + 1) _ k (by omega) hy (by omega)
  refine key (ts.length - 1) 0 t 5 rfl ?_ (by omega)
  have := h.hd
  rw [List.head?_eq_getElem?] at this
  exact this
theorem RowsR.stay {t th : Cg} {ts : List Cg} {i : Nat} (h : RowsR t ts th i) (hs : th.step = none) : RowsR t ts th (i + 1) := ⟨h.hd, h.ls, by have := h.len; omega, h.st, fun _ => hs⟩
theorem law_runs {s : Shared} {H : Hp} {a f1 c1 : Addr} {fd1 : FuncData} {ns : List Int} (F : Dn K mg "law" s_law f fd c) (hb : ∀ (s : Shared) (u : Value), BindsTo s fd ⟨[u], []⟩ [("script", u)]) (B : Bl mg) (G__law_rounds0 : Cal P w K mg base 2 "_law_rounds" (spRounds K 3))
    (G__law_thing0 : Cal P w K mg base 9 "_law_thing" (spThing K 9)) (G_without0 : Cal P w K mg base 60 "without" (spWo K 60)) (G_has0 : Cal P w K mg base 60 "has" (spHas K 60)) (G_is_closed0 : Cal P w K mg base 60 "is_closed" (spIcl K 60)) (G_weight0 : Cal P w K mg base 60 "weight" (spWt K 60))
    (X_end0 : CalX P w K mg base 161 "end" (spEndC K aL)) (G__law_put0 : Cal P w K mg base 60 "_law_put" (spLput K 60)) (G__law_bare0 : Cal P w K mg base 9 "_law_bare" (spBare15 K 9)) (X_of_bare0 : CalX P w K mg base 120 "of_bare" (spOfB K 120 aB)) (G_principal0 : Cal P w K mg base 66 "principal" (spPr K))
    (X_type_of0 : CalX P w K mg base 101 "type_of" (spTyO K 100 aB aL)) (G_matched0 : Cal P w K mg base 61 "matched" (spMt K LET tM)) (G_step0 : Cal P w K mg base 160 "step" (spStC K 160)) (G__law_part0 : Cal P w K mg base 112 "_law_part" (spPart15 K)) (G_head0 : Cal P w K mg base 2 "head" (spHead K))
    (D_told : Dn K mg "_law_told" s__law_told f1 fd1 c1) (ER : ErA K mg aT aB aW aL) (TBL : LamX.TabB base mg c tL)
    (en : Env0 P w K mg base callerA [] s H) (ha : SqL K H a (ns.map V.int)) (htm : GxR.TabG H tM) (htl : H tL = some (.tbl #[])) (nLM : tL ≠ tM) :
    codeAny (model P w) callerA (.call (.ref f) ⟨[.ref a], []⟩) (CR CX0 [] P w H s (fun v _ => v = .bl true) fun _ _ _ => False) s := by
  refine run_here (k := 168) (ps := ["script"]) (us := [.ref a]) (vs := [.ref a]) F sc_law ⟨rfl, by decide, by decide⟩ en (hb s (.ref a)) (.cons rfl .nil) rfl ?_
  have hr : Room 168 (callerA.deeper (envOfC "law" (defScope s_law) s.heap.objs.size f (.ref c))) := (⟨rfl, by decide, by decide⟩ : Room 169 callerA).deeper _
  have q : ∀ H' : Hp, (fun v _ => v = V.bl true : VK) (V.bl true) H' := fun _ => rfl
  revert q
  generalize (fun v _ => v = V.bl true : VK) = Q
  intro q
  have G__law_rounds := G__law_rounds0.mono (k := 168) (by omega)
  have G__law_thing := G__law_thing0.mono (k := 168) (by omega)
  have G_without := G_without0.mono (k := 168) (by omega)
  have G_has := G_has0.mono (k := 168) (by omega)
  have G_is_closed := G_is_closed0.mono (k := 168) (by omega)
  have G_weight := G_weight0.mono (k := 168) (by omega)
  have X_end := X_end0.mono (k := 166) (by omega)
  have G_end := endC0 X_end
  replace X_end := endT X_end
  have G__law_put := G__law_put0.mono (k := 166) (by omega)
  have G__law_bare := G__law_bare0.mono (k := 168) (by omega)
  have X_of_bare := X_of_bare0.mono (k := 166) (by omega)
  have G_of_bare := ofB0 X_of_bare
  have G_principal := prT (G_principal0.mono (k := 168) (by omega))
  have X_type_of := tyT (X_type_of0.mono (k := 166) (by omega))
  have G_matched := G_matched0.mono (k := 168) (by omega)
  have G_step := G_step0.mono (k := 168) (by omega)
  have G__law_part := G__law_part0.mono (k := 168) (by omega)
  have G_head := G_head0.mono (k := 168) (by omega)
  refine ⟨_, (pss_cons (ps_forF PassesOwn.never rfl (pi_lstK K (C8.pe_c G__law_rounds hr (by omega) (by rfl) (pa_cons (pv 0) (pa_cons pe_int pa_nil)))) (pg_name (i := 1) sc_law.nd rfl (by first | exact Or.inl rfl | exact Or.inr rfl)) (pss_cons (ps_asg (pe_tupK K (pa_cons (C8.pe_c G__law_thing hr (by omega) (by rfl) (pa_cons (pv 1) (pa_cons pe_int pa_nil))) (pa_cons (C8.pe_c G__law_thing hr (by omega) (by rfl) (pa_cons (pv 1) (pa_cons pe_int pa_nil))) pa_nil))) (pg_tupK K (n := 2) (by rfl) (pgs_cons (pg_name (i := 2) sc_law.nd rfl (by first | exact Or.inl rfl | exact Or.inr rfl)) (pgs_cons (pg_name (i := 3) sc_law.nd rfl (by first | exact Or.inl rfl | exact Or.inr rfl)) pgs_nil))))
    (pss_cons (ps_set (i := 4) sc_law.nd rfl (by first | exact Or.inl rfl | exact Or.inr rfl) (C8.pe_c G_without hr (by omega) (by rfl) (pa_cons pe_str (pa_cons (pv 2) pa_nil))))
    (PSs.hide (pss_cons (ps_if (PW.pt (pw_or (pt_val (C8.pe_c G_has hr (by omega) (by rfl) (pa_cons (pv 4) (pa_cons pe_str pa_nil)))) (pw_or (pt_not (pt_val (C8.pe_c G_is_closed hr (by omega) (by rfl) (pa_cons (pv 4) pa_nil)))) (pw_or1 (pt_cmpR op_lt (C8.pe_c G_weight hr (by omega) (by rfl) (pa_cons (pv 4) pa_nil)) pe_int (nomark _)))))) (pss_one (ps_ret pe_bl)) pss_nil)
    (PSs.hide (pss_cons (ps_set (i := 5) sc_law.nd rfl (by first | exact Or.inl rfl | exact Or.inr rfl) (pe_lamX (TT := TTa aT aB aW aL) (k := 166) D_told (by rfl) (fun _ _ _ _ _ _ us hl => match us, hl with | [_], _ => rfl) sc__law_told rfl (Or.inl rfl) (gives_toldA ER) TBL rfl hr (LamX.lamS_by (by show LamX.lamSB (defScope s_law) _ = true; decide +kernel)) rfl (fun _ _ _ _ _ => rfl) (fun A outer s H E f c' hrL => pe_cX X_end hrL (by omega) (takes_of rfl rfl rfl rfl) (fun _ _ _ _ h => h) (by rfl) (pa_cons (pe_tupK K (pa_cons (pv 4) (pa_cons (pv 3) pa_nil))) (pa_cons pe_int pa_nil)))))
    (pss_cons (ps_set (i := 6) sc_law.nd rfl (by first | exact Or.inl rfl | exact Or.inr rfl) (pe_lamX (TT := TTa aT aB aW aL) (k := 166) D_told (by rfl) (fun _ _ _ _ _ _ us hl => match us, hl with | [_], _ => rfl) sc__law_told rfl (Or.inl rfl) (gives_toldA ER) TBL rfl hr (LamX.lamS_by (by show LamX.lamSB (defScope s_law) _ = true; decide +kernel)) rfl (fun _ _ _ _ _ => rfl) (fun A outer s H E f c' hrL => pe_cX X_end hrL (by omega) (takes_of rfl rfl rfl rfl) (fun _ _ _ _ h => h) (by rfl) (pa_cons (C8.pe_c G__law_put hrL (by omega) (by rfl) (pa_cons (pv 2) (pa_cons pe_str (pa_cons (pv 3) pa_nil)))) (pa_cons pe_int pa_nil)))))
    (PSs.hide (pss_cons (ps_if (PW.pt (pw_and (pt_cmpR (op_neQ K (unitsQ hr)) (pv 5) pe_str (nomark _)) (pw_and (pt_cmpR (op_neQ K (unitsQ hr)) (pv 6) pe_str (nomark _)) (pw_and1 (pt_cmpR (op_neQ K (unitsQ hr)) (pe_ix (ix_tupK K) (pv 5) pe_int (fun _ _ => rfl)) (pe_ix (ix_tupK K) (pv 6) pe_int (fun _ _ => rfl)) (nomark _)))))) (pss_one (ps_ret pe_bl)) pss_nil)
    (PSs.hide (pss_cons (ps_set (i := 7) sc_law.nd rfl (by first | exact Or.inl rfl | exact Or.inr rfl) (C8.pe_c G__law_bare hr (by omega) (by rfl) (pa_cons (pv 1) (pa_cons pe_int (pa_cons (pe_lstF pa_nil) pa_nil)))))
    (pss_cons (ps_set (i := 8) sc_law.nd rfl (by first | exact Or.inl rfl | exact Or.inr rfl) (C8.pe_c G_of_bare hr (by omega) (by rfl) (pa_cons (pv 7) pa_nil)))
    (pss_cons (ps_if (PW.pt (pw_or (pt_not (pt_val (C8.pe_c G_is_closed hr (by omega) (by rfl) (pa_cons (pv 8) pa_nil)))) (pw_or1 (pt_cmpR (op_neLK K hr.units) (pe_lcF (own := [("name", 9)]) rfl sc_law.nd (pi_lstK K (pe_lstF (pa_cons pe_str (pa_cons pe_str (pa_cons pe_str (pa_cons pe_str pa_nil)))))) (blkOk_by (own := [("name", 9)]) (N := n_law) (sc := defScope s_law) (by decide +kernel)) (fun _ _ _ _ _ => (pg_name (i := 9) sc_law.nd rfl (by first | exact Or.inl rfl | exact Or.inr rfl))) (fun _ _ _ _ _ => pts_one (pt_val (C8.pe_c G_has hr (by omega) (by rfl) (pa_cons (pv 8) (pa_cons (pv 9) pa_nil))))) (fun _ _ _ _ _ => (pv 9))) (pe_lstF pa_nil) (nomark _))))) (pss_one (ps_ret pe_bl)) pss_nil)
    (PSs.hide (pss_cons (ps_if (PW.pt (pw_and (pt_not (pt_val (C8.pe_c G_has hr (by omega) (by rfl) (pa_cons (pv 8) (pa_cons pe_str pa_nil))))) (pw_and1 (pt_not (pt_val (C8.pe_c G_has hr (by omega) (by rfl) (pa_cons (pv 8) (pa_cons pe_str pa_nil)))))))) (pss_cons (ps_par (i := 10) (j := 11) (by rfl) sc_law.nd rfl rfl (by decide) rfl rfl (pa_cons (C8.pe_c G_principal hr (by omega) (by rfl) (pa_cons (pv 7) pa_nil)) (pa_cons (pe_lamX (TT := TTa aT aB aW aL) (k := 166) D_told (by rfl) (fun _ _ _ _ _ _ us hl => match us, hl with | [_], _ => rfl) sc__law_told rfl (Or.inl rfl) (gives_toldA ER) TBL rfl hr (LamX.lamS_by (by show LamX.lamSB (defScope s_law) _ = true; decide +kernel)) rfl (fun _ _ _ _ _ => rfl) (fun A outer s H E f c' hrL => pe_cX X_type_of hrL (by omega) (takes_of rfl rfl rfl rfl) (fun _ _ _ _ h => h) (by rfl) (pa_cons (pv 8) pa_nil))) pa_nil)) (by rfl))
    (PSs.hide (pss_one (ps_if (PW.pt (pw_and (pt_cmpR op_notN (pv 10) pe_non (nomark _)) (pw_and (pt_cmpR (op_neQ K (unitsQ hr)) (pv 11) pe_str (nomark _)) (pw_and1 (PW.pt (pw_or (pt_cmpR op_isN (pv 11) pe_non (nomark _)) (pw_or1 (pt_cmpR op_isN (C8.pe_c G_matched hr (by omega) (by rfl) (pa_cons (pv 11) (pa_cons (pv 10) pa_nil))) pe_non (nomark _))))))))) (pss_one (ps_ret pe_bl)) pss_nil)))) pss_nil)
    (PSs.hide (pss_cons (ps_par (i := 12) (j := 13) (by rfl) sc_law.nd rfl rfl (by decide) rfl rfl (pa_cons (pe_lstF (pa_cons (pv 2) pa_nil)) (pa_cons (pv 2) pa_nil)) (by rfl))
    (pss_cons (ps_forF PassesOwn.never rfl (pi_range1 (by rfl) B.b_range (pa_cons pe_int pa_nil)) (pg_name (i := 14) sc_law.nd rfl (by first | exact Or.inl rfl | exact Or.inr rfl)) (pss_cons (ps_set (i := 15) sc_law.nd rfl (by first | exact Or.inl rfl | exact Or.inr rfl) (C8.pe_c G_step hr (by omega) (by rfl) (pa_cons (pv 13) pa_nil)))
    (pss_one (ps_if (pt_cmpR op_notN (pv 15) pe_non (nomark _)) (PSs.hide (pss_one (ps_par (i := 12) (j := 13) (by rfl) sc_law.nd rfl rfl (by decide) rfl rfl (pa_cons (pe_op op_catL (pv 12) (pe_lstF (pa_cons (pv 15) pa_nil))) (pa_cons (pv 15) pa_nil)) (by rfl)))) pss_nil))))
    (PSs.hide (pss_cons (ps_if (PW.pt (pw_or (pt_cmpR op_ne (C8.pe_c G__law_part hr (by omega) (by rfl) (pa_cons (pv 12) pa_nil)) pe_str (nomark _)) (pw_or1 (PW.pt (pw_and (pt_cmpR op_gt (pe_callB call_lenL (by rfl) B.b_len (by decide +kernel) (pa_cons (pv 12) pa_nil)) pe_int (nomark _)) (pw_and1 (pt_cmpR op_ne (C8.pe_c G__law_part hr (by omega) (by rfl) (pa_cons (pe_op op_catL (pe_slice sl_list (pv 12) po_none (po_some pe_int)) (pv 12)) pa_nil)) pe_int (nomark _)))))))) (pss_one (ps_ret pe_bl)) pss_nil)
    (PSs.hide (pss_cons (ps_asg (C8.pe_c G_head hr (by omega) (by rfl) (pa_cons (pv 2) pa_nil)) (pg_tupK K (n := 2) (by rfl) (pgs_cons (pg_name (i := 16) sc_law.nd rfl (by first | exact Or.inl rfl | exact Or.inr rfl)) (pgs_cons (pg_name (i := 17) sc_law.nd rfl (by first | exact Or.inl rfl | exact Or.inr rfl)) pgs_nil))))
    (pss_cons (ps_set (i := 18) sc_law.nd rfl (by first | exact Or.inl rfl | exact Or.inr rfl) (pv 16))
    (pss_cons (ps_forF PassesOwn.never rfl (pi_lstK K (pv 17)) (pg_name (i := 19) sc_law.nd rfl (by first | exact Or.inl rfl | exact Or.inr rfl)) (pss_one (ps_set (i := 18) sc_law.nd rfl (by first | exact Or.inl rfl | exact Or.inr rfl) (pe_tupK K (pa_cons (pv 18) (pa_cons (pv 19) pa_nil))))))
    (pss_cons (ps_if (PW.pt (pw_or (pt_cmpR (op_neQ K (unitsQ hr)) (pv 18) (pv 2) (nomark _)) (pw_or1 (PW.pt (pw_and (pt_cmpR op_lt (pe_callB call_lenL (by rfl) B.b_len (by decide +kernel) (pa_cons (pv 12) pa_nil)) pe_int (nomark _)) (pw_and1 (pt_cmpR (op_neQ K (unitsQ hr)) (C8.pe_c G_end hr (by omega) (by rfl) (pa_cons (pv 2) (pa_cons pe_int pa_nil))) (pe_tupK K (pa_cons (pe_ix ix_lstF (pv 12) (pe_un un_neg pe_int) (fun _ _ => rfl)) (pa_cons (pe_op op_sub (pe_callB call_lenL (by rfl) B.b_len (by decide +kernel) (pa_cons (pv 12) pa_nil)) pe_int) pa_nil))) (nomark _)))))))) (pss_one (ps_ret pe_bl)) pss_nil)
    (PSs.hide (pss_cons (ps_if (pt_cmpR op_ne (pe_lamX (TT := TTa aT aB aW aL) (k := 166) D_told (by rfl) (fun _ _ _ _ _ _ us hl => match us, hl with | [_], _ => rfl) sc__law_told rfl (Or.inl rfl) (gives_toldA ER) TBL rfl hr (LamX.lamS_by (by show LamX.lamSB (defScope s_law) _ = true; decide +kernel)) rfl (fun _ _ _ _ _ => rfl) (fun A outer s H E f c' hrL => pe_cX X_of_bare hrL (by omega) (takes_of rfl rfl rfl rfl) (fun _ _ _ _ h => h) (by rfl) (pa_cons (pe_tupK K (pa_cons pe_str pa_nil)) pa_nil))) pe_str (nomark _)) (pss_one (ps_ret pe_bl)) pss_nil)
    (pss_one (ps_if (pt_cmpR op_ne (pe_lamX (TT := TTa aT aB aW aL) (k := 166) D_told (by rfl) (fun _ _ _ _ _ _ us hl => match us, hl with | [_], _ => rfl) sc__law_told rfl (Or.inl rfl) (gives_toldA ER) TBL rfl hr (LamX.lamS_by (by show LamX.lamSB (defScope s_law) _ = true; decide +kernel)) rfl (fun _ _ _ _ _ => rfl) (fun A outer s H E f c' hrL => pe_cX X_type_of hrL (by omega) (takes_of rfl rfl rfl rfl) (fun _ _ _ _ h => h) (by rfl) (pa_cons (pe_tupK K (pa_cons pe_str (pa_cons pe_str pa_nil))) pa_nil))) pe_str (nomark _)) (pss_one (ps_ret pe_bl)) pss_nil))))))))))))))))))))))))))))))
    (pss_one (ps_ret pe_bl))), ?_⟩
  walk_at "rd"
  generalize (CxD P w K mg base n_law "law" s_law f c callerA [] s H fun _ _ _ => False).env.qual ++ "<lambda>" = qL
  refine ⟨a, ns, rfl, ha, fun p ds H1 e1 hp hl hds nd hpd => ⟨p, rfl, _, hp, ?_⟩⟩
  have lam : ∀ {t q}, H t = some (.tbl #[]) → LamX.TabS H1 t q := fun h => TabS.keep (LamX.TabS.nil h) e1 (fun z => nomatch z) fun _ z => nomatch z
  refine for_go walk_list (fun j σ' H' => (∃ x1 x2 x3 x4 x5 x6 x7 x8 x10 x11 x12 x13 x14 x15 x16 x17 x18 x19, σ' = [some (.ref a), x1, x2, x3, x4, x5, x6, x7, x8, none, x10, x11, x12, x13, x14, x15, x16, x17, x18, x19]) ∧ RM ds p [tM] [(tL, qL)] H') ⟨⟨_, _, _, _, _, _, _, _, _, _, _, _, _, _, _, _, _, _, rfl⟩, ⟨hp, hds, fun t ht => by
      rw [List.mem_singleton] at ht
      subst ht
      exact e1.tab _ htm, fun x hx => by
      rw [List.mem_singleton] at hx
      subst hx
      exact lam htl⟩⟩ (fun j σ' H' _ ⟨_, r⟩ => SqL.of r.p)
    (fun j x σ' H2 H2' hj ⟨⟨x1, x2, x3, x4, x5, x6, x7, x8, x10, x11, x12, x13, x14, x15, x16, x17, x18, x19, hσ⟩, ri⟩ y => ?_) fun σ' H2 ⟨⟨x1, x2, x3, x4, x5, x6, x7, x8, x10, x11, x12, x13, x14, x15, x16, x17, x18, x19, hσ⟩, ri⟩ => ?_
  case refine_2 =>
    subst hσ
    walk_at "rd"
    exact q _
  obtain ⟨rfl, hx⟩ := y
  subst hσ
  rw [List.getElem?_map] at hx
  obtain ⟨d, hm, rfl⟩ : ∃ d, ds[j]? = some d ∧ x = V.ref d := by
    cases hm : ds[j]? with
    | none => rw [hm] at hx; cases hx
    | some d => rw [hm] at hx; exact ⟨d, rfl, (Option.some.inj hx).symm⟩
  have hdm : d ∈ ds := List.mem_of_getElem? hm
  have hd0 := ri.d d hdm
  clear hx hds hp lam
  have hz : (100000 : Nat) ≤ sizeLine := by decide
  have lamRM : ∀ {J G : Hp}, RM ds p [tM] [(tL, qL)] J → Ext [tL] J G → LamX.TabS G tL qL → RM ds p [tM] [(tL, qL)] G := fun {J G} r e t => r.tabs (fun t ht => .inr (by rw [List.mem_singleton.mp ht]; simp)) e fun x hx hxs => by
    rw [List.mem_singleton.mp hx]; exact t
  generalize hT : (hideS _ : TS) = T
  walk_at "rd"
  refine ⟨d, 3, rfl, hd0, by decide, fun v1 t1 H3 e3 hd3 i1 d1 => ⟨d, 2, rfl, hd3, by decide, fun v2 t2 H4 e4 hd4 i2 d2 => ⟨by decide, fun pr H5 e5 h5 => ⟨_, h5, rfl, _, _, rfl, _, _, rfl, rfl, ?_⟩⟩⟩⟩
  obtain ⟨o1, l1⟩ := i1.ok
  obtain ⟨o2, l2⟩ := i2.ok
  have s5 : RM ds p [tM] [(tL, qL)] H5 := (ri.step hpd hdm (e3.trans e4) hd4).ext0 e5
  have d15 := (d1.ext e4).ext e5
  have d25 := d2.ext e5
  clear e3 e4 e5 hd0 hd3 hd4 d1 d2 h5 ri
  have sY : PyData.strOk "y" = true := by decide +kernel
  have sZ : PyData.strOk "z" = true := by decide +kernel
  refine ⟨v1, t1, "y", rfl, d15, o1, sY, by omega, by omega, fun v3 H6 e6 d3 => ?_⟩
  have ow := Cg.wo_ok (x := "y") o1
  have lw := Cg.wo_dep "y" t1
  have s6 := s5.ext0 e6
  have d16 := d15.ext e6
  have d26 := d25.ext e6
  clear s5 d15 d25 e6
  rw [← hT, hideS_eq]
  clear hT T
  generalize hT : (hideS _ : TS) = T
  walk_at "rd"
  refine ⟨v3, t1.wo "y", "y", rfl, d3, ow, sY, by omega, by omega, fun H7 e7 => ⟨_, rfl, ?_⟩⟩
  rw [if_neg (by rw [Cg.wo_has]; decide)]
  refine ⟨v3, t1.wo "y", rfl, d3.ext e7, ow, by omega, by omega, true, rfl, ?_⟩
  rw [if_neg (by decide)]
  refine ⟨v3, t1.wo "y", rfl, d3.ext e7, ow, by omega, by omega, fun wn hwn => ⟨_, rfl, ?_⟩⟩
  rw [if_neg (by omega)]
  have s7 := s6.ext0 e7
  have d17 := d16.ext e7
  have d27 := d26.ext e7
  have d37 := d3.ext e7
  clear s6 d16 d26 d3 e7
  rw [← hT, hideS_eq]
  clear hT T
  generalize hT : (hideS _ : TS) = T
  walk_at "rd"
  refine ⟨s7.tl (tL, qL) (by simp), fun G1 eG1 tG1 => ⟨by decide, fun p8 H8 e8 h8 => ?_⟩⟩
  have e78 := eG1.trans e8.any
  have s8 := (lamRM s7 eG1 tG1).ext0 e8
  refine ⟨.ref p8, .ap (t1.wo "y") t2, 60, rfl, .tup h8 (.cons (d37.ext e78) (.cons (d27.ext e78) .nil)), ⟨ow, o2⟩, by show max (t1.wo "y").dep t2.dep + 1 + 60 ≤ 140; omega, by decide, fun J hq => .inr (.inr (.inr ⟨rfl, hq⟩)), fun vone H9 e9 hone => ?_⟩
  have s9 := s8.ext0 e9
  have e79 := e78.trans e9.any
  refine ⟨s9.tl (tL, qL) (by simp), fun G2 eG2 tG2 => ?_⟩
  have e7G := e79.trans eG2
  have sG2 := lamRM s9 eG2 tG2
  refine ⟨v1, v2, t1, t2, "y", rfl, d17.ext e7G, d27.ext e7G, o1, sY, by omega, by omega, fun vp Ha ea dp => ?_⟩
  have hput : (t1.put "y" t2).Ok ∧ (t1.put "y" t2).dep ≤ t1.dep + t2.dep := Cg.put_ok o1 o2
  refine ⟨vp, t1.put "y" t2, 60, rfl, dp, hput.1, by omega, by decide, fun J hq => .inr (.inr (.inr ⟨rfl, hq⟩)), fun vtwo Hb eb htwo => ?_⟩
  have eab := ea.trans eb
  have sb := sG2.ext0 eab
  have honeb : EndV K Hb vone (.ap (t1.wo "y") t2) 60 := (hone.ext eG2).ext eab
  have e7b := e7G.trans eab.any
  have d1b := d17.ext e7b
  clear s7 s8 s9 sG2 e8 h8 e9 hone eG1 tG1 eG2 tG2 e7G e79 e78 ea dp eb eab d17 d27 d37 e7b
  rw [← hT, hideS_eq]
  clear hT T
  generalize hT : (hideS _ : TS) = T
  walk_at "rd"
  have go : T { nx := fun σ' H' => (∃ x1 x2 x3 x4 x5 x6 x7 x8 x10 x11 x12 x13 x14 x15 x16 x17 x18 x19, σ' = [some (.ref a), x1, x2, x3, x4, x5, x6, x7, x8, none, x10, x11, x12, x13, x14, x15, x16, x17, x18, x19]) ∧ RM ds p [tM] [(tL, qL)] H', rt := Q, bk := tRet (tC (V.bl true)) { nx := fun x H' => False, rt := Q }, ct := fun σ' H' => (∃ x1 x2 x3 x4 x5 x6 x7 x8 x10 x11 x12 x13 x14 x15 x16 x17 x18 x19, σ' = [some (.ref a), x1, x2, x3, x4, x5, x6, x7, x8, none, x10, x11, x12, x13, x14, x15, x16, x17, x18, x19]) ∧ RM ds p [tM] [(tL, qL)] H' } [some (.ref a), some (.ref d), some v1, some v2, some v3, some vone, some vtwo, x7, x8, none, x10, x11, x12, x13, x14, x15, x16, x17, x18, x19] Hb := by
    rw [← hT, hideS_eq]
    clear hT honeb htwo T
    generalize hT : (hideS _ : TS) = T
    walk_at "rd"
    have hdb := sb.d d hdm
    refine ⟨Nat.zero_le _, fun R0 H1 n1 e1 h1 => ⟨d, 4, R0, [], rfl, hdb.ext0 e1, h1, fun z => ?_, by decide, by decide, fun vb b H2 e2 hd2 ib db => ?_⟩⟩
    · obtain ⟨_, _, _, w⟩ := hdb
      rw [z, w] at n1; cases n1
    obtain ⟨ok3, bbd, bdp, bwt⟩ := in_small ib (by decide) (fun _ z => nomatch z)
    have bbd : b.bd ≤ 47 := bbd
    have bwt : (ofB b).wt ≤ 81 := bwt
    obtain ⟨okm, dpm⟩ := ofB_ok ok3
    have s2 : RM ds p [tM] [(tL, qL)] H2 := (sb.ext0 e1).step hpd hdm e2 hd2
    have d12 := (d1b.ext e1).ext e2
    refine ⟨vb, b, rfl, db, ok3, by omega, by omega, fun vm H3 e3 dm => ?_⟩
    refine ⟨vm, ofB b, rfl, dm, okm, by omega, by omega, true, rfl, ?_⟩
    rw [if_neg (by decide)]
    have s3 := s2.ext0 e3
    have d13 := d12.ext e3
    have db3 := db.ext e3
    clear s2 d12 sb d1b hdb e1 h1 n1 e2 hd2 db
    refine ⟨by decide, fun R4 H4 n4 e4 h4 => ⟨_, h4, ?_⟩⟩
    refine lc_filS walk_list ["x0", "x1", "x2", "x3"] rfl (by decide) (fun H' e => SqL.of (e.lst0 h4)) (fun j H x H' y => ⟨y.1, by
        have hy := y.2
        match j, hy with
        | 0, hy => exact ⟨_, rfl, (Option.some.inj hy).symm⟩
        | 1, hy => exact ⟨_, rfl, (Option.some.inj hy).symm⟩
        | 2, hy => exact ⟨_, rfl, (Option.some.inj hy).symm⟩
        | 3, hy => exact ⟨_, rfl, (Option.some.inj hy).symm⟩
        | j + 4, hy => cases hy⟩) (fun _ => false) (fun _ => rfl) (fun _ => rfl) (fun z H5 N hz5 e5 hN => ?_) fun D H5 nD e5 hD => ?_
    · walk_at "rd"
      have hzz : z ≠ "y" ∧ z ≠ "z" ∧ PyData.strOk z = true := by
        simp only [List.mem_cons, List.not_mem_nil, or_false] at hz5
        rcases hz5 with rfl | rfl | rfl | rfl <;> decide +kernel
      have hh : (ofB b).has z = false := no_has hzz.1 hzz.2.1 ib (fun w => nomatch w)
      refine ⟨vm, ofB b, z, rfl, (dm.ext e4).ext e5, okm, hzz.2.2, by omega, by omega, fun H6 e6 => ⟨_, rfl, ?_⟩⟩
      rw [hh]
      exact hN H6 e6
    refine ⟨Nat.zero_le _, fun R6 H6 n6 e6 h6 => ⟨D, rfl, _, e6.lst0 hD, _, h6, [], .nil, [], .nil, by decide +kernel, by decide +kernel, ?_⟩⟩
    rw [if_neg (by decide +kernel)]
    have e36 := e4.trans (e5.trans e6)
    have s6 := s3.ext0 e36
    have d16 := d13.ext e36
    have db6 := db3.ext e36
    have dm6 := dm.ext e36
    clear s3 d13 db3 dm e36 e4 e5 e6 h4 hD h6 n4 nD n6 e3
    rw [← hT, hideS_eq]
    clear hT T
    generalize hT : (hideS _ : TS) = T1
    generalize hT2 : (hideS _ : TS) = T
    have tail : ∀ (J : Hp) (y10 y11 : Option V), RM ds p [tM] [(tL, qL)] J → Td K J v1 t1.data → T { nx := fun σ' H' => (∃ x1 x2 x3 x4 x5 x6 x7 x8 x10 x11 x12 x13 x14 x15 x16 x17 x18 x19, σ' = [some (.ref a), x1, x2, x3, x4, x5, x6, x7, x8, none, x10, x11, x12, x13, x14, x15, x16, x17, x18, x19]) ∧ RM ds p [tM] [(tL, qL)] H', rt := Q, bk := tRet (tC (V.bl true)) { nx := fun x H' => False, rt := Q }, ct := fun σ' H' => (∃ x1 x2 x3 x4 x5 x6 x7 x8 x10 x11 x12 x13 x14 x15 x16 x17 x18 x19, σ' = [some (.ref a), x1, x2, x3, x4, x5, x6, x7, x8, none, x10, x11, x12, x13, x14, x15, x16, x17, x18, x19]) ∧ RM ds p [tM] [(tL, qL)] H' } [some (.ref a), some (.ref d), some v1, some v2, some v3, some vone, some vtwo, some vb, some vm, none, y10, y11, x12, x13, x14, x15, x16, x17, x18, x19] J := fun J y10 y11 sJ dJ => by
      rw [← hT2, hideS_eq]
      clear hT hT2 s6 d16 db6 dm6 T
      generalize hT : (hideS _ : TS) = T1
      generalize hT2 : (hideS _ : TS) = T
      walk_at "rd"
      refine ⟨by decide, fun R1 H1 n1 e1 h1 => ⟨_, _, ⟨rfl, rfl⟩, by decide, by decide, ?_⟩⟩
      rw [show (4 : Int).toNat = 4 from rfl]
      have sJ1 := sJ.ext0 e1
      have dJ1 := dJ.ext e1
      refine for_go walk_range (fun i σ' H' => (∃ (Rr : Addr) (ws : List V) (ts : List Cg) (vh : V) (y14 y15 : Option V) (th : Cg), σ' = [some (.ref a), some (.ref d), some v1, some v2, some v3, some vone, some vtwo, some vb, some vm, none, y10, y11, some (.ref Rr), some vh, y14, y15, x16, x17, x18, x19] ∧ H' Rr = some (.lst ws) ∧ TdAll K H' ws (ts.map Cg.data) ∧ Td K H' vh th.data ∧ RowsR t1 ts th i) ∧ Ext [] H1 H') ⟨⟨R1, [v1], [t1], v1, _, _, t1, rfl, h1, .cons dJ1 .nil, dJ1, RowsR.start t1⟩, Ext.refl _ _⟩ (fun _ _ _ _ _ => trivial) (fun i x σ' H2 H2' hi ⟨⟨Rr, ws, ts, vh, y14, y15, th, hσ, hRr, hws, hth, hrr⟩, e2⟩ yy => ?_) fun σ' H2 ⟨⟨Rr, ws, ts, vh, y14, y15, th, hσ, hRr, hws, hth, hrr⟩, e2⟩ => ?_
      · obtain ⟨rfl, rfl⟩ := yy
        subst hσ
        obtain ⟨okh, dph⟩ := hrr.ok o1
        walk_at "rd"
        refine ⟨vh, th, rfl, hth, okh, by omega, by omega, fun v5 H3 e3 hm => ?_⟩
        dsimp only
        cases hst : th.step with
        | none =>
          rw [hst] at hm
          subst hm
          rw [if_neg (by decide)]
          exact ⟨⟨Rr, ws, ts, vh, _, _, ⟨rfl, rfl, rfl, rfl⟩, e3.lst0 hRr, hws.ext e3, th, hth.ext e3, hrr.stay hst⟩, e2.trans e3⟩
        | some u =>
          rw [hst] at hm
          have hm : Td K H3 v5 u.data := hm
          have hne : v5 ≠ .non := fun z => by
            rw [z] at hm
            cases u <;> cases hm
          rw [if_pos (by simpa using hne)]
          rw [← hT, hideS_eq]
          walk_at "rd"
          refine ⟨by decide, fun R4 H4 n4 e4 h4 => ⟨_, e4.lst0 (e3.lst0 hRr), _, h4, ?_, fun R5 H5 n5 e5 h5 => ?_⟩⟩
          · have hlw := hws.length
            rw [List.length_map] at hlw
            have := hrr.len
            rw [hlw, List.length_cons, List.length_nil]
            omega
          refine ⟨_, _, ⟨rfl, rfl⟩, ?_⟩
          have e35 := e4.trans e5
          exact ⟨⟨R5, ws ++ [v5], ts ++ [u], v5, _, _, ⟨rfl, rfl, rfl, rfl⟩, h5, by
            rw [List.map_append]
            exact ((hws.ext e3).ext e35).append (.cons (hm.ext e35) .nil), u, hm.ext e35, hrr.next hst⟩, e2.trans (e3.trans e35)⟩
      · subst hσ
        have s2 := sJ1.ext0 e2
        have d2 := dJ1.ext e2
        obtain ⟨okh, dph⟩ := hrr.ok o1
        clear sJ dJ sJ1 dJ1 e1 e2 h1 n1 hT
        show T _ _ _
        rw [← hT2, hideS_eq]
        clear hT2 T
        generalize hT : (hideS _ : TS) = T
        have hlw := hws.length
        rw [List.length_map] at hlw
        have hl5 := hrr.len
        have hall := hrr.all o1
        have hok : ∀ t ∈ ts, t.Ok ∧ t.dep ≤ 100 := fun t ht => by
          obtain ⟨j, hj⟩ := List.mem_iff_getElem?.mp ht
          obtain ⟨i1, i2⟩ := hall j t hj
          have := (List.getElem?_eq_some_iff.mp hj).1
          exact ⟨i1, by omega⟩
        have tail2 : ∀ J, Ext [] H2 J → T { nx := fun σ' H' => (∃ x1 x2 x3 x4 x5 x6 x7 x8 x10 x11 x12 x13 x14 x15 x16 x17 x18 x19, σ' = [some (.ref a), x1, x2, x3, x4, x5, x6, x7, x8, none, x10, x11, x12, x13, x14, x15, x16, x17, x18, x19]) ∧ RM ds p [tM] [(tL, qL)] H', rt := Q, bk := tRet (tC (V.bl true)) { nx := fun x H' => False, rt := Q }, ct := fun σ' H' => (∃ x1 x2 x3 x4 x5 x6 x7 x8 x10 x11 x12 x13 x14 x15 x16 x17 x18 x19, σ' = [some (.ref a), x1, x2, x3, x4, x5, x6, x7, x8, none, x10, x11, x12, x13, x14, x15, x16, x17, x18, x19]) ∧ RM ds p [tM] [(tL, qL)] H' } [some (.ref a), some (.ref d), some v1, some v2, some v3, some vone, some vtwo, some vb, some vm, none, y10, y11, some (.ref Rr), some vh, y14, y15, x16, x17, x18, x19] J := fun J eJ => by
          have sJ := s2.ext0 eJ
          have dJ := d2.ext eJ
          have hRJ := eJ.lst0 hRr
          have hwJ := hws.ext eJ
          rw [← hT, hideS_eq]
          clear hT T
          generalize hT : (hideS _ : TS) = T
          walk_at "rd"
          refine ⟨v1, t1, rfl, dJ, o1, by omega, fun ph vl Rl wl H3 e3 hph hvl hRl hwl => ⟨ph, rfl, _, hph, rfl, _, _, rfl, _, _, rfl, rfl, ?_⟩⟩
          have sJ3 := sJ.ext0 e3
          have dJ3 := dJ.ext e3
          have hRJ3 := e3.lst0 hRJ
          have hwJ3 := hwJ.ext e3
          refine ⟨Rl, rfl, _, hRl, ?_⟩
          refine for_go walk_list (fun j σ' H' => (∃ fnd y19, σ' = [some (.ref a), some (.ref d), some v1, some v2, some v3, some vone, some vtwo, some vb, some vm, none, y10, y11, some (.ref Rr), some vh, y14, y15, some vl, some (.ref Rl), some fnd, y19] ∧ Td K H' fnd (Cg.un t1.hd.1 (t1.hd.2.take j)).data) ∧ Ext [] H3 H') ⟨⟨vl, _, rfl, hvl⟩, Ext.refl _ _⟩ (fun j σ' H' _ ⟨_, e⟩ => SqL.of (e.lst0 hRl)) (fun j z σ' H5 H5' hj ⟨⟨fnd, y19, hσ, hf⟩, e5⟩ y => ?_) fun σ' H5 ⟨⟨fnd, y19, hσ, hf⟩, e5⟩ => ?_
          · obtain ⟨rfl, hz9⟩ := y
            subst hσ
            obtain ⟨dz, hd3, hd4⟩ := hwl.get hz9
            rw [List.getElem?_map] at hd3
            obtain ⟨tz, htz, rfl⟩ := Option.map_eq_some_iff.mp hd3
            walk_at "rd"
            refine ⟨by decide, fun p6 H6 e6 h6 => ⟨?_, e5.trans e6⟩⟩
            refine ⟨_, _, ⟨rfl, rfl⟩, ?_⟩
            have hun : Cg.un t1.hd.1 (t1.hd.2.take (j + 1)) = .ap (Cg.un t1.hd.1 (t1.hd.2.take j)) tz := by
              rw [take_snoc htz]
              unfold Cg.un
              rw [List.foldl_append]; rfl
            rw [hun]
            exact .tup h6 (.cons (hf.ext e6) (.cons (hd4.ext (e5.trans e6)) .nil))
          subst hσ
          have hll : wl.length = t1.hd.2.length := by have := hwl.length; simpa using this
          rw [hll, List.take_length, Cg.un_hd] at hf
          have s5 := sJ3.ext0 e5
          have d15 := dJ3.ext e5
          have hR5 := e3.trans e5 |>.lst0 hRJ
          have hw5 := hwJ3.ext e5
          clear sJ dJ hRJ hwJ sJ3 dJ3 hRJ3 hwJ3 hwl hRl hvl hph e3 e5
          show tSeq _ _ _ _ _
          walk_at "rd"
          refine ⟨_, hf, _, d15, Cg.deep o1 (by omega), Cg.deep o1 (by omega), ?_⟩
          rw [if_neg (by rw [Cg.data_eqv]; simp)]
          refine ⟨_, hR5, ?_⟩
          have tail3 : ∀ J, Ext [] H5 J → T { nx := fun σ' H' => (∃ x1 x2 x3 x4 x5 x6 x7 x8 x10 x11 x12 x13 x14 x15 x16 x17 x18 x19, σ' = [some (.ref a), x1, x2, x3, x4, x5, x6, x7, x8, none, x10, x11, x12, x13, x14, x15, x16, x17, x18, x19]) ∧ RM ds p [tM] [(tL, qL)] H', rt := Q, bk := tRet (tC (V.bl true)) { nx := fun x H' => False, rt := Q }, ct := fun σ' H' => (∃ x1 x2 x3 x4 x5 x6 x7 x8 x10 x11 x12 x13 x14 x15 x16 x17 x18 x19, σ' = [some (.ref a), x1, x2, x3, x4, x5, x6, x7, x8, none, x10, x11, x12, x13, x14, x15, x16, x17, x18, x19]) ∧ RM ds p [tM] [(tL, qL)] H' } [some (.ref a), some (.ref d), some v1, some v2, some v3, some vone, some vtwo, some vb, some vm, none, y10, y11, some (.ref Rr), some vh, y14, y15, some vl, some (.ref Rl), some fnd, y19] J := fun J eJ => by
            have sJ := s5.ext0 eJ
            rw [← hT, hideS_eq]
            clear hT T s5 d15 hf hR5 hw5
            walk_at "rd"
            refine ⟨sJ.tl (tL, qL) (by simp), fun G1 eG1 tG1 => ⟨by decide, fun p1 H1 e1 h1 => ?_⟩⟩
            have sG1 := (lamRM sJ eG1 tG1).ext0 e1
            refine ⟨.ref p1, rfl, .inr ⟨p1, rfl, h1, by decide, .inr (.inl ⟨rfl, ?_⟩)⟩⟩
            refine ⟨sG1.tl (tL, qL) (by simp), fun G2 eG2 tG2 => ⟨by decide, fun p2 H2 e2 h2 => ?_⟩⟩
            have sG2 := (lamRM sG1 eG2 tG2).ext0 e2
            refine ⟨.ref p2, .v "y", rfl, .tup h2 (.cons (.str _) (.cons (.str _) .nil)), sY, by decide, by decide, by decide, .inl ⟨rfl, fun H3 e3 => .inr (.inl ⟨rfl, ?_⟩)⟩⟩
            exact ⟨⟨_, rfl⟩, sG2.ext0 e3⟩
          clear hT
          by_cases hl4 : (ws.length : Int) < 5
          · rw [if_pos hl4]
            have hend := hrr.end (by omega)
            refine ⟨v1, t1, 4, th, ts.length - 1, rfl, d15, o1, by omega, by decide, hend, fun pe ve H6 e6 hpe hve oku dpu => ?_⟩
            obtain ⟨wi, wl2, rfl⟩ : ∃ wi wl2, ws = wi ++ [wl2] := ⟨ws.dropLast, ws.getLast (fun z => by rw [z] at hlw; have := hrr.hd; cases ts with | nil => cases this | cons a b => simp at hlw), (List.dropLast_concat_getLast _).symm⟩
            have hlast : Td K H6 wl2 th.data := by
              have hls := hrr.ls
              obtain ⟨ti, rfl⟩ : ∃ ti, ts = ti ++ [th] := by
                rw [List.getLast?_eq_some_iff] at hls
                exact hls
              have hw6 := hw5.ext e6
              rw [List.map_append] at hw6
              obtain ⟨ws', y, e1, _, hy⟩ := hw6.unsnoc
              have := List.append_inj' e1 rfl
              cases this.2
              exact hy
            have hR6 := e6.lst0 hR5
            refine ⟨_, hR6, wl2, atI_last _ _, _, hR6, by decide, fun p7 H7 e7 h7 => ?_⟩
            have hp1 : 1 ≤ ts.length := by rw [← hlw, List.length_append, List.length_singleton]; omega
            have hlen : (((wi ++ [wl2]).length : Nat) : Int) - 1 = ((ts.length - 1 : Nat) : Int) := by rw [hlw]; omega
            rw [hlen] at h7
            refine ⟨_, .tup (tupF_ext e7 hpe) (.cons (hve.ext e7) (.cons (.int _) .nil)), _, .tup h7 (.cons (hlast.ext e7) (.cons (.int _) .nil)), deep_end oku (by omega), deep_end oku (by omega), ?_⟩
            rw [if_neg (by rw [PySem.SeqAt.eqv_refl _ (deep_end oku (by omega)).1]; decide)]
            exact tail3 H7 (e6.trans e7)
          · rw [if_neg hl4]
            exact tail3 H5 (Ext.refl _ _)
        clear hT
        walk_at "rd"
        refine ⟨Rr, ws, ts, rfl, hRr, hws, by omega, hok, .inl ⟨hrr.st, fun H3 e3 => ⟨rfl, ?_⟩⟩⟩
        rw [if_neg (by decide)]
        refine ⟨_, e3.lst0 hRr, ?_⟩
        by_cases h1l : (1 : Int) < (ws.length : Nat)
        · rw [if_pos h1l]
          obtain ⟨u, r, rfl⟩ : ∃ u r, ts = t1 :: u :: r := by
            have hh := hrr.hd
            match ts, hh, hlw with
            | t :: u :: r, hh, _ => cases hh; exact ⟨u, r, rfl⟩
            | [t], _, hlw => rw [hlw] at h1l; exact absurd h1l (by simp)
            | [], hh, _ => cases hh
          have hst1 : t1.step = some u := hrr.st 0 t1 u rfl rfl
          refine ⟨Rr, ws, rfl, SqL.of (e3.lst0 hRr), fun R4 n4 => ⟨R4, rfl, ?_⟩⟩
          have e4 : Ext [] H3 (upd H3 R4 (.lst (cutV ws none (some 1)))) := Ext.new n4
          obtain ⟨w0, wr, rfl, hw0⟩ : ∃ w0 wr, ws = w0 :: wr ∧ Td K H2 w0 t1.data := by
            cases hws with
            | cons a b => exact ⟨_, _, rfl, a⟩
          refine ⟨_, upd_same, _, e4.lst0 (e3.lst0 hRr), ?_, fun R5 H5 n5 e5 h5 => ?_⟩
          · rw [show cutV (w0 :: wr) none (some 1) = [w0] from (cutV_to (k := 1)).trans rfl, List.length_cons, List.length_nil]
            omega
          have e25 := e3.trans (e4.trans e5)
          have h5 : H5 R5 = some (.lst (w0 :: w0 :: wr)) := h5
          refine ⟨R5, w0 :: w0 :: wr, t1 :: t1 :: u :: r, rfl, h5, .cons (hw0.ext e25) (hws.ext e25), by simp at hl5 ⊢; omega, fun t ht => ?_, .inr ⟨t1, t1, u :: r, rfl, fun z => ?_, fun H6 e6 => ⟨rfl, ?_⟩⟩⟩
          · rcases List.mem_cons.mp ht with z | z
            · rw [z]; exact hok t1 List.mem_cons_self
            · exact hok t z
          · rw [hst1] at z
            exact Cg.step_ne hst1 (Option.some.inj z)
          rw [if_neg (by decide)]
          exact tail2 H6 (e25.trans e6)
        · rw [if_neg h1l]
          exact tail2 H3 e3
    clear hT2
    walk_at "rd"
    refine ⟨vm, ofB b, "y", rfl, dm6, okm, sY, by omega, by omega, fun H7 e7 => ⟨_, rfl, ?_⟩⟩
    by_cases hy : (ofB b).has "y" = false
    case neg =>
      rw [if_neg (by simpa using hy)]
      exact tail H7 _ _ (s6.ext0 e7) (d16.ext e7)
    rw [if_pos (by rw [hy]; rfl)]
    refine ⟨vm, ofB b, "z", rfl, dm6.ext e7, okm, sZ, by omega, by omega, fun H8 e8 => ⟨_, rfl, ?_⟩⟩
    have e68 := e7.trans e8
    by_cases hzz : (ofB b).has "z" = false
    case neg =>
      rw [if_neg (by simpa using hzz)]
      exact tail H8 _ _ (s6.ext0 e68) (d16.ext e68)
    rw [if_pos (by rw [hzz]; rfl)]
    have hfine := fine_all (in_bares ib (by decide) hy hzz)
    unfold fine15 at hfine
    cases hpr : prR b with
    | none => rw [hpr] at hfine; cases hfine
    | some best =>
    cases hty : tyR (ofB b) with
    | none => rw [hpr, hty] at hfine; cases hfine
    | some r =>
    rw [hpr, hty] at hfine
    dsimp only at hfine
    refine ⟨vb, b, best, rfl, db6.ext e68, by omega, hpr, fun vbest H9 e9 hbest => ?_⟩
    have s9 := s6.ext0 (e68.trans e9)
    have d19 := d16.ext (e68.trans e9)
    refine ⟨s9.tl (tL, qL) (by simp), fun G eG tG => ?_⟩
    have sG := lamRM s9 eG tG
    have d1G := d19.ext eG
    refine ⟨vm, ofB b, rfl, ((dm6.ext e68).ext e9).ext eG, okm, by omega, by omega, by omega, .inr ⟨r, hty, fun J hq => .inr (.inr (.inr ⟨rfl, hq⟩)), fun vty Ha ea hvty => ?_⟩⟩
    have sa := sG.ext0 ea
    have d1a := d1G.ext ea
    have hbesta := (hbest.ext eG).ext ea
    have hM := sa.t tM (by simp)
    refine ⟨_, _, ⟨rfl, rfl⟩, ?_⟩
    rw [← hT, hideS_eq]
    clear hT
    walk_at "rd"
    have done : ∀ J, Ext [] Ha J → T { nx := fun σ' H' => (∃ x1 x2 x3 x4 x5 x6 x7 x8 x10 x11 x12 x13 x14 x15 x16 x17 x18 x19, σ' = [some (.ref a), x1, x2, x3, x4, x5, x6, x7, x8, none, x10, x11, x12, x13, x14, x15, x16, x17, x18, x19]) ∧ RM ds p [tM] [(tL, qL)] H', rt := Q, bk := tRet (tC (V.bl true)) { nx := fun x H' => False, rt := Q }, ct := fun σ' H' => (∃ x1 x2 x3 x4 x5 x6 x7 x8 x10 x11 x12 x13 x14 x15 x16 x17 x18 x19, σ' = [some (.ref a), x1, x2, x3, x4, x5, x6, x7, x8, none, x10, x11, x12, x13, x14, x15, x16, x17, x18, x19]) ∧ RM ds p [tM] [(tL, qL)] H' } [some (.ref a), some (.ref d), some v1, some v2, some v3, some vone, some vtwo, some vb, some vm, none, some vbest, some vty, x12, x13, x14, x15, x16, x17, x18, x19] J := fun J eJ => tail J _ _ (sa.ext0 eJ) (d1a.ext eJ)
    cases best with
    | none =>
      have hb0 : vbest = .non := hbesta
      subst hb0
      rw [if_neg (by decide)]
      exact done Ha (Ext.refl _ _)
    | some g =>
      obtain ⟨g1, g2, g3⟩ := hbesta
      have hne : vbest ≠ .non := fun z => by
        rw [z] at g1
        cases g <;> cases g1
      rw [if_pos (by simpa using hne)]
      cases r with
      | none =>
        have hv : vty = .str "large" := hvty
        subst hv
        refine ⟨.str "large", .str _, .str "large", .str _, strlarge, strlarge, ?_⟩
        rw [if_neg (by decide +kernel)]
        exact done Ha (Ext.refl _ _)
      | some r =>
        cases r with
        | none => cases hfine
        | some ft =>
          obtain ⟨f1, f2, f3⟩ : Td K Ha vty ft.data ∧ ft.dep ≤ 30 ∧ ∀ x ∈ ft.names, x ∈ LET := hvty
          have hne2 : vty ≠ .non := fun z => by
            rw [z] at f1
            cases ft <;> cases f1
          have hfs : PyData.eqv ft.data (.str "large") = false := by cases ft <;> rfl
          refine ⟨_, f1, .str "large", .str _, deepF (by omega) f3, strlarge, ?_⟩
          rw [if_pos (by rw [hfs]; rfl)]
          rw [if_neg (by simpa using hne2)]
          have hmt : (mt [] ft g).2 = true := hfine
          refine ⟨vty, vbest, ft, g, rfl, f1, g1, f2, f3, g3, g2, hM, (fun z => by rw [hmt] at z; cases z), fun _ am Hb eb hta => ?_⟩
          dsimp only
          rw [if_neg (fun z => nomatch z)]
          exact tail Hb _ _ (sa.tabs (fun t ht => .inl ht) eb fun x hx hxs => by
            rw [List.mem_singleton.mp hx] at hxs
            exact absurd (List.mem_singleton.mp hxs) nLM) (d1a.ext eb)
  clear hT
  rcases honeb.dat with ⟨rfl, _⟩ | ⟨po, wo1, uo, no1, ho1, rfl, hpo, hwo, oko, dpo⟩
  · refine ⟨.str "large", .str _, .str "large", .str _, strlarge, strlarge, ?_⟩
    rw [if_neg (by decide +kernel)]
    exact go
  · refine ⟨_, .tup hpo (.cons hwo (.cons (.int _) .nil)), .str "large", .str _, deep_end oko (by omega), strlarge, ?_⟩
    rw [if_pos (by rfl)]
    rcases htwo.dat with ⟨rfl, _⟩ | ⟨pt, wt1, ut, nt1, ht1, rfl, hpt, hwt, okt, dpt⟩
    · refine ⟨.str "large", .str _, .str "large", .str _, strlarge, strlarge, ?_⟩
      rw [if_neg (by decide +kernel)]
      exact go
    · refine ⟨_, .tup hpt (.cons hwt (.cons (.int _) .nil)), .str "large", .str _, deep_end okt (by omega), strlarge, ?_⟩
      rw [if_pos (by rfl)]
      have huu := Cg.law_end ho1 ht1
      subst huu
      refine ⟨po, rfl, _, hpo, wo1, atI_0, pt, rfl, _, hpt, wt1, atI_0, _, hwo, _, hwt, Cg.deep oko (by omega), Cg.deep okt (by omega), ?_⟩
      rw [if_neg (by rw [Cg.data_eqv]; simp)]
      exact go
end
end Sq
set_option Elab.async false
set_option linter.all false
set_option maxRecDepth 100000
set_option maxHeartbeats 2000000
namespace Sq
open PySem PySem.Spec PyProof.Rows L2
/-! ### what the top has left: dicts of texts, classes of exceptions -/
/-- the entries' keys and values, if all are texts -/
def pairsOf : List DictEntry → Option (List (Str × Str))
  | [] => some []
  | e :: r => match e.key, e.val with
    | .str x _, .str y _ => (pairsOf r).map ((x, y) :: ·)
    | _, _ => none
def litB (P : Params) : List DictEntry → List Str → Prop
  | [], [] => True
  | e :: r, x :: l => (∃ t, e.key = .str x t) ∧ e.hash = PyData.keyHash P x ∧ litB P r l
  | _, _ => False
theorem lit_of {P : Params} : ∀ {es : List DictEntry} {l : List Str}, litB P es l → PySem.W.KeysLit P es
  | [], _, _ => trivial
  | e :: r, x :: l, ⟨⟨t, h1⟩, h2, h3⟩ => ⟨⟨x, t, h1, h2⟩, lit_of h3⟩
theorem find_pairs {x y : Str} : ∀ {es : List DictEntry} {L : List (Str × Str)}, pairsOf es = some L → (L.map (·.1)).Nodup → (x, y) ∈ L → ∃ e, es.find? (fun d => d.key.isStr x) = some e ∧ ∃ t, e.val = .str y t
  | [], L, h, _, hm => by simp [pairsOf] at h; subst h; cases hm
  | e :: r, L, h, nd, hm => by
    obtain ⟨hh0, k, v⟩ := e
    rw [pairsOf] at h
    dsimp only at h
    split at h
    · rename_i a t b u
      cases hr : pairsOf r with
      | none => rw [hr] at h; cases h
      | some L' =>
        rw [hr] at h
        cases h
        rw [List.map_cons, List.nodup_cons] at nd
        by_cases e : a = x
        · subst e
          have : b = y := by
            rcases List.mem_cons.mp hm with z | z
            · exact (Prod.mk.inj z).2.symm
            · exact absurd (List.mem_map.mpr ⟨_, z, rfl⟩) nd.1
          subst this
          exact ⟨{ hash := hh0, key := .str a t, val := .str b u }, by rw [List.find?_cons]; simp [Value.isStr], u, rfl⟩
        · have hm' : (x, y) ∈ L' := by
            rcases List.mem_cons.mp hm with z | z
            · exact absurd (Prod.mk.inj z).1.symm e
            · exact z
          obtain ⟨e', h1, h2⟩ := find_pairs hr nd.2 hm'
          refine ⟨e', ?_, h2⟩
          rw [List.find?_cons]
          have : (Value.str a t).isStr x = false := by simp [Value.isStr, e]
          rw [this]
          exact h1
    · cases h
theorem con_kd {R : Prop} {w : World} {K : PySem.W.Frag} {mg : Str → Option Value} {h : Heap} {aS : Addr} {o : Obj} {es : Array DictEntry} {n : Nat} (x : Str) (L : List (Str × Str)) (X : K.In h) (G : h.Ns mainGlobals mg) (a : PySem.W.nsIn K mainGlobals x = some (some (.ref aS))) (l : K.lookup aS = some o)
    (ho : o = ⟨.type "dict", none, .dict es n, #[]⟩) (hl : litB w.params es.toList (L.map (·.1))) (low : (aS == sysModules) = false) (hp : pairsOf es.toList = some L) (nd : (L.map (·.1)).Nodup) (r : mg x = some (.ref aS) → (∀ ts : List Addr, aS ∉ ts → Kd (dropT ts K) w aS L) → R) : R := by
  subst ho
  refine r (PySem.W.mg_of X G a) fun ts hts => ?_
  have l' : (dropT ts K).lookup aS = some ⟨.type "dict", none, .dict es n, #[]⟩ := by rw [dropT_out hts]; exact l
  refine ⟨⟨es, n, l', lit_of hl, low⟩, fun k s hm => ?_⟩
  obtain ⟨e, h1, t, h2⟩ := find_pairs hp nd hm
  refine ⟨e.val, ?_, t, h2⟩
  unfold PySem.W.nsIn
  rw [l']
  dsimp only
  rw [h1]
end Sq
set_option Elab.async false
set_option linter.all false
set_option maxRecDepth 100000
set_option maxHeartbeats 2000000
namespace Sq
open PySem PySem.Spec PyProof.Rows L2
/-! ### the same, where a table that stands empty is told, too -/
theorem walk_GM {l : PySem.W.OpenLaw} {q : Program} {loose : List Str} {XP : (Str → Option Value) → Heap → Prop} {d : DefRec} {K0 : PySem.Params → PySem.W.Frag} {as : List Addr} {e : ∀ P, as = (K0 P).map (·.1)} {ts ms : List Addr}
    (hn : l.most = some 63) (hdf : d.params.defaults = [])
    (F : ∀ (w : World) (mg : Str → Option Value) (fa : Addr) (h : Heap), (K0 w.params).In h → h.Ns mainGlobals mg → mg d.name = some (.ref fa) → OwnAll q mg (K0 w.params) h →
      ∃ cs : List (Addr × Addr), (∀ p ∈ cs, h.get? p.2 = some { cls := .none, data := .fields #[] }) ∧ (∀ p ∈ cs, (dropT ts (K0 w.params)).lookup p.2 = none) ∧ (∀ p ∈ cs, PySem.W.CodeHd h p.1 p.2) ∧ LawRun l w (dropT ts (K0 w.params)) mg fa cs) :
    PySem.W.WalkO q loose XP (PySem.W.kmHook K0 as e ms).says l.row.toRowW d [] (fun f vs => PySem.call f vs) := by
  refine Att.attach_callB hn hdf fun w s0 s1 mg mb fa o pm cd doc a vs ns G Y ho hd hcd hmg hobj hints hlen hbits hg => ?_
  have kin : (K0 w.params).In s1.heap := PySem.W.km_in_of Y
  obtain ⟨cs, t1, t2, t3, run⟩ := F w mg fa _ kin G.T.g hmg (own_all kin G.T.tab)
  exact law_callG (dropT_In kin) G.T.g G.T.b G.T.builtins G.T.nolimit hg t1 t2 t3 G.T.bmain hobj hints hlen run
end Sq
set_option Elab.async false
set_option linter.all false
set_option maxRecDepth 100000
set_option maxHeartbeats 2000000
namespace Sq
open PySem PySem.Spec PyProof.Rows L2 NdefX
/-! ### an own exception with a field, read off the head -/
structure XiK (K : PySem.W.Frag) (C fI : Addr) (fld : Str) : Prop where
  fi : PySem.W.findIn K (.ref C) "__init__" = some (some (.ref fI))
  ti : PySem.W.typeIn K (.ref fI) = some (.type "function")
  sa : PySem.W.findIn K (.ref C) "__setattr__" = some (some (.builtin "object.__setattr__"))
  exC : PySem.W.subIn K (.ref C) (.type "BaseException") = some true
  tyC : PySem.W.typeIn K (.ref C) = some (.type "type")
  kC : PySem.W.keepIn K (.ref C) = true
  nf : PySem.W.findIn K (.ref C) fld = some none
  sb : PySem.W.mroIn K C (.ref C) = some true
  op : PySem.W.nsIn K cStatics "thirdparty.any" = some none
  su : PySem.W.ks_superIn K C C "__init__" = some (some (.builtin "ValueError.__init__"))
  ve : PySem.W.subIn K (.ref C) (.type "ValueError") = some true
section
variable {R : Prop} {P : Program} {w : World} {K : PySem.W.Frag} {mg : Str → Option Value} {h : Heap} {C fI cc cda : Addr} {fld m qual : Str} {params : Arguments} {scope : Scope} {dV kV doc pm ct oc cl ccl : Value} {an od cld cdd : Option Addr} {osl csl ccs : Array (Option Value)}
  {jk : Nat} {p0 p1 p2 p3 p4 p5 p6 p7 p8 p9 : Pos} {vs : Array Value} {file : Str} {tf : Tok} {ar : Arg} {oC : Obj}
theorem xi_go (x : Str) (X : K.In h) (G : h.Ns mainGlobals mg) (a : PySem.W.nsIn K mainGlobals x = some (some (.ref C))) (lC : K.lookup C = some oC)
    (eC : ∃ nm q N bs bm sn sub ab col dd k0 k1 k2 k3 k5, oC = excClassObj nm q C N bs bm true sn sub ab col dd k0 k1 k2 k3 k5 "ValueError.__new__" ∧ PySem.HandSPX.refsVE bm = true)
    (f1 : PySem.W.findIn K (.ref C) "__init__" = some (some (.ref fI)))
    (lk : K.lookup fI = some ⟨oc, od, .func (xiFd qual params (xiBody fld m jk p0 p1 p2 p3 p4 p5 p6 p7 p8 p9) scope cc cda dV kV doc pm ct an), osl⟩) (hcd : PySem.W.codeIn K (.ref cda) qual = true)
    (S : nscB ["self", fld, "__class__"] ["self", fld] ["__class__"] scope = true) (hks : scope.names.lookup ("super" : Str) = some .globalImplicit) (hcell : K.lookup cc = some ⟨cl, cld, .cell (some (.ref C)), csl⟩)
    (hcode : K.lookup cda = some ⟨ccl, cdd, .fields vs, ccs⟩) (hvs : vs[2]? = some (.str file tf)) (hfile : ((P.main.file : Str) == file) = true) (hp : (params.posonlyargs ++ params.args).head? = some ar) (har : ar.arg = "self") (hfd : (fld == ("__debug__" : Str)) = false) (hfc : (fld == ("__classdict__" : Str)) = false)
    (hb : ∀ (us : List Value), us.length = 2 → bindArgs (xiFd qual params (xiBody fld m jk p0 p1 p2 p3 p4 p5 p6 p7 p8 p9) scope cc cda dV kV doc pm ct an) ⟨us, []⟩ = pure ((["self", fld] : List Str).zip us))
    {pl : Sem Bool}
    (he : ∀ L : Addr, eval (.Call (.Attribute (.Call (.Name "super" p0) [] [] p1) "__init__" p2) [.Constant (.str m) jk p3] [] p4) (envF (xiNF qual params (xiBody fld m jk p0 p1 p2 p3 p4 p5 p6 p7 p8 p9) scope cc cda) fI L) = (do
      let ov ← attributeBase (.Call (.Name "super" p0) [] [] p1) "__init__" (envF (xiNF qual params (xiBody fld m jk p0 p1 p2 p3 p4 p5 p6 p7 p8 p9) scope cc cda) fI L) (eval (.Call (.Name "super" p0) [] [] p1) (envF (xiNF qual params (xiBody fld m jk p0 p1 p2 p3 p4 p5 p6 p7 p8 p9) scope cc cda) fI L))
      standAt p2.atName
      let (f, first) ← holding [ov] (getMethod ov "__init__" pl)
      callWith p4 f first (backTo p4 (starEach [.Constant (.str m) jk p3] (envF (xiNF qual params (xiBody fld m jk p0 p1 p2 p3 p4 p5 p6 p7 p8 p9) scope cc cda) fI L))) []))
    (tp : (P.main.scope.names.lookup ("super" : Str)).isSome = false) (ms : PySem.W.nsIn K mainGlobals "super" = some none)
    (r : mg x = some (.ref C) → (∀ ts : List Addr, C ∉ ts → fI ∉ ts → cc ∉ ts → cda ∉ ts → XiK (dropT ts K) C fI fld → ∀ base, Xi P w (dropT ts K) mg base x C fld) → R) : R := by
  have gx := PySem.W.mg_of X G a
  refine r gx fun ts n1 n2 n3 n4 k base => ?_
  obtain ⟨nm, q, N, bs, bm, sn, sub, ab, col, dd, k0, k1, k2, k3, k5, rfl, vE⟩ := eC
  have lC' : (dropT ts K).lookup C = some (excClassObj nm q C N bs bm true sn sub ab col dd k0 k1 k2 k3 k5 "ValueError.__new__") := (dropT_out n1).trans lC
  have T : OexC (dropT ts K) C := ⟨⟨nm, q, N, bs, bm, sn, sub, ab, col, dd, k0, k1, k2, k3, k5, lC', vE⟩, k.sa, k.exC, k.tyC, k.kC⟩
  have XC : XiC P (dropT ts K) mg C fld := ⟨T, k.nf, PySem.W.mg_none_of X G ms, ⟨_, by unfold PySem.W.clsIn; rw [lC'] <;> rfl⟩, k.sb, k.op, k.su, k.ve, tp⟩
  have hcd' : PySem.W.codeIn (dropT ts K) (.ref cda) qual = true := by
    unfold PySem.W.codeIn at hcd ⊢
    simp only [dropT_out n4] at hcd ⊢
    exact hcd
  exact ⟨T, gx, fI, _, k.fi, k.ti, fun CX => xi_fn (k := 0) XC ((dropT_out n2).trans lk) hcd' (nscope_by S) hks ((dropT_out n3).trans hcell) ((dropT_out n4).trans hcode) hvs hfile hp har hfd hfc he, .all hb⟩
end
end Sq
set_option Elab.async false
set_option linter.all false
set_option maxRecDepth 100000
set_option maxHeartbeats 4000000
namespace Sq
open PySem PySem.Spec PyProof.Rows L2
theorem law_at {l : PySem.W.OpenLaw} {w : World} {K : PySem.W.Frag} {mg : Str → Option Value} {h : Heap} {fa t_match_in t_law : Addr} {f_names_of f_put f_unified f_laid f_matched f_match_in f_is_closed f_is_pair f_has f_without f_of_bare f_head f_step f_rule f_end f_type_of_letter f_type_of f_guessed f_look_rows f_weight f_with_name f_principal f_mark f_guess f_new_type f__law_dice f__law_roll f__law_rounds f__law_told f__law_bare f__law_put f__law_thing f__law_part f_law c_names_of c_put c_unified c_laid c_matched c_match_in c_is_closed c_is_pair c_has c_without c_of_bare c_head c_step c_rule c_end c_type_of_letter c_type_of c_guessed c_look_rows c_weight c_with_name c_principal c_mark c_guess c_new_type c__law_dice c__law_roll c__law_rounds c__law_told c__law_bare c__law_put c__law_thing c__law_part c_law : Addr} {d_names_of d_put d_unified d_laid d_matched d_match_in d_is_closed d_is_pair d_has d_without d_of_bare d_head d_step d_rule d_end d_type_of_letter d_type_of d_guessed d_look_rows d_weight d_with_name d_principal d_mark d_guess d_new_type d__law_dice d__law_roll d__law_rounds d__law_told d__law_bare d__law_put d__law_thing d__law_part : FuncData} {an : Option Addr} {kV dc pm ct : Value} {aJ aLt aT aB aW aL aX : Addr} {uN : Value}
    (X : K.In h) (G : h.Ns mainGlobals mg) (hfa : mg "law" = some (.ref fa)) (B : Bl mg)
    (D_names_of : Dn K mg "names_of" s_names_of f_names_of d_names_of c_names_of)
    (D_put : Dn K mg "put" s_put f_put d_put c_put)
    (D_unified : Dn K mg "unified" s_unified f_unified d_unified c_unified)
    (D_laid : Dn K mg "laid" s_laid f_laid d_laid c_laid)
    (D_matched : Dn K mg "matched" s_matched f_matched d_matched c_matched)
    (D_match_in : Dn K mg "match_in" s_match_in f_match_in d_match_in c_match_in)
    (D_is_closed : Dn K mg "is_closed" s_is_closed f_is_closed d_is_closed c_is_closed)
    (D_is_pair : Dn K mg "is_pair" s_is_pair f_is_pair d_is_pair c_is_pair)
    (D_has : Dn K mg "has" s_has f_has d_has c_has)
    (D_without : Dn K mg "without" s_without f_without d_without c_without)
    (D_of_bare : Dn K mg "of_bare" s_of_bare f_of_bare d_of_bare c_of_bare)
    (D_head : Dn K mg "head" s_head f_head d_head c_head)
    (D_step : Dn K mg "step" s_step f_step d_step c_step)
    (D_rule : Dn K mg "rule" s_rule f_rule d_rule c_rule)
    (D_end : Dn K mg "end" s_end f_end d_end c_end)
    (D_type_of_letter : Dn K mg "type_of_letter" s_type_of_letter f_type_of_letter d_type_of_letter c_type_of_letter)
    (D_type_of : Dn K mg "type_of" s_type_of f_type_of d_type_of c_type_of)
    (D_guessed : Dn K mg "guessed" s_guessed f_guessed d_guessed c_guessed)
    (D_look_rows : Dn K mg "look_rows" s_look_rows f_look_rows d_look_rows c_look_rows)
    (D_weight : Dn K mg "weight" s_weight f_weight d_weight c_weight)
    (D_with_name : Dn K mg "with_name" s_with_name f_with_name d_with_name c_with_name)
    (D_principal : Dn K mg "principal" s_principal f_principal d_principal c_principal)
    (D_mark : Dn K mg "mark" s_mark f_mark d_mark c_mark)
    (D_guess : Dn K mg "guess" s_guess f_guess d_guess c_guess)
    (D_new_type : Dn K mg "new_type" s_new_type f_new_type d_new_type c_new_type)
    (D__law_dice : Dn K mg "_law_dice" s__law_dice f__law_dice d__law_dice c__law_dice)
    (D__law_roll : Dn K mg "_law_roll" s__law_roll f__law_roll d__law_roll c__law_roll)
    (D__law_rounds : Dn K mg "_law_rounds" s__law_rounds f__law_rounds d__law_rounds c__law_rounds)
    (D__law_told : Dn K mg "_law_told" s__law_told f__law_told d__law_told c__law_told)
    (D__law_bare : Dn K mg "_law_bare" s__law_bare f__law_bare d__law_bare c__law_bare)
    (D__law_put : Dn K mg "_law_put" s__law_put f__law_put d__law_put c__law_put)
    (D__law_thing : Dn K mg "_law_thing" s__law_thing f__law_thing d__law_thing c__law_thing)
    (D__law_part : Dn K mg "_law_part" s__law_part f__law_part d__law_part c__law_part)
    (D_law : Dn K mg "law" s_law f_law (PySem.W.fnOf "law" "law" (defArgs s_law) (defBody s_law) (defScope s_law) .none kV dc pm an (.ref c_law) ct) c_law)
    (T_match_in : PySem.W.CodeHd h c_match_in t_match_in ∧ h.get? t_match_in = some { cls := .none, data := .fields #[] })
    (T_law : PySem.W.CodeHd h c_law t_law ∧ h.get? t_law = some { cls := .none, data := .fields #[] })
    (J1 : mg "JOINS" = some (.ref aJ)) (J2 : WrT K aJ (joinsT.map V.str)) (N1 : mg "NAMES" = some uN) (N2 : RelV (.str namesT) uN) (L1 : mg "LETTERS" = some (.ref aLt)) (L2 : WrT K aLt (LTS.map V.str))
    (XT : Xc (dropT [t_match_in, t_law] K) mg "BadType" aT) (exT : PySem.W.exmOne (dropT [t_match_in, t_law] K) (.ref aT) (.ref aT) = some true) (XB : Xc (dropT [t_match_in, t_law] K) mg "BadTerm" aB) (XL : Xc (dropT [t_match_in, t_law] K) mg "TooLarge" aL) (ER : ErA (dropT [t_match_in, t_law] K) mg aT aB aW aL)
    (XI : ∀ base, Xi l.prog w (dropT [t_match_in, t_law] K) mg base "BadPaper" aX "part") (gX : mg "BadPaper" = some (.ref aX)) (XF : XfC (dropT [t_match_in, t_law] K) aX) (hno : PySem.W.findIn (dropT [t_match_in, t_law] K) (.ref aX) "part" = some none) (exX : PySem.W.exmOne (dropT [t_match_in, t_law] K) (.ref aX) (.ref aX) = some true) (nLM : t_law ≠ t_match_in)
    (nin : ∀ a ∈ [f_names_of, f_put, f_unified, f_laid, f_matched, f_match_in, f_is_closed, f_is_pair, f_has, f_without, f_of_bare, f_head, f_step, f_rule, f_end, f_type_of_letter, f_type_of, f_guessed, f_look_rows, f_weight, f_with_name, f_principal, f_mark, f_guess, f_new_type, f__law_dice, f__law_roll, f__law_rounds, f__law_told, f__law_bare, f__law_put, f__law_thing, f__law_part, f_law, c_names_of, c_put, c_unified, c_laid, c_matched, c_match_in, c_is_closed, c_is_pair, c_has, c_without, c_of_bare, c_head, c_step, c_rule, c_end, c_type_of_letter, c_type_of, c_guessed, c_look_rows, c_weight, c_with_name, c_principal, c_mark, c_guess, c_new_type, c__law_dice, c__law_roll, c__law_rounds, c__law_told, c__law_bare, c__law_put, c__law_thing, c__law_part, c_law, aJ, aLt], a ∉ ([t_match_in, t_law] : List Addr)) : ∃ cs : List (Addr × Addr), (∀ p ∈ cs, h.get? p.2 = some { cls := .none, data := .fields #[] }) ∧ (∀ p ∈ cs, (dropT [t_match_in, t_law] K).lookup p.2 = none) ∧ (∀ p ∈ cs, PySem.W.CodeHd h p.1 p.2) ∧ LawRun l w (dropT [t_match_in, t_law] K) mg fa cs := by
  have e := hfa.symm.trans D_law.mgf
  cases e
  have GJ : Gc (dropT [t_match_in, t_law] K) mg aJ uN := ⟨J1, J2.drop (nin aJ (by simp)), N1, N2⟩
  have GL : GsL (dropT [t_match_in, t_law] K) mg aLt := ⟨L1, L2.drop (nin aLt (by simp))⟩
  replace D_names_of := D_names_of.drop (nin f_names_of (by simp)) (nin c_names_of (by simp))
  replace D_put := D_put.drop (nin f_put (by simp)) (nin c_put (by simp))
  replace D_unified := D_unified.drop (nin f_unified (by simp)) (nin c_unified (by simp))
  replace D_laid := D_laid.drop (nin f_laid (by simp)) (nin c_laid (by simp))
  replace D_matched := D_matched.drop (nin f_matched (by simp)) (nin c_matched (by simp))
  replace D_match_in := D_match_in.drop (nin f_match_in (by simp)) (nin c_match_in (by simp))
  replace D_is_closed := D_is_closed.drop (nin f_is_closed (by simp)) (nin c_is_closed (by simp))
  replace D_is_pair := D_is_pair.drop (nin f_is_pair (by simp)) (nin c_is_pair (by simp))
  replace D_has := D_has.drop (nin f_has (by simp)) (nin c_has (by simp))
  replace D_without := D_without.drop (nin f_without (by simp)) (nin c_without (by simp))
  replace D_of_bare := D_of_bare.drop (nin f_of_bare (by simp)) (nin c_of_bare (by simp))
  replace D_head := D_head.drop (nin f_head (by simp)) (nin c_head (by simp))
  replace D_step := D_step.drop (nin f_step (by simp)) (nin c_step (by simp))
  replace D_rule := D_rule.drop (nin f_rule (by simp)) (nin c_rule (by simp))
  replace D_end := D_end.drop (nin f_end (by simp)) (nin c_end (by simp))
  replace D_type_of_letter := D_type_of_letter.drop (nin f_type_of_letter (by simp)) (nin c_type_of_letter (by simp))
  replace D_type_of := D_type_of.drop (nin f_type_of (by simp)) (nin c_type_of (by simp))
  replace D_guessed := D_guessed.drop (nin f_guessed (by simp)) (nin c_guessed (by simp))
  replace D_look_rows := D_look_rows.drop (nin f_look_rows (by simp)) (nin c_look_rows (by simp))
  replace D_weight := D_weight.drop (nin f_weight (by simp)) (nin c_weight (by simp))
  replace D_with_name := D_with_name.drop (nin f_with_name (by simp)) (nin c_with_name (by simp))
  replace D_principal := D_principal.drop (nin f_principal (by simp)) (nin c_principal (by simp))
  replace D_mark := D_mark.drop (nin f_mark (by simp)) (nin c_mark (by simp))
  replace D_guess := D_guess.drop (nin f_guess (by simp)) (nin c_guess (by simp))
  replace D_new_type := D_new_type.drop (nin f_new_type (by simp)) (nin c_new_type (by simp))
  replace D__law_dice := D__law_dice.drop (nin f__law_dice (by simp)) (nin c__law_dice (by simp))
  replace D__law_roll := D__law_roll.drop (nin f__law_roll (by simp)) (nin c__law_roll (by simp))
  replace D__law_rounds := D__law_rounds.drop (nin f__law_rounds (by simp)) (nin c__law_rounds (by simp))
  replace D__law_told := D__law_told.drop (nin f__law_told (by simp)) (nin c__law_told (by simp))
  replace D__law_bare := D__law_bare.drop (nin f__law_bare (by simp)) (nin c__law_bare (by simp))
  replace D__law_put := D__law_put.drop (nin f__law_put (by simp)) (nin c__law_put (by simp))
  replace D__law_thing := D__law_thing.drop (nin f__law_thing (by simp)) (nin c__law_thing (by simp))
  replace D__law_part := D__law_part.drop (nin f__law_part (by simp)) (nin c__law_part (by simp))
  replace D_law := D_law.drop (nin fa (by simp)) (nin c_law (by simp))
  refine ⟨[(c_match_in, t_match_in), (c_law, t_law)], fun p hp => ?_, fun p hp => ?_, fun p hp => ?_, fun base s H a ns KX hG hT en hH hS hl => ?_⟩
  · skip
    rcases List.mem_cons.mp hp with e | hp
    · subst e; exact T_match_in.2
    have e := List.mem_singleton.mp hp
    subst e; exact T_law.2
  · skip
    rcases List.mem_cons.mp hp with e | hp
    · subst e; exact dropT_in (by simp)
    have e := List.mem_singleton.mp hp
    subst e; exact dropT_in (by simp)
  · skip
    rcases List.mem_cons.mp hp with e | hp
    · subst e; exact T_match_in.1
    have e := List.mem_singleton.mp hp
    subst e; exact T_law.1
  have B_match_in := tabB_of (hT (c_match_in, t_match_in) (by simp))
  have H_match_in : GxR.TabG H t_match_in := ⟨#[], hH (c_match_in, t_match_in) (by simp), trivial⟩
  have B_law := tabB_of (hT (c_law, t_law) (by simp))
  have H_law : GxR.TabG H t_law := ⟨#[], hH (c_law, t_law) (by simp), trivial⟩
  have g_dice := ok_dice (P := l.prog) (w := w) (base := base) D__law_dice B
  have g_roll := ok_roll (P := l.prog) (w := w) (base := base) D__law_roll B
  have g_rounds := ok_rounds (P := l.prog) (w := w) (base := base) (most := 3) (by decide) D__law_rounds B g_dice
  have g_isp := ok_isp (P := l.prog) (w := w) (base := base) D_is_pair B
  have g_icl := ok_icl (P := l.prog) (w := w) (base := base) D_is_closed B GL
  have g_has := ok_has (P := l.prog) (w := w) (base := base) D_has B g_isp
  have g_wo := ok_wo (P := l.prog) (w := w) (base := base) D_without B g_has
  have x_ofB := ok_ofB (P := l.prog) (w := w) (base := base) (aB := aB) D_of_bare B XB g_wo
  have g_wt := ok_wt (P := l.prog) (w := w) (base := base) D_weight B g_isp
  have g_head := ok_head (P := l.prog) (w := w) (base := base) D_head B g_isp
  have g_rule := ok_rule (P := l.prog) (w := w) (base := base) D_rule B
  have g_st := ok_stC (P := l.prog) (w := w) (base := base) D_step B g_head g_rule
  have x_end := ok_endC (P := l.prog) (w := w) (base := base) (aL := aL) D_end B XL (g_st 160)
  have g_tyL := ok_tyL (P := l.prog) (w := w) (base := base) D_type_of_letter B GJ
  have x_gsC := ok_gsC (P := l.prog) (w := w) (base := base) (aB := aB) D_guessed B GJ XB g_tyL g_isp
  have g_wn := ok_wname (P := l.prog) (w := w) (base := base) D_with_name B
  have g_names := ok_names (P := l.prog) (w := w) (base := base) (NS := LET) D_names_of B let_ok
  have g_laid := ok_laid (P := l.prog) (w := w) (base := base) D_laid B GJ
  have g_put := ok_put (P := l.prog) (w := w) (base := base) (NS := LET) D_put B let_ok GJ
  have g_uni := ok_unified (P := l.prog) (w := w) (base := base) (NS := LET) D_unified B GJ let_ok (fun x h => h) (g_names 64) (g_laid 64) (g_put 64)
  have g_mtin := ok_mtin (P := l.prog) (w := w) (base := base) (NS := LET) D_match_in B let_ok B_match_in
  have g_matched := ok_matched (P := l.prog) (w := w) (base := base) D_matched B (g_mtin 60)
  have x_mark := ok_mark (P := l.prog) (w := w) (base := base) D_mark B XT
  have x_new := ok_new (P := l.prog) (w := w) (base := base) D_new_type B x_mark
  have x_gs := ok_gs (P := l.prog) (w := w) (base := base) D_guess B XT x_new g_wn 60
  have g_pr := ok_prin (P := l.prog) (w := w) (base := base) D_principal B XT exT (mark0 x_mark) x_gs g_uni (g_laid 64)
  have x_tyO := ok_tyO (P := l.prog) (w := w) (base := base) (aB := aB) (aL := aL) D_type_of B GJ XL (k := 100) (by decide) (x_gsC 100) g_uni (g_laid 64)
  have x_lk := ok_lk15 (P := l.prog) (w := w) (base := base) D_look_rows B (XI base) (g_st 110)
  have g_part := ok_part15 (P := l.prog) (w := w) (base := base) D__law_part B gX XF hno exX x_lk
  have g_lput := ok_lput (P := l.prog) (w := w) (base := base) D__law_put B
  have g_thing := ok_thing15 (P := l.prog) (w := w) (base := base) D__law_thing B g_roll
  have g_bare := ok_bare15 (P := l.prog) (w := w) (base := base) D__law_bare B g_roll
  exact law_runs (tM := t_match_in) (tL := t_law) D_law (fun s v => .of_eq rfl) B g_rounds (g_thing 9) (g_wo 60) (g_has 60) (g_icl 60) (g_wt 60) x_end (g_lput 60) (g_bare 9) (x_ofB 120) g_pr x_tyO g_matched (g_st 160) g_part g_head D__law_told ER (hT (c_law, t_law) (by simp)) en hS H_match_in (hH (c_law, t_law) (by simp)) nLM
end Sq
set_option Elab.async false
set_option linter.all false
open PySem PySem.W PyProof.Rows
set_option maxRecDepth 100000 in
set_option maxHeartbeats 0 in
theorem PySem.Challenge.cw_sequenthall_k15_terms_without_bound_name_holds : PySem.Challenge.rw_sequenthall_k15_terms_without_bound_name.Holds := by
  w_on; o_law; k_head; (case hw => w_witness2)
  k_fill
  refine' Sq.walk_GM (l := PySem.Challenge.rw_sequenthall_k15_terms_without_bound_name) rfl rfl ?F
  case F =>
    intro w mg fa h KX G hmg KO
    refine' Sq.dn_go "names_of" Sq.s_names_of KX G ?a ?l ?c ?k ?_
    (case a => k_is); (case l => k_is); (case c => k_is); (case k => k_is)
    intro D_names_of
    refine' Sq.dn_go "put" Sq.s_put KX G ?a ?l ?c ?k ?_
    (case a => k_is); (case l => k_is); (case c => k_is); (case k => k_is)
    intro D_put
    refine' Sq.dn_go "unified" Sq.s_unified KX G ?a ?l ?c ?k ?_
    (case a => k_is); (case l => k_is); (case c => k_is); (case k => k_is)
    intro D_unified
    refine' Sq.dn_go "laid" Sq.s_laid KX G ?a ?l ?c ?k ?_
    (case a => k_is); (case l => k_is); (case c => k_is); (case k => k_is)
    intro D_laid
    refine' Sq.dn_go "matched" Sq.s_matched KX G ?a ?l ?c ?k ?_
    (case a => k_is); (case l => k_is); (case c => k_is); (case k => k_is)
    intro D_matched
    refine' Sq.dn_goT "match_in" Sq.s_match_in KX G ?a ?l ?c ?k ?lc ?t ?u KO ?rc ?_
    (case a => k_is); (case l => k_is); (case c => k_is); (case k => k_is); (case lc => k_is); (case t => rfl); (case u => decide +kernel); (case rc => decide +kernel)
    intro D_match_in T_match_in
    refine' Sq.dn_go "is_closed" Sq.s_is_closed KX G ?a ?l ?c ?k ?_
    (case a => k_is); (case l => k_is); (case c => k_is); (case k => k_is)
    intro D_is_closed
    refine' Sq.dn_go "is_pair" Sq.s_is_pair KX G ?a ?l ?c ?k ?_
    (case a => k_is); (case l => k_is); (case c => k_is); (case k => k_is)
    intro D_is_pair
    refine' Sq.dn_go "has" Sq.s_has KX G ?a ?l ?c ?k ?_
    (case a => k_is); (case l => k_is); (case c => k_is); (case k => k_is)
    intro D_has
    refine' Sq.dn_go "without" Sq.s_without KX G ?a ?l ?c ?k ?_
    (case a => k_is); (case l => k_is); (case c => k_is); (case k => k_is)
    intro D_without
    refine' Sq.dn_go "of_bare" Sq.s_of_bare KX G ?a ?l ?c ?k ?_
    (case a => k_is); (case l => k_is); (case c => k_is); (case k => k_is)
    intro D_of_bare
    refine' Sq.dn_go "head" Sq.s_head KX G ?a ?l ?c ?k ?_
    (case a => k_is); (case l => k_is); (case c => k_is); (case k => k_is)
    intro D_head
    refine' Sq.dn_go "step" Sq.s_step KX G ?a ?l ?c ?k ?_
    (case a => k_is); (case l => k_is); (case c => k_is); (case k => k_is)
    intro D_step
    refine' Sq.dn_go "rule" Sq.s_rule KX G ?a ?l ?c ?k ?_
    (case a => k_is); (case l => k_is); (case c => k_is); (case k => k_is)
    intro D_rule
    refine' Sq.dn_go "end" Sq.s_end KX G ?a ?l ?c ?k ?_
    (case a => k_is); (case l => k_is); (case c => k_is); (case k => k_is)
    intro D_end
    refine' Sq.dn_go "type_of_letter" Sq.s_type_of_letter KX G ?a ?l ?c ?k ?_
    (case a => k_is); (case l => k_is); (case c => k_is); (case k => k_is)
    intro D_type_of_letter
    refine' Sq.dn_go "type_of" Sq.s_type_of KX G ?a ?l ?c ?k ?_
    (case a => k_is); (case l => k_is); (case c => k_is); (case k => k_is)
    intro D_type_of
    refine' Sq.dn_go "guessed" Sq.s_guessed KX G ?a ?l ?c ?k ?_
    (case a => k_is); (case l => k_is); (case c => k_is); (case k => k_is)
    intro D_guessed
    refine' Sq.dn_go "look_rows" Sq.s_look_rows KX G ?a ?l ?c ?k ?_
    (case a => k_is); (case l => k_is); (case c => k_is); (case k => k_is)
    intro D_look_rows
    refine' Sq.dn_go "weight" Sq.s_weight KX G ?a ?l ?c ?k ?_
    (case a => k_is); (case l => k_is); (case c => k_is); (case k => k_is)
    intro D_weight
    refine' Sq.dn_go "with_name" Sq.s_with_name KX G ?a ?l ?c ?k ?_
    (case a => k_is); (case l => k_is); (case c => k_is); (case k => k_is)
    intro D_with_name
    refine' Sq.dn_go "principal" Sq.s_principal KX G ?a ?l ?c ?k ?_
    (case a => k_is); (case l => k_is); (case c => k_is); (case k => k_is)
    intro D_principal
    refine' Sq.dn_go "mark" Sq.s_mark KX G ?a ?l ?c ?k ?_
    (case a => k_is); (case l => k_is); (case c => k_is); (case k => k_is)
    intro D_mark
    refine' Sq.dn_go "guess" Sq.s_guess KX G ?a ?l ?c ?k ?_
    (case a => k_is); (case l => k_is); (case c => k_is); (case k => k_is)
    intro D_guess
    refine' Sq.dn_go "new_type" Sq.s_new_type KX G ?a ?l ?c ?k ?_
    (case a => k_is); (case l => k_is); (case c => k_is); (case k => k_is)
    intro D_new_type
    refine' Sq.dn_go "_law_dice" Sq.s__law_dice KX G ?a ?l ?c ?k ?_
    (case a => k_is); (case l => k_is); (case c => k_is); (case k => k_is)
    intro D__law_dice
    refine' Sq.dn_go "_law_roll" Sq.s__law_roll KX G ?a ?l ?c ?k ?_
    (case a => k_is); (case l => k_is); (case c => k_is); (case k => k_is)
    intro D__law_roll
    refine' Sq.dn_go "_law_rounds" Sq.s__law_rounds KX G ?a ?l ?c ?k ?_
    (case a => k_is); (case l => k_is); (case c => k_is); (case k => k_is)
    intro D__law_rounds
    refine' Sq.dn_go "_law_told" Sq.s__law_told KX G ?a ?l ?c ?k ?_
    (case a => k_is); (case l => k_is); (case c => k_is); (case k => k_is)
    intro D__law_told
    refine' Sq.dn_go "_law_bare" Sq.s__law_bare KX G ?a ?l ?c ?k ?_
    (case a => k_is); (case l => k_is); (case c => k_is); (case k => k_is)
    intro D__law_bare
    refine' Sq.dn_go "_law_put" Sq.s__law_put KX G ?a ?l ?c ?k ?_
    (case a => k_is); (case l => k_is); (case c => k_is); (case k => k_is)
    intro D__law_put
    refine' Sq.dn_go "_law_thing" Sq.s__law_thing KX G ?a ?l ?c ?k ?_
    (case a => k_is); (case l => k_is); (case c => k_is); (case k => k_is)
    intro D__law_thing
    refine' Sq.dn_go "_law_part" Sq.s__law_part KX G ?a ?l ?c ?k ?_
    (case a => k_is); (case l => k_is); (case c => k_is); (case k => k_is)
    intro D__law_part
    refine' Sq.dn_goT "law" Sq.s_law KX G ?a ?l ?c ?k ?lc ?t ?u KO ?rc ?_
    (case a => k_is); (case l => k_is); (case c => k_is); (case k => k_is); (case lc => k_is); (case t => rfl); (case u => decide +kernel); (case rc => decide +kernel)
    intro D_law T_law
    refine' Sq.con_tup "JOINS" Sq.joinsT KX G ?a ?l ?jc ?jd ?jz ?jv ?_
    (case a => k_is); (case l => k_is); (case jc => rfl); (case jd => rfl); (case jz => decide +kernel); (case jv => rfl)
    intro J1 J2
    refine' Sq.con_str "NAMES" Sq.namesT KX G ?a ?ju ?_
    (case a => k_is); (case ju => rfl)
    intro N1 N2
    refine' Sq.con_tup "LETTERS" Sq.LTS KX G ?a ?l ?jc ?jd ?jz ?jv ?_
    (case a => k_is); (case l => k_is); (case jc => rfl); (case jd => rfl); (case jz => decide +kernel); (case jv => rfl)
    intro L1 L2
    refine' Sq.xi_go (P := (PySem.Challenge.rw_sequenthall_k15_terms_without_bound_name).prog) (w := w) (fld := "part") "BadPaper" KX G ?a ?xlC ?xeC ?xf1 ?xlk ?xcd ?xS ?xks ?xcell ?xcode ?xvs ?xfile ?xp ?xar ?xfd ?xfc ?xb ?xhe ?xtp ?xms ?_
    (case a => k_is)
    (case xlC => k_is)
    (case xeC => exact ⟨_, _, _, _, _, _, _, _, _, _, _, _, _, _, _, rfl, by decide +kernel⟩)
    (case xf1 => k_is)
    (case xlk => k_is)
    (case xcd => k_is)
    (case xS => decide +kernel)
    (case xks => rfl)
    (case xcell => k_is)
    (case xcode => k_is)
    (case xvs => rfl)
    (case xfile => decide +kernel)
    (case xp => rfl)
    (case xar => rfl)
    (case xfd => decide)
    (case xfc => decide)
    (case xb => exact fun us hl => match us, hl with | [_, _], _ => rfl)
    (case xhe => exact fun _ => rfl)
    (case xtp => decide +kernel)
    (case xms => k_is)
    intro P1 P2
    have B : Sq.Bl mg := by
      refine' ⟨PySem.W.mg_none_of KX G ?b_len, PySem.W.mg_none_of KX G ?b_abs, PySem.W.mg_none_of KX G ?b_int, PySem.W.mg_none_of KX G ?b_str, PySem.W.mg_none_of KX G ?b_tuple, PySem.W.mg_none_of KX G ?b_list, PySem.W.mg_none_of KX G ?b_dict, PySem.W.mg_none_of KX G ?b_sorted, PySem.W.mg_none_of KX G ?b_sum, PySem.W.mg_none_of KX G ?b_any, PySem.W.mg_none_of KX G ?b_all, PySem.W.mg_none_of KX G ?b_max, PySem.W.mg_none_of KX G ?b_min, PySem.W.mg_none_of KX G ?b_range, PySem.W.mg_none_of KX G ?b_zip, PySem.W.mg_none_of KX G ?b_enumerate, PySem.W.mg_none_of KX G ?b_reversed, PySem.W.mg_none_of KX G ?b_isinstance⟩
      (case b_len => k_is)
      (case b_abs => k_is)
      (case b_int => k_is)
      (case b_str => k_is)
      (case b_tuple => k_is)
      (case b_list => k_is)
      (case b_dict => k_is)
      (case b_sorted => k_is)
      (case b_sum => k_is)
      (case b_any => k_is)
      (case b_all => k_is)
      (case b_max => k_is)
      (case b_min => k_is)
      (case b_range => k_is)
      (case b_zip => k_is)
      (case b_enumerate => k_is)
      (case b_reversed => k_is)
      (case b_isinstance => k_is)
    refine' Sq.law_at KX G hmg B D_names_of D_put D_unified D_laid D_matched D_match_in D_is_closed D_is_pair D_has D_without D_of_bare D_head D_step D_rule D_end D_type_of_letter D_type_of D_guessed D_look_rows D_weight D_with_name D_principal D_mark D_guess D_new_type D__law_dice D__law_roll D__law_rounds D__law_told D__law_bare D__law_put D__law_thing D__law_part D_law T_match_in T_law J1 J2 N1 N2 L1 L2 ⟨PySem.W.mg_of KX G ?a1, ?a2, ?a3, ?a4, ?a5⟩ ?r5 ⟨PySem.W.mg_of KX G ?b1, ?b2, ?b3, ?b4, ?b5⟩ ⟨PySem.W.mg_of KX G ?l1, ?l2, ?l3, ?l4, ?l5⟩ ⟨PySem.W.mg_of KX G ?q1, PySem.W.mg_of KX G ?q2, PySem.W.mg_of KX G ?q3, PySem.W.mg_of KX G ?q4, ?x0, ?x1, ?x2, ?x3, ?x4, ?x5, ?x6, ?x7, ?x8, ?x9⟩ (P2 _ ?p1 ?p2 ?p3 ?p4 ⟨?px1, ?px2, ?px3, ?px4, ?px5, ?px6, ?px7, ?px8, ?px9, ?px10, ?px11⟩) P1 ⟨?y1, ?y2, ?y3, ?y4⟩ ?y5 ?y6 (by decide) (by decide)
    (case a1 => k_is)
    (case a2 => kernel_rfl)
    (case a3 => kernel_rfl)
    (case a4 => kernel_rfl)
    (case a5 => kernel_rfl)
    (case r5 => kernel_rfl)
    (case b1 => k_is)
    (case b2 => kernel_rfl)
    (case b3 => kernel_rfl)
    (case b4 => kernel_rfl)
    (case b5 => kernel_rfl)
    (case l1 => k_is)
    (case l2 => kernel_rfl)
    (case l3 => kernel_rfl)
    (case l4 => kernel_rfl)
    (case l5 => kernel_rfl)
    (case q1 => k_is)
    (case q2 => k_is)
    (case q3 => k_is)
    (case q4 => k_is)
    (case x0 => kernel_rfl)
    (case x1 => kernel_rfl)
    (case x2 => kernel_rfl)
    (case x3 => kernel_rfl)
    (case x4 => kernel_rfl)
    (case x5 => kernel_rfl)
    (case x6 => kernel_rfl)
    (case x7 => kernel_rfl)
    (case x8 => kernel_rfl)
    (case x9 => kernel_rfl)
    (case p1 => decide)
    (case p2 => decide)
    (case p3 => decide)
    (case p4 => decide)
    (case px1 => kernel_rfl)
    (case px2 => kernel_rfl)
    (case px3 => kernel_rfl)
    (case px4 => kernel_rfl)
    (case px5 => kernel_rfl)
    (case px6 => kernel_rfl)
    (case px7 => kernel_rfl)
    (case px8 => kernel_rfl)
    (case px9 => kernel_rfl)
    (case px10 => kernel_rfl)
    (case px11 => kernel_rfl)
    (case y1 => kernel_rfl)
    (case y2 => kernel_rfl)
    (case y3 => kernel_rfl)
    (case y4 => kernel_rfl)
    (case y5 => kernel_rfl)
    (case y6 => kernel_rfl)
