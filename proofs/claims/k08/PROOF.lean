import PyProof.Rows.All
import Wide.All
import OpenK.AllK
import Wide.FinOn
import HandS.ForMost
import HandS.AnyAll
import HandS.GenOver
import HandS.Codes
import HandS.EndTab
import HandS.TupAny
import HandS.Zip
import HandS.DictComp
import HandS.Deep
import HandS.More
import HandS.Walk
import KE.KDictZip
import HandS.GenList
import PyProof.EnumMake
import PyProof.Draws
import PyProof.P3In
import HandS.IsInst
import HandS.FStr
import PyProof.ReprRoads
import HandS.Strs
import HandS.HeadHook3
import KE.KNestM
import HandS.EndOwn
import HandS.ReplaceLit
import HandS.ReplaceList
import HandS.Text
import PyProof.ListStr
import HandS.Dict
import HandS.Style
import PyProof.StrLawsIn
import HandS.WordsExc
import HandS.ExcOwn
import HandS.TryMany
import HandS.Lambda
import HandS.Nested
import HandS.ExcInit
import HandS.ExcField
import KE.KSuper
import KE.KExcSuper
import PySem.Challenge.RW_sequenthall_k08_most_general_types
set_option Elab.async false
set_option linter.all false
set_option maxRecDepth 100000
set_option maxHeartbeats 2000000
/-! Generator expressions with any element (calls, new objects), consumed by all, any, sum. -/
namespace Sq
open PySem PySem.Spec PyProof.Rows L2
open Sem (wp)

theorem ad_no {a b : Nat} (h : a < b) (e : a = b + 1) : False := by omega
theorem ad_lt {a b c d : Nat} (h1 : a < b) (h2 : c = b + 1) (h3 : d = c + 1) : a < d := by omega
theorem ad_ne {a b : Nat} (e : a = b + 1) : a ≠ b := by omega
theorem ad_le {b c d : Nat} (h2 : c = b + 1) (h3 : d = c + 1) : b ≤ d := by omega
theorem ad_lt' {b c d : Nat} (h2 : c = b + 1) (h3 : d = c + 1) : b < d := by omega
theorem ad_ge {a b : Nat} (e : a = b + 1) : b ≤ a := by omega
/-- the frame of a generator expression -/
abbrev gEnv (X : Cx) (scope : Scope) (C : Addr) (code : Value) : Env := genEnv scope (cloFrom X.env.cells scope.names []) C code builtinsNs X.env
/-- the context of a generator expression's turns, made at s -/
abbrev gCx (X : Cx) (s : Shared) (H : Hp) (cenv : Env) (fp : List Addr) : Cx :=
  { X with A := X.A.in1.in1.deeper cenv, s_0 := s, H_0 := H, env := cenv, outer := X.stack, stack := cenv :: X.stack, ex := fp, fn := fun _ => false, pn := [], xe := fun _ _ => False }

section
variable {X : Cx} {pins : List (Addr × Obj)} {σ : L2.St} {H : Hp} {s : Shared}
theorem gen_start {scope : Scope} {own : List (Str × Nat)} {fp : List Addr} {h' : Heap} {g' : Array GenState} {tk : Nat} {code : Value} {m : Str → Option Value} (I : Inv X pins σ H s) (ok : BlkOk X.N X.env.scope scope own) (hcell : ∀ y ∈ scope.names, y.2 ≠ .cell) (hN : X.N.Nodup)
    (hc : X.calm = true) (hfp : ∀ b ∈ fp, FpOk X pins H b ∧ b < s.heap.objs.size) (hns : h'.Ns s.heap.objs.size m) (kp : ∀ b o, s.heap.get? b = some o → h'.get? b = some o) (hg : AllBare g') :
    Inv (gCx X s H (gEnv X scope s.heap.objs.size code) fp) [] (wipe σ (own.map (·.2))) H { s with heap := h', gens := g', toks := tk } := by
  have hfree : ∀ y ∈ scope.names, y.2 = .free → ∃ c, X.env.cells.lookup y.1 = some c := fun y hy e => by
    rcases ok.free y hy e with k | k
    · exact I.ok.has _ (.inl k)
    · exact I.ok.has _ (.inr k)
  have cm : ∀ {y c}, (cloFrom X.env.cells scope.names []).lookup y = some c → X.env.cells.lookup y = some c ∧ c < s.heap.objs.size := fun {y c} e => by
    rcases cloFrom_mem (PySem.mem_of_lookup e) with hm | ⟨h1, h2⟩
    · cases hm
    · obtain ⟨c1, hc⟩ := hfree _ h1 rfl
      have hc : X.env.cells.lookup y = some c1 := hc
      have e2 : c = c1 := by
        rw [h2, hc] <;> rfl
      rw [e2]
      obtain ⟨w, z⟩ := I.cell _ _ hc
      exact ⟨hc, z.lt⟩
  have look : ∀ {y}, scope.names.lookup y = some .free → ∃ c, (cloFrom X.env.cells scope.names []).lookup y = some c := fun {y} hl => by
    have hy : (y, NameKind.free) ∈ scope.names := PySem.mem_of_lookup hl
    exact mem_lookup (cloFrom_has (cells := X.env.cells) (acc := []) hy)
  refine ⟨⟨I.ok.mod, ok.kind, I.ok.glob, rfl, Nat.le_refl _, fun y z c e1 e2 => I.ok.inj y z c (cm e1).1 (cm e2).1, fun y hy => ?_, fun y c z _ => ?_, fun _ => I.ok.hd hc, ?_, .inr ⟨rfl, rfl⟩, fun b hb => ⟨Nat.ne_of_lt (hfp b hb).2, fun y c e => (hfp b hb).1.2.2.2.2.1 y c (cm e).1⟩, I.bs, Nat.le_trans I.ok.bsz I.sz,
      fun b o e hb => ?_, fun b hb z => ?_, I.stack, I.stkFree⟩,
    rfl, hg, Un.kept kp, ⟨_, hns, fun i y v e1 e2 e3 => ?_⟩, fun y c e => ?_, I.hok.fresh (Nat.le_refl _), fun y c e => I.freeC y c (cm e).1, fun q hq => absurd (show q ∈ ([] : List (Addr × Obj)) ++ [] from hq) (by simp), I.hok.kept kp, by rw [wipe_length]; exact I.len⟩
  · have hy : scope.names.lookup y = some .cell ∨ scope.names.lookup y = some .free := hy
    rcases hy with hy | hy
    · exact absurd rfl (hcell _ (PySem.mem_of_lookup hy))
    · exact look hy
  · have z : false = true := z
    cases z
  · exact Around.frames_deeper (A := X.A.in1.in1) I.ok.frames
  · rcases (hfp b hb).1.2.2.2.1 with z | z
    · exact I.ok.noex b o e z
    · exact absurd (Nat.lt_of_lt_of_le (Heap.lt_size e) (Nat.le_trans I.ok.bsz z)) (Nat.lt_irrefl _)
  · rcases List.mem_cons.mp (I.stkSub b z) with z | z
    · exact (hfp b hb).1.2.1 z
    · exact (hfp b hb).1.2.2.1 z
  · obtain ⟨e2, hne⟩ := wipe_some e2
    have e3 : Vis scope y := e3
    have hfr : scope.names.lookup y = some .free := by
      rcases e3 with k | k | k
      · rcases ok.own _ (PySem.mem_of_lookup k) (.inl rfl) with e' | e'
        · obtain ⟨p, hp, hpy⟩ := List.mem_map.mp e'
          have e3 := ok.ix p hp
          have : p.1 = y := hpy
          rw [this] at e3
          exact absurd (List.mem_map.mpr ⟨p, hp, nodup_ix hN e3 e1⟩) hne
        · exact absurd (List.mem_of_getElem? e1) e'
      · exact absurd rfl (hcell _ (PySem.mem_of_lookup k))
      · exact k
    obtain ⟨m, hn, hl⟩ := I.loc
    have hvis : Vis X.env.scope y := (ok.free _ (PySem.mem_of_lookup hfr) rfl).elim (fun k => .inr (.inl k)) (fun k => .inr (.inr k))
    obtain ⟨w, r, q⟩ := hl i y v e1 e2 hvis
    obtain ⟨c, h1⟩ := look hfr
    refine ⟨w, r, .inr ⟨.inr hfr, c, h1, ?_⟩⟩
    have h2 := (cm h1).1
    rcases q with ⟨k, _⟩ | ⟨_, c', e', z⟩
    · have k : X.env.scope.names.lookup y = some .local := k
      rcases ok.free _ (PySem.mem_of_lookup hfr) rfl with k' | k' <;> rw [show X.env.scope.names.lookup y = _ from k'] at k <;> cases k
    · rw [h2] at e'; cases e'
      exact z.keeps kp
  · obtain ⟨w, z⟩ := I.cell y c (cm e).1
    exact ⟨w, z.keeps kp⟩
end

/-! ### a generator's turns -/
section
variable {τ : Type}
/-- what the turns are told: W by the turn, a measure, the consumer's word; N what a turn is to reach; Cons: what the consumer makes of a value; Fin: behind the last -/
def GW (J : It) (g : TG) (tt : TT) (te : TE) (vs : List Nat) (σ : L2.St) (W : Nat → Nat → τ → Hp → Prop) (Cons : τ → V → Hp → (τ → Hp → Prop) → Prop) (Fin : τ → Hp → Prop) : Prop :=
  ∀ i m t H, W i m t H → (J.stop i H ∧ Fin t H) ∨ (J.go i H ∧ ∃ N : τ → Hp → Prop, (∀ t' H', N t' H' → ∃ m', m' < m ∧ W (i + 1) m' t' H') ∧ ∀ x H', J.yld i H x H' → g x (wipe σ vs) H' fun σ2 H2 =>
    wipe σ2 vs = wipe σ vs ∧ tt σ2 H2 fun b H3 => if b = true then te σ2 H3 fun y H4 => Cons t y H4 N else N t H3)
/-- the objects at S stand, pinned -/
def PinS (S : List Addr) (h : Heap) (pl : List (Addr × Obj)) : Prop := ∀ b ∈ S, ∃ o, h.get? b = some o ∧ (b, o) ∈ pl
/-- woken again: what the generator leans on stands -/
def Wake (X : Cx) (S fp : List Addr) (σw : L2.St) (H : Hp) (s s' : Shared) : Prop := (∃ pl, Inv X pl σw H s' ∧ PinS S s'.heap pl) ∧ ∀ b ∈ fp, ∀ o, s.heap.get? b = some o → s'.heap.get? b = some o
def gY (X : Cx) (S fp : List Addr) (TQ : τ → Shared → Prop) (σw : L2.St) (Cons : τ → V → Hp → (τ → Hp → Prop) → Prop) : Protocol := fun n s₀ v s kap =>
  ∃ (t : τ) (N : τ → Hp → Prop) (x : V) (H : Hp), RelV x v ∧ TQ t s₀ ∧ Cons t x H N ∧ (∃ pl, Inv X pl σw H s ∧ PinS S s₀.heap pl) ∧ ∀ t' s'', Wake X S fp σw H s s'' → TQ t' s'' → N t' H → kap (.send .none) s''
def gR (X : Cx) (S : List Addr) (TQ : τ → Shared → Prop) (σw : L2.St) (Fin : τ → Hp → Prop) : GenEnd := fun n s₀ r s => r = .ok .next ∧ ∃ (t : τ) (H : Hp), TQ t s₀ ∧ Fin t H ∧ ∃ pl, Inv X pl σw H s ∧ PinS S s₀.heap pl

theorem over_gen {A : Around} {elt tg iter : Expr} {ifs : List Expr} {scope : Scope} {pos : Pos} {it acc : Value} {env : Env} : A.over (.compLoop (.GeneratorExp elt [⟨tg, iter, ifs, 0⟩] scope pos) 0 it acc env) [] = A.deeper env := by
  first
    | rfl
    | (obtain ⟨hd, d, fr, gs, u⟩ := A; simp [Around.over, Around.deeper, marksOver, frameCount, unitsOf, envsOf, guardsOf, pushEnvs, pushGuards, Code.envs, Code.env?, Code.isFrame, Code.guards, Code.isGuard, Code.weight, Code.frames, Code.isCreation, Code.isCaller, Code.cUnits])
theorem over_genS {A : Around} {elt tg iter : Expr} {ifs : List Expr} {scope : Scope} {pos : Pos} {it acc : Value} {env : Env} : A.over (.compStart (.GeneratorExp elt [⟨tg, iter, ifs, 0⟩] scope pos) 0 it acc env) [] = A.deeper env := by
  first
    | rfl
    | (obtain ⟨hd, d, fr, gs, u⟩ := A; simp [Around.over, Around.deeper, marksOver, frameCount, unitsOf, envsOf, guardsOf, pushEnvs, pushGuards, Code.envs, Code.env?, Code.isFrame, Code.guards, Code.isGuard, Code.weight, Code.frames, Code.isCreation, Code.isCaller, Code.cUnits])

theorem seg_gloop {X : Cx} {A : Around} {elt tg iter : Expr} {ifs : List Expr} {scope : Scope} {pos : Pos} {g : TG} {tt : TT} {te : TE} {vs : List Nat} {σ : L2.St} {J : It} {fp S : List Addr} {it : Addr} {tn : Nat → Heap → Prop} {TQ : τ → Shared → Prop}
    {W : Nat → Nat → τ → Hp → Prop} {Cons : τ → V → Hp → (τ → Hp → Prop) → Prop} {Fin : τ → Hp → Prop}
    (hA : A.deeper X.env = X.A) (hc : X.calm = true) (hco : X.env.scope.isCoroutine = false) (hpn : X.pn = []) (hxe : X.xe = fun _ _ => False) (hex : X.ex = fp) (T : Turn X.prog X.w X.K tg J fp it tn) (pg : PG X tg g) (pt : PTs X ifs tt) (pe : PE X elt te)
    (turn : GW J g tt te vs σ W Cons Fin) (hSf : ∀ b ∈ S, b ∉ fp) :
    ∀ (m n i : Nat) (t : τ) (pl : List (Addr × Obj)) (H : Hp) (s₀ s : Shared), m < n → W i m t H → Inv X pl (wipe σ vs) H s → tn i s.heap → (∀ b ∈ fp, H b = none) → PinS S s₀.heap pl → (∀ p ∈ pl, p.1 ∉ fp) → TQ t s₀ →
      Seg (model X.prog X.w) A (gR X S TQ (wipe σ vs) Fin) (gY X S fp TQ (wipe σ vs) Cons) n s₀
        (.compLoop (.GeneratorExp elt [⟨tg, iter, ifs, 0⟩] scope pos) 0 (.ref it) .none X.env)
        ((model X.prog X.w).den (.compLoop (.GeneratorExp elt [⟨tg, iter, ifs, 0⟩] scope pos) 0 (.ref it) .none X.env)) [] s := by
  intro m
  induction m using Nat.strongRecOn with
  | ind m ih =>
    intro n i t pl H s₀ s hmn w I st nfp hS hpl tq
    have stat : ∀ {σ' : L2.St} {H' : Hp} {s' : Shared}, Inv X pl σ' H' s' → (∀ b ∈ fp, H' b = none) → ∀ b ∈ fp, FpOk X pl H' b := fun {σ' H' s'} I' hn b hb =>
      ⟨hn b hb, (I'.ok.exf b (by rw [hex]; exact hb)).1, I'.ok.exfs b (by rw [hex]; exact hb), .inl (by rw [hex]; exact hb), fun x c e => (I'.ok.exf b (by rw [hex]; exact hb)).2 x c e, fun p hp => fun e => hpl p (by rw [hpn] at hp; simpa using hp) (by rw [e]; exact hb)⟩
    show Seg _ A _ _ _ s₀ _ ((compTurn (.GeneratorExp elt [⟨tg, iter, ifs, 0⟩] scope pos) 0 (.ref it) .none X.env).onRaise (leaving X.env)) [] s
    rw [compTurn_gen, Sem.onRaise_eq_wrap]
    refine seg_bind_wrap (wpAny_standAt ?_)
    rcases turn i m t H w with ⟨stop, fin⟩ | ⟨go, N, hN, step⟩
    · refine seg_bind_wrap ?_
      rw [over_gen, hA]
      refine thnF (T.done X rfl rfl rfl hc i pl s _ H (fun _ _ => False) I (stat I nfp) st stop) fun r s1 ⟨hr, I1⟩ => ?_
      subst hr
      exact seg_end (.ok .next) ⟨rfl, t, H, tq, fin, pl, I1, hS⟩
    · refine seg_bind_wrap ?_
      rw [over_gen, hA]
      refine thnF (T.item X rfl rfl rfl hc i pl s _ H (fun _ _ => False) I (stat I nfp) st go) fun r s6 ⟨u, hr, h6⟩ => ?_
      subst hr
      refine seg_bind_wrap ?_
      rw [over_gen, hA]
      refine thnF h6 fun _ s7 ⟨x, H7, I7, r7, y7, st7, n7⟩ => ?_
      have I7' := I7.pinned (stat I7 n7) (T.obj _ _ st7)
      have E0 : ∀ {α : Type} {t : Sem α} {Q Q' : α → Shared → Prop} {E : Value → Shared → Prop} {s : Shared}, wpAny (model X.prog X.w) X.A t Q X.xe s → (∀ a s, Q a s → Q' a s) → wpAny (model X.prog X.w) X.A t Q' E s := fun {α t Q Q' E s} h hQ => by
        rw [hxe] at h
        exact thnF h hQ
      refine seg_bind_wrap ?_
      rw [over_gen, hA]
      refine E0 (pg.run _ s7 _ H7 x u _ I7' r7 (step x H7 y7)) fun _ s8 ⟨σ8, H8, I8, hw8, q8⟩ => ?_
      refine seg_bind_wrap ?_
      rw [over_gen, hA]
      refine E0 (pt.run _ s8 σ8 H8 _ I8 q8) fun b s9 ⟨H9, I9, q9⟩ => ?_
      -- the turn's end
      have fin : ∀ {s' : Shared} {H' : Hp}, Inv X (pl ++ pinsAt fp s7.heap) σ8 H' s' → Inv X pl (wipe σ vs) H' s' ∧ tn (i + 1) s'.heap ∧ (∀ b ∈ fp, H' b = none) := fun {s' H'} I' => by
        have pin' : ∀ b ∈ fp, ∀ o, s7.heap.get? b = some o → s'.heap.get? b = some o ∧ H' b = none := fun b hb o e =>
          let z := I'.pin (b, o) (List.mem_append_right _ (List.mem_append_right _ (mem_pinsAt hb e)))
          ⟨z.1, z.2.1⟩
        have hl : (wipe σ vs).length = σ8.length := by rw [← hw8, wipe_length]
        refine ⟨I'.unpinned.weak hl (fun j v e => ?_), T.keep _ _ _ st7 fun b hb o e => (pin' b hb o e).1, fun b hb => ?_⟩
        · rw [← hw8] at e
          exact (wipe_some e).1
        · obtain ⟨o, e, _⟩ := T.obj _ _ st7 b hb
          exact (pin' b hb o e).2
      cases b with
      | false =>
        simp only [Bool.false_eq_true, if_false] at q9 ⊢
        obtain ⟨m', hm', w'⟩ := hN _ _ q9
        obtain ⟨J1, J2, J3⟩ := fin I9
        exact seg_again rfl (ih m' hm' n (i + 1) t pl H9 s₀ s9 (Nat.lt_trans hm' hmn) w' J1 J2 J3 hS hpl tq)
      | true =>
        simp only [if_true] at q9 ⊢
        have hy : ∀ v, yieldOut X.env v = yieldValue v := fun v => by simp only [yieldOut, hco, Bool.false_eq_true, if_false]
        simp only [hy]
        rw [Sem.bind_eq_wrap', Sem.bind_eq_wrap', Sem.wrap_wrap, Sem.wrap_wrap]
        refine seg_wrap ?_
        rw [over_gen, hA]
        refine E0 (pe.run _ s9 σ8 H9 _ I9 q9) fun z s10 ⟨yv, H10, I10, r10, cs⟩ => ?_
        obtain ⟨J1, J2, J3⟩ := fin I10
        cases n with
        | zero => exact absurd hmn (Nat.not_lt_zero _)
        | succ k =>
          refine seg_at (seg_yield rfl rfl rfl ⟨t, N, yv, H10, r10, tq, cs, ⟨pl, J1, hS⟩, fun t' s'' wk tq' nx => ?_⟩)
          obtain ⟨⟨pl', I'', hS'⟩, hk⟩ := wk
          obtain ⟨m', hm', w'⟩ := hN _ _ nx
          have hpl' : PinS S s''.heap (S.filterMap fun b => (s''.heap.get? b).map fun o => (b, o)) := fun b hb => by
            obtain ⟨o, e, _⟩ := hS' b hb
            exact ⟨o, e, List.mem_filterMap.mpr ⟨b, hb, by rw [e]; rfl⟩⟩
          have I3 : Inv X (S.filterMap fun b => (s''.heap.get? b).map fun o => (b, o)) (wipe σ vs) H10 s'' := I''.pins_of fun p hp => by
            obtain ⟨b, hb, e⟩ := List.mem_filterMap.mp hp
            obtain ⟨o, e1, hm⟩ := hS' b hb
            rw [e1] at e
            have e' : (b, o) = p := Option.some.inj e
            rw [← e']
            exact I''.pin _ (List.mem_append_right _ hm)
          refine seg_again rfl (ih m' hm' k (i + 1) t' _ H10 s'' s'' (by omega) w' I3 (T.keep _ _ _ J2 fun b hb o e => hk b hb o e) J3 hpl' (fun p hp => ?_) tq')
          obtain ⟨b, hb, e⟩ := List.mem_filterMap.mp hp
          cases e1 : s''.heap.get? b with
          | none => rw [e1] at e; cases e
          | some o =>
            rw [e1] at e
            have e' : (b, o) = p := Option.some.inj e
            rw [← e']
            exact hSf b hb

theorem seg_gstart {X : Cx} {A : Around} {elt tg iter : Expr} {ifs : List Expr} {scope : Scope} {pos : Pos} {J : It} {fp : List Addr} {it : Addr} {tn : Nat → Heap → Prop} {R : GenEnd} {Y : Protocol} {n : Nat} {s₀ s : Shared}
    (T : Turn X.prog X.w X.K tg J fp it tn) (st : tn 0 s.heap)
    (loop : Seg (model X.prog X.w) A R Y n s₀ (.compLoop (.GeneratorExp elt [⟨tg, iter, ifs, 0⟩] scope pos) 0 (.ref it) .none X.env)
        ((model X.prog X.w).den (.compLoop (.GeneratorExp elt [⟨tg, iter, ifs, 0⟩] scope pos) 0 (.ref it) .none X.env)) [] s) :
    Seg (model X.prog X.w) A R Y n s₀ (.compStart (.GeneratorExp elt [⟨tg, iter, ifs, 0⟩] scope pos) 0 (.ref it) .none X.env)
      ((model X.prog X.w).den (.compStart (.GeneratorExp elt [⟨tg, iter, ifs, 0⟩] scope pos) 0 (.ref it) .none X.env)) [] s := by
  show Seg _ A _ _ _ s₀ _ ((compStart (.GeneratorExp elt [⟨tg, iter, ifs, 0⟩] scope pos) 0 (.ref it) .none X.env).onRaise (leaving X.env)) [] s
  unfold compStart
  rw [Sem.onRaise_eq_wrap]
  show Seg _ A _ _ _ s₀ _ ((ask >>= _).wrap _ _ _ _) [] s
  refine seg_bind_wrap (wpAny_askSetting ?_)
  split
  · exact seg_again rfl loop
  · first
      | exact seg_bind_wrap (wpAny_rule (seg_bind_wrap (wpAny_standAt (seg_bind_wrap (T.self _ 0 s _ _ st (seg_again rfl loop))))))
      | (refine seg_bind_wrap (wpAny_rule ?_); show Seg _ A _ _ _ s₀ _ ((standAt iter.pos >>= _).wrap _ _ _ _) [] s; exact seg_bind_wrap (wpAny_standAt (seg_bind_wrap (T.self _ 0 s _ _ st (seg_again rfl loop)))))
end

theorem inv_gens {X : Cx} {pl : List (Addr × Obj)} {σ : L2.St} {H : Hp} {s : Shared} {g' : Array GenState} (I : Inv X pl σ H s) (hg : AllBare g') : Inv X pl σ H { s with gens := g' } :=
  ⟨I.ok, I.os, hg, I.base, I.loc, I.cell, I.free, I.freeC, I.pin, I.hok, I.len⟩
theorem inv_setGen {X : Cx} {pl : List (Addr × Obj)} {σ : L2.St} {H : Hp} {s : Shared} {g : Nat} {x : GenState} (I : Inv X pl σ H s) (hx : x.bare = true) : Inv X pl σ H (s.setGen g x) := by
  refine inv_gens I fun y hy => ?_
  rcases Array.mem_or_eq_of_mem_setIfInBounds hy with h | h
  · exact I.bare y h
  · rw [h]; exact hx

section
variable {τ : Type}
/-- the generator number gn at a, made in X, walks in X' -/
structure GenOn (X X' : Cx) (pins : List (Addr × Obj)) (σ σw : L2.St) (fp : List Addr) (a : Addr) (gn n : Nat) (t0 : τ) (Cons : τ → V → Hp → (τ → Hp → Prop) → Prop) (Fin : τ → Hp → Prop) (H2 : Hp) (s5 : Shared) : Prop where
  gen : s5.heap.IsGen a gn
  inv : ∃ o, s5.heap.get? a = some o ∧ Inv X' [(a, o)] σw H2 s5
  back : ∀ (pl : List (Addr × Obj)) (σ' : L2.St) (H' : Hp) (s' : Shared), Inv X' pl σ' H' s' → Inv X pins σ H' s'
  afp : a ∉ fp
  fpl : ∀ b ∈ fp, b < s5.heap.objs.size
  ex : X'.ex = fp
  pn : X'.pn = []
  sz : X'.s_0.heap.objs.size ≤ s5.heap.objs.size
  cells : ∀ x c, X'.env.cells.lookup x = some c → c < s5.heap.objs.size
  loc : X'.env.locals < s5.heap.objs.size
  fs : ∀ b ∈ X'.fs, b < s5.heap.objs.size
  gens : gn < s5.gens.size
  goes : ∃ gs, s5.gens[gn]? = some gs ∧ ∀ (S : List Addr) (TQ : τ → Shared → Prop), (∀ b ∈ S, b ∉ fp) → ∀ s'' : Shared, Wake X' S fp σw H2 s5 s'' → TQ t0 s'' →
    gs.Goes (model X.prog X.w) X.A.in1.in1 (gR X' S TQ σw Fin) (gY X' S fp TQ σw Cons) n (.send .none) s''

theorem gen_make {X : Cx} {pins : List (Addr × Obj)} {σ : L2.St} {H : Hp} {s : Shared} {c P : Addr} {elt tg iter : Expr} {ifs : List Expr} {gpos : Pos} {scope : Scope} {own : List (Str × Nat)} {wi : TI} {g : TG} {tt : TT} {te : TE} {k : Nat} {Q' : Value → Shared → Prop} {R : Hp → Prop}
    {t0 : τ} {Cons : τ → V → Hp → (τ → Hp → Prop) → Prop} {Fin : τ → Hp → Prop}
    (hr : Room k X.A) (hc : X.calm = true) (hN : X.N.Nodup) (TB : GxR.TabB X.base X.mg c P) (hcode : X.env.code = .ref c) (hi : PI X tg iter wi) (ok : BlkOk X.N X.env.scope scope own) (hcell : ∀ y ∈ scope.names, y.2 ≠ .cell) (hco : scope.isCoroutine = false) (hdot : scope.names.lookup (".0" : Str) = some NameKind.local)
    (hg : ∀ (s : Shared) (H : Hp) (C : Addr) (code : Value) (fp : List Addr), PG (gCx X s H (gEnv X scope C code) fp) tg g) (ht : ∀ (s : Shared) (H : Hp) (C : Addr) (code : Value) (fp : List Addr), PTs (gCx X s H (gEnv X scope C code) fp) ifs tt)
    (he : ∀ (s : Shared) (H : Hp) (C : Addr) (code : Value) (fp : List Addr), PE (gCx X s H (gEnv X scope C code) fp) elt te)
    (hs : ∀ v, genFold iter X.env v = pure v) (I : Inv X pins σ H s)
    (h : wi σ H fun J H1 => GxR.TabG H1 P ∧ ∀ H2, GxR.Tabbed P H1 H2 → ∃ W : Nat → Nat → τ → Hp → Prop, (∃ m, W 0 m t0 H2) ∧ GW J g tt te (own.map (·.2)) σ W Cons Fin)
    (hQ : ∀ (X' : Cx) (fp : List Addr) (a : Addr) (gn n : Nat) (H2 : Hp) (s5 : Shared), GenOn X X' pins σ (wipe σ (own.map (·.2))) fp a gn n t0 Cons Fin H2 s5 → X'.prog = X.prog → X'.w = X.w → Q' (.ref a) s5) :
    wpAny (model X.prog X.w) X.A (eval (.GeneratorExp elt [⟨tg, iter, ifs, 0⟩] scope gpos) X.env) Q' X.xe s := by
  have hfree : ∀ y ∈ scope.names, y.2 = .free → ∃ c, X.env.cells.lookup y.1 = some c := fun y hy e => by
    rcases ok.free y hy e with k | k
    · exact I.ok.has _ (.inl k)
    · exact I.ok.has _ (.inr k)
  refine wpAny_GeneratorExp_make hco (closure_ok hfree) hcell hdot ok.kind (by have := hr.dp; omega) ?_ hs
  refine thn (hi.run pins s σ H _ I h) fun xv s1 hx => thn hx fun itv s2 h2 => ?_
  obtain ⟨it, fp, tn, J, H1, e, I2, T, st2, f2, ⟨ps, hP, ht3⟩, q⟩ := h2
  subst e
  refine ⟨I2.nolimit, ?_⟩
  have hPs : s2.heap.get? P = some { cls := .none, data := .fields ps } := I2.hok P _ hP
  have cd : PySem.W.CodeHd s2.heap c P := TB.code.keeps fun b u e => I2.bk b u e
  have cont : ∀ (code : Value) (h3 : Heap) (tk : Nat) (more : Array Value), Heap.ExtBut P s2.heap h3 → s2.heap.objs.size ≤ h3.objs.size → h3.get? P = some { cls := .none, data := .fields (ps ++ more) } → TriplesOk (ps ++ more).toList →
      wpAny (model X.prog X.w) X.A (builtinsFor X.env.globals X.env.builtins) (fun bi s₄ =>
        ∀ h', h'.Ns s₄.heap.objs.size (fun y => if y = ".0" then some (.ref it) else none) → Heap.SameBut s₄.heap.objs.size (s₄.heap.push { cls := .type "frame", data := .dict #[] }) h' →
          Q' (.ref h'.objs.size) { s₄ with
            gens := s₄.gens.push (.fresh (.compStart (.GeneratorExp elt [⟨tg, iter, ifs, 0⟩] scope gpos) 0 (.ref it) .none (genEnv scope (cloFrom X.env.cells scope.names []) s₄.heap.objs.size code bi X.env))),
            toks := s₄.toks + 1 + 1 + 1,
            heap := h'.push { cls := .type "generator", data := .fields #[.int s₄.gens.size 0, .str "<genexpr>" (s₄.toks + 1), .str (X.env.qual ++ "<genexpr>") (s₄.toks + 1 + 1)] } }) X.xe { s2 with heap := h3, toks := tk } := by
    intro code h3 tk more hx hsz hP3 ht4
    obtain ⟨bm, ob, e1, e2, e3, e4, e5, e6, e7, e8⟩ := TB.bm
    have keep3 : ∀ b u, b ≠ P → s2.heap.get? b = some u → h3.get? b = some u := fun b u hb e => hx b u hb e
    refine wpAny_builtinsFor (m := X.mg) (by rw [I2.ok.glob]; exact (I2.mod.glob.keeps I2.bk).extBut hx TB.gP) e1 e2 (keep3 _ _ e4 (I2.bk _ _ e5)) e6 e7 e8 ?_
    intro h' hn' hs'
    have I4 : Inv X pins σ (upd H1 P (.tbl (ps ++ more))) { s2 with heap := h3, toks := tk } := GxR.inv_tab (more := more) (h' := h3) (g' := s2.gens) (d' := s2.drawn) (t' := tk) I2 hP keep3 hP3 I2.bare
    have hTb : GxR.Tabbed P H1 (upd H1 P (.tbl (ps ++ more))) := ⟨⟨ps ++ more, upd_same, ht4⟩, fun b hb => upd_ne hb⟩
    obtain ⟨W, ⟨m0, w0⟩, gw⟩ := q _ hTb
    generalize hH2 : upd H1 P (.tbl (ps ++ more)) = H2 at I4 w0
    generalize hs4 : ({ s2 with heap := h3, toks := tk } : Shared) = s4 at I4 hn' hs' ⊢
    have hh4 : s4.heap = h3 := by rw [← hs4]
    have hsz' : h'.objs.size = s4.heap.objs.size + 1 := by rw [hs'.1, Heap.size_push]
    have keep' : ∀ b o, s4.heap.get? b = some o → h'.get? b = some o := fun b o e => hs'.extBut b o (Nat.ne_of_lt (Heap.lt_size e)) (Heap.get?_push_of_some _ e)
    have fpP : ∀ b ∈ fp, b ≠ P := fun b hb z => by
      have := (f2 b hb).1
      rw [z, hP] at this
      cases this
    have f4 : ∀ b ∈ fp, FpOk X pins H2 b ∧ b < s4.heap.objs.size := fun b hb => by
      obtain ⟨o, e, _⟩ := T.obj _ _ st2 b hb
      refine ⟨⟨?_, (f2 b hb).2⟩, ?_⟩
      · rw [← hH2, upd_ne (fpP b hb)]
        exact (f2 b hb).1
      · rw [hh4]
        exact Heap.lt_size (keep3 b o (fpP b hb) e)
    have st4 : tn 0 s4.heap := T.keep _ _ _ st2 fun b hb o e => by rw [hh4]; exact keep3 b o (fpP b hb) e
    generalize hh5 : h'.push { cls := .type "generator", data := .fields #[.int s4.gens.size 0, .str "<genexpr>" (s4.toks + 1), .str (X.env.qual ++ "<genexpr>") (s4.toks + 1 + 1)] } = h5
    have hget : h5.get? h'.objs.size = some { cls := .type "generator", data := .fields #[.int s4.gens.size 0, .str "<genexpr>" (s4.toks + 1), .str (X.env.qual ++ "<genexpr>") (s4.toks + 1 + 1)] } := by
      rw [← hh5]; exact Heap.get?_push_size _ rfl
    have h5sz : h5.objs.size = h'.objs.size + 1 := by rw [← hh5, Heap.size_push]
    have keep5 : ∀ b o, h'.get? b = some o → h5.get? b = some o := fun b o e => by rw [← hh5]; exact Heap.get?_push_of_some _ e
    have hns5 : h5.Ns s4.heap.objs.size (fun y => if y = ".0" then some (.ref it) else none) := by rw [← hh5]; exact hn'.push _
    have bare5 : AllBare (s4.gens.push (.fresh (.compStart (.GeneratorExp elt [⟨tg, iter, ifs, 0⟩] scope gpos) 0 (.ref it) .none (genEnv scope (cloFrom X.env.cells scope.names []) s4.heap.objs.size code builtinsNs X.env)))) := I4.bare.push rfl
    have I5 := gen_start (h' := h5) (g' := s4.gens.push (.fresh (.compStart (.GeneratorExp elt [⟨tg, iter, ifs, 0⟩] scope gpos) 0 (.ref it) .none (genEnv scope (cloFrom X.env.cells scope.names []) s4.heap.objs.size code builtinsNs X.env)))) (tk := s4.toks + 1 + 1 + 1) (code := code) I4 ok hcell hN hc f4 hns5 (fun b o e => keep5 b o (keep' b o e)) bare5
    refine hQ (gCx X s4 H2 (gEnv X scope s4.heap.objs.size code) fp) fp h'.objs.size s4.gens.size (m0 + 1) H2 _ ?_ rfl rfl
    have afp : h'.objs.size ∉ fp := fun hm => by
      exact ad_no (f4 _ hm).2 hsz'
    have cm : ∀ {y c}, (cloFrom X.env.cells scope.names []).lookup y = some c → c < s4.heap.objs.size := fun {y c} e => by
      rcases cloFrom_mem (PySem.mem_of_lookup e) with hm | ⟨h1, h2⟩
      · cases hm
      · obtain ⟨c1, hc1⟩ := hfree _ h1 rfl
        have hc1 : X.env.cells.lookup y = some c1 := hc1
        have e2 : c = c1 := by
          rw [h2, hc1] <;> rfl
        rw [e2]
        obtain ⟨w, z⟩ := I4.cell _ _ hc1
        exact z.lt
    have fsl : ∀ b ∈ frs X.stack, b < s4.heap.objs.size := fun b hb => by
      rcases List.mem_cons.mp (I4.stkSub b hb) with z | z
      · rw [z]; exact I4.lt
      · rcases Nat.lt_or_ge b s4.heap.objs.size with y | y
        · exact y
        · exact absurd z (I4.nofs y)
    refine ⟨⟨_, _, _, hget, rfl, rfl, rfl⟩, ⟨_, hget, I5.pins_of fun p hp => ?_⟩, fun pl σ' H' s' I' => ?_, afp, fun b hb => ?_, rfl, rfl, ?_, fun x c e => ?_, ?_, fun b hb => ?_, ?_, ⟨_, Array.getElem?_push_size .., fun S TQ hSf s'' wk tq => ⟨rfl, ?_⟩⟩⟩
    · have hp' : p = (h'.objs.size, ({ cls := .type "generator", data := .fields #[.int s4.gens.size 0, .str "<genexpr>" (s4.toks + 1), .str (X.env.qual ++ "<genexpr>") (s4.toks + 1 + 1)] } : Obj)) := List.mem_singleton.mp hp
      subst hp'
      refine ⟨hget, I4.hok.fresh (ad_ge hsz'), ?_, fun z => ?_, fun v q => by cases q⟩
      · show h'.objs.size ≠ s4.heap.objs.size
        exact ad_ne hsz'
      · exact ad_no (fsl _ z) hsz'
    · refine I4.call' (ch := fp) I'.os I'.base I'.hok I'.bare fun b hb => ⟨(f4 b hb).1.2.2.2.1, (f4 b hb).1.2.1, (f4 b hb).1.2.2.2.2.1, (f4 b hb).1.2.2.2.2.2⟩
    · exact ad_lt (f4 b hb).2 hsz' h5sz
    · exact ad_le hsz' h5sz
    · exact ad_lt (cm e) hsz' h5sz
    · exact ad_lt' hsz' h5sz
    · exact ad_lt (fsl b hb) hsz' h5sz
    · show s4.gens.size < (s4.gens.push _).size
      rw [Array.size_push]; omega
    · obtain ⟨⟨pl, I6, hS⟩, hk⟩ := wk
      have hpl' : PinS S s''.heap (S.filterMap fun b => (s''.heap.get? b).map fun o => (b, o)) := fun b hb => by
        obtain ⟨o, e, _⟩ := hS b hb
        exact ⟨o, e, List.mem_filterMap.mpr ⟨b, hb, by rw [e]; rfl⟩⟩
      have I7 : Inv (gCx X s4 H2 (gEnv X scope s4.heap.objs.size code) fp) (S.filterMap fun b => (s''.heap.get? b).map fun o => (b, o)) (wipe σ (own.map (·.2))) H2 s'' := I6.pins_of fun p hp => by
        obtain ⟨b, hb, e⟩ := List.mem_filterMap.mp hp
        obtain ⟨o, e1, hm⟩ := hS b hb
        rw [e1] at e
        have e' : (b, o) = p := Option.some.inj e
        rw [← e']
        exact I6.pin _ (List.mem_append_right _ hm)
      have st7 : tn 0 s''.heap := T.keep _ _ _ st4 fun b hb o e => hk b hb o (keep5 b o (keep' b o e))
      refine seg_gstart (X := gCx X s4 H2 (gEnv X scope s4.heap.objs.size code) fp) T st7 (seg_gloop (X := gCx X s4 H2 (gEnv X scope s4.heap.objs.size code) fp) rfl hc hco rfl rfl rfl T (hg _ _ _ _ _) (ht _ _ _ _ _) (he _ _ _ _ _) gw hSf m0 (m0 + 1) 0 t0 _ H2 s'' s'' (Nat.lt_succ_self _) w0 I7 st7 (fun b hb => (f4 b hb).1.1) hpl' (fun p hp => ?_) tq)
      obtain ⟨b, hb, e⟩ := List.mem_filterMap.mp hp
      cases e1 : s''.heap.get? b with
      | none => rw [e1] at e; cases e
      | some o =>
        rw [e1] at e
        have e' : (b, o) = p := Option.some.inj e
        rw [← e']
        exact hSf b hb
  cases hf : codeAmong gpos ps.toList with
  | none =>
    refine wpAny_genexprCodeX hcode (cd.code hPs ht3) (cd.tab hPs) hf fun c' h' tk hx hge hlt hco' _ htab' _ => ?_
    obtain ⟨o1, vs, f1, tf, fl, tg', inF, tx, tt', op, _, _, _, _, _, _, _, _, _, htr, _⟩ := hco'
    exact cont _ h' tk _ hx (Nat.le_trans hge (Nat.le_of_lt hlt)) htab'.2 htr
  | some cv =>
    refine wpAny_genexprCode_hit hcode (cd.code hPs ht3) hf ?_
    have e0 : ps ++ #[] = ps := by simp
    exact cont cv s2.heap s2.toks #[] (Heap.ExtBut.refl _ _) (Nat.le_refl _) (by rw [e0]; exact hPs) (by rw [e0]; exact ht3)
end

/-! ### the consumers -/
section
variable {X X' : Cx} {pins : List (Addr × Obj)} {σ σw : L2.St} {fp : List Addr} {a : Addr} {gn : Nat}
/-- all, any: between two turns -/
def TruSt (X X' : Cx) (σw : L2.St) (fp : List Addr) (a : Addr) (gn n : Nat) (Cons : Unit → V → Hp → (Unit → Hp → Prop) → Prop) (Fin : Unit → Hp → Prop) (s : Shared) : Prop :=
  s.heap.IsGen a gn ∧ s.heap.NoLimit ∧ gn < s.gens.size ∧ ∃ gs, s.gens[gn]? = some gs ∧ gs.Goes (model X.prog X.w) X.A.in1.in1 (gR X' [a] (fun _ _ => True) σw Fin) (gY X' [a] fp (fun _ _ => True) σw Cons) n (.send .none) (s.setGen gn .running)
theorem gen_pin {s : Shared} {h : Heap} {pl : List (Addr × Obj)} {S : List Addr} {σ' : L2.St} {H : Hp} {s0 : Shared} (hb : a ∈ S) (hg : h.IsGen a gn) (hS : PinS S h pl) (I : Inv X' pl σ' H s0) : s0.heap.IsGen a gn := by
  obtain ⟨o, e, hm⟩ := hS a hb
  obtain ⟨o', nm, qn, e', r⟩ := hg
  rw [e] at e'
  cases e'
  exact ⟨o, nm, qn, (I.pin _ (List.mem_append_right _ hm)).1, r⟩
theorem setGen_at {s : Shared} {g : Nat} {x : GenState} (h : g < s.gens.size) : (s.setGen g x).gens[g]? = some x := by
  simp [Shared.setGen, h]
theorem setGen_sz {s : Shared} {g : Nat} {x : GenState} : (s.setGen g x).gens.size = s.gens.size := GenW.setGen_size s g x

/-- one turn of a consumer's loop: the generator hands out a value, or is through -/
theorem next_gen {τ : Type} {Cons : τ → V → Hp → (τ → Hp → Prop) → Prop} {Fin : τ → Hp → Prop} {S : List Addr} {TQ : τ → Shared → Prop} {n : Nat} {s : Shared} {Q : Option Value → Shared → Prop} {E : Value → Shared → Prop} {k : Nat}
    (hr : Room k X.A) (hS : a ∈ S) (hg : s.heap.IsGen a gn) (hl : s.heap.NoLimit) (hgn : gn < s.gens.size) (hgo : ∃ gs, s.gens[gn]? = some gs ∧ gs.Goes (model X.prog X.w) X.A.in1.in1 (gR X' S TQ σw Fin) (gY X' S fp TQ σw Cons) n (.send .none) (s.setGen gn .running))
    (hY : ∀ (v : Value) (x : V) (t : τ) (N : τ → Hp → Prop) (H : Hp) (s1 : Shared) (gs' : GenState) (pl : List (Addr × Obj)), RelV x v → TQ t (s.setGen gn .running) → Cons t x H N → gs'.bare = true → Inv X' pl σw H s1 → PinS S s.heap pl → gn < s1.gens.size → s1.heap.IsGen a gn →
      (∀ t' s'', Wake X' S fp σw H s1 s'' → TQ t' s'' → N t' H → ∃ m, m + 1 = n ∧ gs'.Goes (model X.prog X.w) X.A.in1.in1 (gR X' S TQ σw Fin) (gY X' S fp TQ σw Cons) m (.send .none) s'') → Q (some v) (s1.setGen gn gs'))
    (hF : ∀ (t : τ) (H : Hp) (s1 : Shared) (pl : List (Addr × Obj)) (h' : Heap), TQ t (s.setGen gn .running) → Fin t H → Inv X' pl σw H { s1.setGen gn .finished with heap := h' } → PinS S s.heap pl → Q none { s1.setGen gn .finished with heap := h' }) :
    wpAny (model X.prog X.w) X.A.in1 (pyNext (.ref a)) Q E s := by
  obtain ⟨gs, hgs, hgo⟩ := hgo
  refine GenW.wpAny_gsz (n := gn + 1) hgn ?_
  refine wpAny_pyNext_genexpQ (A := X.A.in1) (P := fun n s₀ s1 => ∃ (t : τ) (H : Hp), TQ t s₀ ∧ Fin t H ∧ ∃ pl, Inv X' pl σw H s1 ∧ PinS S s₀.heap pl) hr.hd hl (by have := hr.dp; show X.A.depth < _; omega) hg hgs hgo (fun v s1 gs' hb hv hsz => ?_) (fun s1 hp h' hk _ => ?_)
  · obtain ⟨t, N, x, H, rv, tq, cs, ⟨pl, I1, hpl⟩, kap⟩ := hv
    rw [setGen_sz] at hsz
    refine hY v x t N H s1 gs' pl rv tq cs hb I1 hpl hsz (gen_pin (s := s1) hS hg hpl I1) fun t' s'' wk tq' nx => ?_
    have z := kap t' s'' wk tq' nx
    cases n with
    | zero => exact z.elim
    | succ m => exact ⟨m, rfl, z⟩
  · obtain ⟨t, H, tq, fin, pl, I1, hpl⟩ := hp
    exact hF t H s1 pl h' tq fin ((inv_setGen I1 rfl).kept (t' := s1.toks) hk) hpl

theorem all_loop {k : Nat} {Qf : Hp → Prop} {Fin : Unit → Hp → Prop} {R : Result → Shared → Prop} (hr : Room k X.A)
    (back : ∀ (pl : List (Addr × Obj)) (σ' : L2.St) (H' : Hp) (s' : Shared), Inv X' pl σ' H' s' → Inv X pins σ H' s')
    (hT : ∀ H s', Inv X pins σ H s' → Fin () H → R (.ok (.ret (.bool true))) s') (hF : ∀ H s', Inv X pins σ H s' → Qf H → R (.ok (.ret (.bool false))) s') :
    ∀ (n : Nat) (s : Shared), TruSt X X' σw fp a gn n (fun _ y H N => ∃ b, y = .bl b ∧ if b = true then N () H else Qf H) Fin s → codeAny (model X.prog X.w) X.A (.builtin "all.loop" ⟨[.ref a], []⟩) R s := by
  intro n
  induction n using Nat.strongRecOn with
  | ind n ih =>
    intro s ⟨hg, hl, hgn, hgo⟩
    refine codeAny_builtin F.entry_all_loop ?_
    rw [Around.under_plainId F.plain_all_loop _]
    show wpAny _ X.A.in1 (pyNext (.ref a) >>= _) _ _ s
    refine wpAny_bind (next_gen (S := [a]) (TQ := fun _ _ => True) hr List.mem_cons_self hg hl hgn hgo (fun v x t N H s1 gs' pl rv _ cs hb I1 hpl hgn1 hg1 kap => ?_) (fun t H s1 pl h' _ fin I1 hpl => ?_))
    · obtain ⟨b, rfl, q⟩ := cs
      obtain rfl : v = Value.bool b := rv
      refine wpAny_bind (wpAny_holding (wpAny_truthy_bool ?_))
      refine wpAny_bind (wpAny_letGo ?_)
      have J1 : Inv X' pl σw H (s1.setGen gn gs') := inv_setGen I1 hb
      cases b with
      | true =>
        simp only [if_true] at q ⊢
        have J2 : Inv X' pl σw H ((s1.setGen gn gs').setGen gn .running) := inv_setGen J1 rfl
        obtain ⟨m, hm, z⟩ := kap () _ ⟨⟨pl, J2, fun b hb => (by
          obtain ⟨o, _, hm⟩ := hpl b hb
          exact ⟨o, (I1.pin _ (List.mem_append_right _ hm)).1, hm⟩)⟩, fun b _ o e => e⟩ trivial q
        refine wpAny_pure ⟨plainId_quiet F.plain_all_loop _, ih m (by omega) _ ⟨hg1, J1.nolimit, by rw [setGen_sz]; exact hgn1, gs', setGen_at hgn1, z⟩⟩
      | false =>
        simp only [Bool.false_eq_true, if_false] at q ⊢
        exact wpAny_bind (wpAny_rule (wpAny_pure (hF H _ (back _ _ _ _ J1) q)))
    · exact wpAny_bind (wpAny_rule (wpAny_pure (hT H _ (back _ _ _ _ I1) fin)))

theorem any_loop {k : Nat} {Qt : Hp → Prop} {Fin : Unit → Hp → Prop} {R : Result → Shared → Prop} (hr : Room k X.A)
    (back : ∀ (pl : List (Addr × Obj)) (σ' : L2.St) (H' : Hp) (s' : Shared), Inv X' pl σ' H' s' → Inv X pins σ H' s')
    (hF : ∀ H s', Inv X pins σ H s' → Fin () H → R (.ok (.ret (.bool false))) s') (hT : ∀ H s', Inv X pins σ H s' → Qt H → R (.ok (.ret (.bool true))) s') :
    ∀ (n : Nat) (s : Shared), TruSt X X' σw fp a gn n (fun _ y H N => ∃ b, y = .bl b ∧ if b = true then Qt H else N () H) Fin s → codeAny (model X.prog X.w) X.A (.builtin "any.loop" ⟨[.ref a], []⟩) R s := by
  intro n
  induction n using Nat.strongRecOn with
  | ind n ih =>
    intro s ⟨hg, hl, hgn, hgo⟩
    refine codeAny_builtin F.entry_any_loop ?_
    rw [Around.under_plainId F.plain_any_loop _]
    show wpAny _ X.A.in1 (pyNext (.ref a) >>= _) _ _ s
    refine wpAny_bind (next_gen (S := [a]) (TQ := fun _ _ => True) hr List.mem_cons_self hg hl hgn hgo (fun v x t N H s1 gs' pl rv _ cs hb I1 hpl hgn1 hg1 kap => ?_) (fun t H s1 pl h' _ fin I1 hpl => ?_))
    · obtain ⟨b, rfl, q⟩ := cs
      obtain rfl : v = Value.bool b := rv
      refine wpAny_bind (wpAny_holding (wpAny_truthy_bool ?_))
      refine wpAny_bind (wpAny_letGo ?_)
      have J1 : Inv X' pl σw H (s1.setGen gn gs') := inv_setGen I1 hb
      cases b with
      | false =>
        simp only [Bool.false_eq_true, if_false] at q ⊢
        have J2 : Inv X' pl σw H ((s1.setGen gn gs').setGen gn .running) := inv_setGen J1 rfl
        obtain ⟨m, hm, z⟩ := kap () _ ⟨⟨pl, J2, fun b hb => (by
          obtain ⟨o, _, hm⟩ := hpl b hb
          exact ⟨o, (I1.pin _ (List.mem_append_right _ hm)).1, hm⟩)⟩, fun b _ o e => e⟩ trivial q
        refine wpAny_pure ⟨plainId_quiet F.plain_any_loop _, ih m (by omega) _ ⟨hg1, J1.nolimit, by rw [setGen_sz]; exact hgn1, gs', setGen_at hgn1, z⟩⟩
      | true =>
        simp only [if_true] at q ⊢
        exact wpAny_bind (wpAny_rule (wpAny_pure (hT H _ (back _ _ _ _ J1) q)))
    · exact wpAny_bind (wpAny_rule (wpAny_pure (hF H _ (back _ _ _ _ I1) fin)))

/-! sum: the total stands in a list of the consumer's own, at Z -/
def TotAt (Z : Addr) (t : Int) (s : Shared) : Prop := ∃ (tk : Tok) (c : Nat), s.heap.get? Z = some { cls := .type "list", dict := none, data := .seq #[.int t tk] c, slots := #[] }
theorem TotAt.inj {Z : Addr} {t u : Int} {s : Shared} (h : TotAt Z t s) (h' : TotAt Z u s) : t = u := by
  obtain ⟨tk, c, e⟩ := h
  obtain ⟨tk', c', e'⟩ := h'
  rw [e] at e'
  have z := Option.some.inj e'
  injection z with z1 z2 z3 z4
  injection z3 with z5 z6
  have z7 : ([.int t tk] : List Value) = [.int u tk'] := congrArg Array.toList z5
  injection z7 with z8 _
  injection z8
/-- the list at Z is out of the generator's reach -/
structure ZOk (X' : Cx) (fp : List Addr) (a Z : Addr) : Prop where
  sz : X'.s_0.heap.objs.size ≤ Z
  loc : Z ≠ X'.env.locals
  fs : Z ∉ X'.fs
  cells : ∀ x c, X'.env.cells.lookup x = some c → c ≠ Z
  za : Z ≠ a
  zfp : Z ∉ fp
  afp : a ∉ fp
  pn : X'.pn = []
def SumSt (X X' : Cx) (σw : L2.St) (fp : List Addr) (a Z : Addr) (gn n : Nat) (t : Int) (Cons : Int → V → Hp → (Int → Hp → Prop) → Prop) (Fin : Int → Hp → Prop) (s : Shared) : Prop :=
  s.heap.IsGen a gn ∧ s.heap.NoLimit ∧ gn < s.gens.size ∧ TotAt Z t s ∧ ∃ gs, s.gens[gn]? = some gs ∧ gs.Goes (model X.prog X.w) X.A.in1.in1 (gR X' [a, Z] (TotAt Z) σw Fin) (gY X' [a, Z] fp (TotAt Z) σw Cons) n (.send .none) (s.setGen gn .running)
theorem sum_loop {Z : Addr} {k : Nat} {Fin : Int → Hp → Prop} {R : Result → Shared → Prop} (hr : Room k X.A) (z : ZOk X' fp a Z)
    (back : ∀ (pl : List (Addr × Obj)) (σ' : L2.St) (H' : Hp) (s' : Shared), Inv X' pl σ' H' s' → Inv X pins σ H' s')
    (hF : ∀ t H s' tk, Inv X pins σ H s' → Fin t H → R (.ok (.ret (.int t tk))) s') :
    ∀ (n : Nat) (t : Int) (s : Shared), SumSt X X' σw fp a Z gn n t (fun t y H N => ∃ j, y = .int j ∧ (InLong j ∧ InLong (t + j)) ∧ N (t + j) H) Fin s →
      codeAny (model X.prog X.w) X.A (.builtin "sum.loop" ⟨[.ref a, .ref Z, rawInt 0, rawInt 0], []⟩) R s := by
  intro n
  induction n using Nat.strongRecOn with
  | ind n ih =>
    intro t s ⟨hg, hl, hgn, hZ, hgo⟩
    obtain ⟨tA, c, hS⟩ := id hZ
    refine codeAny_builtin F.entry_sum_loop ?_
    rw [Around.under_plainId F.plain_sum_loop _]
    show wpAny _ X.A.in1 (seqItems? (.ref Z) >>= _) _ _ s
    refine wpAny_bind (wpAny_seqItems hS rfl ?_)
    show wpAny _ X.A.in1 (tryCatch (pyNext (.ref a)) _ >>= _) _ _ s
    refine wpAny_bind (wpAny_tryCatch (next_gen (S := [a, Z]) (TQ := TotAt Z) hr List.mem_cons_self hg hl hgn hgo (fun v x t' N H s1 gs' pl rv tq cs hb I1 hpl hgn1 hg1 kap => ?_) (fun t' H s1 pl h' tq fin I1 hpl => ?_)))
    · have et : t' = t := TotAt.inj tq hZ
      subst et
      obtain ⟨j, rfl, ⟨⟨f1, f2⟩, f3, f4⟩, nx⟩ := cs
      obtain ⟨tv, rfl⟩ : ∃ tv, v = Value.int j tv := rv
      have hc : ((decide (-(2 ^ 63) ≤ j) && decide (j < 2 ^ 63)) && (decide (-(2 ^ 63) ≤ t' + j) && decide (t' + j < 2 ^ 63))) = true := by
        simp only [Bool.and_eq_true, decide_eq_true_eq]
        exact ⟨⟨f1, f2⟩, f3, f4⟩
      obtain ⟨oz, ez, hmz⟩ := hpl Z (List.mem_cons_of_mem _ List.mem_cons_self)
      obtain ⟨oa, ea, hma⟩ := hpl a List.mem_cons_self
      rw [hS] at ez
      cases ez
      obtain ⟨pz1, pz2, pz3, pz4, _⟩ := I1.pin _ (List.mem_append_right _ hmz)
      obtain ⟨pa1, pa2, pa3, pa4, pa5⟩ := I1.pin _ (List.mem_append_right _ hma)
      have J1 : Inv X' [(a, oa)] σw H (s1.setGen gn gs') := (inv_setGen I1 hb).pins_of fun p hp => by
        rw [List.mem_singleton.mp hp]
        exact ⟨pa1, pa2, pa3, pa4, pa5⟩
      show wpAny _ X.A.in1 (if (_ : Bool) = true then (mkInt (t' + j) >>= _) else _) _ _ _
      split
      · refine wpAny_bind (wpAny_mkInt ?_)
        show wpAny _ X.A.in1 (updateSeq Z (fun _ => #[.int (t' + j) s1.toks]) >>= _) _ _ _
        refine wpAny_bind ?_
        refine wpAny_updateSeq pz1 rfl (wpAny_pure ⟨plainId_quiet F.plain_sum_loop _, ?_⟩)
        have kh : ∀ b o, b ≠ Z → s1.heap.get? b = some o → (s1.heap.update Z (Obj.mapSeq fun _ => #[.int (t' + j) s1.toks])).get? b = some o := fun b o hb e => (Heap.get?_update_other _ _ (fun h : Z = b => hb h.symm)).trans e
        have J2 : Inv X' [(a, oa)] σw H { s1.setGen gn gs' with heap := s1.heap.update Z (Obj.mapSeq fun _ => #[.int (t' + j) s1.toks]), toks := s1.toks + 1 } :=
          J1.turned (t' := s1.toks + 1) kh pz2 z.loc (.inr z.sz) z.cells fun p hp => by
            rw [z.pn] at hp
            have hp2 : p = (a, oa) := by simpa using hp
            rw [hp2]
            exact fun e => z.za e.symm
        have eZ := Heap.get?_update_self (h := s1.heap) (Obj.mapSeq fun _ => #[.int (t' + j) s1.toks]) pz1 rfl
        have J3 : Inv X' [(a, oa), (Z, (Obj.mapSeq (fun _ => #[.int (t' + j) s1.toks])) { cls := .type "list", dict := none, data := .seq #[.int t' tA] c, slots := #[] })] σw H { s1.setGen gn gs' with heap := s1.heap.update Z (Obj.mapSeq fun _ => #[.int (t' + j) s1.toks]), toks := s1.toks + 1 } := J2.pins_of fun p hp => by
          rcases List.mem_cons.mp hp with hp | hp
          · exact J2.pin p (List.mem_append_right _ (by rw [hp]; exact List.mem_cons_self))
          · rw [List.mem_singleton.mp hp]
            exact ⟨eZ, pz2, pz3, pz4, fun v q => by cases q⟩
        obtain ⟨m, hm, zz⟩ := kap (t' + j) (({ s1.setGen gn gs' with heap := s1.heap.update Z (Obj.mapSeq fun _ => #[.int (t' + j) s1.toks]), toks := s1.toks + 1 } : Shared).setGen gn .running) ⟨⟨_, inv_setGen J3 rfl, fun b hb => (by
          rcases List.mem_cons.mp hb with hb | hb
          · rw [hb]
            exact ⟨oa, (J3.pin _ (List.mem_append_right _ List.mem_cons_self)).1, List.mem_cons_self⟩
          · rw [List.mem_singleton.mp hb]
            exact ⟨_, eZ, List.mem_cons_of_mem _ List.mem_cons_self⟩)⟩, fun b hb o e => kh b o (fun q => z.zfp (by rw [← q]; exact hb)) e⟩ ⟨s1.toks, _, eZ⟩ nx
        refine ih m (by omega) (t' + j) _ ⟨?_, J3.nolimit, by show gn < (s1.setGen gn gs').gens.size; rw [setGen_sz]; exact hgn1, ⟨s1.toks, _, eZ⟩, gs', setGen_at hgn1, zz⟩
        obtain ⟨o, nm, qn, e, r⟩ := hg1
        exact ⟨o, nm, qn, kh a o (fun q => z.za q.symm) e, r⟩
      · rename_i hneg
        exact absurd hc hneg
    · have et : t' = t := TotAt.inj tq hZ
      subst et
      exact wpAny_pure (hF t' H _ tA (back _ _ _ _ I1) fin)
end

/-! ### the rules -/
/-- all(elt for target in iter if ..) -/
def tAllG (P : Addr) (wi : TI) (g : TG) (tt : TT) (te : TE) (vs : List Nat) : TE := fun σ H Q => wi σ H fun J H1 => GxR.TabG H1 P ∧ ∀ H2, GxR.Tabbed P H1 H2 → ∃ W : Nat → Nat → Unit → Hp → Prop, (∃ m, W 0 m () H2) ∧
  GW J g tt te vs σ W (fun _ y H N => ∃ b, y = .bl b ∧ if b = true then N () H else Q (.bl false) H) (fun _ H => Q (.bl true) H)
def tAnyG (P : Addr) (wi : TI) (g : TG) (tt : TT) (te : TE) (vs : List Nat) : TE := fun σ H Q => wi σ H fun J H1 => GxR.TabG H1 P ∧ ∀ H2, GxR.Tabbed P H1 H2 → ∃ W : Nat → Nat → Unit → Hp → Prop, (∃ m, W 0 m () H2) ∧
  GW J g tt te vs σ W (fun _ y H N => ∃ b, y = .bl b ∧ if b = true then Q (.bl true) H else N () H) (fun _ H => Q (.bl false) H)
def tSumG (P : Addr) (wi : TI) (g : TG) (tt : TT) (te : TE) (vs : List Nat) : TE := fun σ H Q => wi σ H fun J H1 => GxR.TabG H1 P ∧ ∀ H2, GxR.Tabbed P H1 H2 → ∃ W : Nat → Nat → Int → Hp → Prop, (∃ m, W 0 m 0 H2) ∧
  GW J g tt te vs σ W (fun t y H N => ∃ j, y = .int j ∧ (InLong j ∧ InLong (t + j)) ∧ N (t + j) H) (fun t H => Q (.int t) H)
section
variable {X : Cx}
theorem pe_allG {c P : Addr} {elt tg iter : Expr} {ifs : List Expr} {gpos p pos : Pos} {scope : Scope} {own : List (Str × Nat)} {wi : TI} {g : TG} {tt : TT} {te : TE} {k : Nat}
    (hr : Room k X.A) (hc : X.calm = true) (hN : X.N.Nodup) (hgl : Gl X "all") (hm : X.mg "all" = none) (TB : GxR.TabB X.base X.mg c P) (hcode : X.env.code = .ref c) (hi : PI X tg iter wi) (ok : BlkOk X.N X.env.scope scope own) (hcell : ∀ y ∈ scope.names, y.2 ≠ .cell) (hco : scope.isCoroutine = false) (hdot : scope.names.lookup (".0" : Str) = some NameKind.local)
    (hg : ∀ (s : Shared) (H : Hp) (C : Addr) (code : Value) (fp : List Addr), PG (gCx X s H (gEnv X scope C code) fp) tg g) (ht : ∀ (s : Shared) (H : Hp) (C : Addr) (code : Value) (fp : List Addr), PTs (gCx X s H (gEnv X scope C code) fp) ifs tt)
    (he : ∀ (s : Shared) (H : Hp) (C : Addr) (code : Value) (fp : List Addr), PE (gCx X s H (gEnv X scope C code) fp) elt te)
    (hs : ∀ v, genFold iter X.env v = pure v := by intro _; rfl)
    (hb : bootBuiltins "all" = some (.builtin "all") := by decide +kernel)
    (hse : starEach [.GeneratorExp elt [⟨tg, iter, ifs, 0⟩] scope gpos] X.env = (false, eval (.GeneratorExp elt [⟨tg, iter, ifs, 0⟩] scope gpos) X.env) :: starEach [] X.env := by rfl) :
    PE X (.Call (.Name "all" p) [.GeneratorExp elt [⟨tg, iter, ifs, 0⟩] scope gpos] [] pos) (tAllG P wi g tt te (own.map (·.2))) := by
  refine ⟨fun pins s σ H Q I h => ?_⟩
  refine wpAny_Call_Name_kw (ld_blt I hgl hm hb ?_)
  refine PyProof.Rows.callWith_builtin1 ?_ hse (by rfl)
  rw [hse]
  show wpAny _ _ (spliced ((false, eval (.GeneratorExp elt [⟨tg, iter, ifs, 0⟩] scope gpos) X.env) :: backTo pos (starEach [] X.env))) _ _ s
  refine Calls.spliced_cons (gen_make (R := fun _ => True) hr hc hN TB hcode hi ok hcell hco hdot hg ht he hs I h fun X' fp a gn n H2 s5 G e1 e2 => ?_)
  refine Calls.spliced_nil ?_
  refine call_function_tree F.kind_all F.plain_all F.entry_all (F.args_all1 _) ?_
  unfold Builtin.«all»
  refine wpAny_bind (m := oneArg "all" _) (wpAny_pure ?_)
  refine wpAny_bind (wpAny_pyIter_gen G.gen ?_)
  obtain ⟨o, ho, I5⟩ := G.inv
  obtain ⟨gs, hgs, hgoes⟩ := G.goes
  refine wpAny_pure ⟨plainId_quiet F.plain_all_loop _, all_loop (Qf := fun H => Q (.bl false) H) (Fin := fun _ H => Q (.bl true) H) hr G.back (fun H' s' J q => ⟨.bl true, H', J, rfl, q⟩) (fun H' s' J q => ⟨.bl false, H', J, rfl, q⟩) n s5
    ⟨G.gen, I5.nolimit, G.gens, gs, hgs, hgoes [a] (fun _ _ => True) (fun b hb => by rw [List.mem_singleton.mp hb]; exact G.afp) _ ⟨⟨_, inv_setGen I5 rfl, fun b hb => ⟨o, by rw [List.mem_singleton.mp hb]; exact ho, by rw [List.mem_singleton.mp hb]; exact List.mem_cons_self⟩⟩, fun b _ o e => e⟩ trivial⟩⟩

theorem pe_anyG {c P : Addr} {elt tg iter : Expr} {ifs : List Expr} {gpos p pos : Pos} {scope : Scope} {own : List (Str × Nat)} {wi : TI} {g : TG} {tt : TT} {te : TE} {k : Nat}
    (hr : Room k X.A) (hc : X.calm = true) (hN : X.N.Nodup) (hgl : Gl X "any") (hm : X.mg "any" = none) (TB : GxR.TabB X.base X.mg c P) (hcode : X.env.code = .ref c) (hi : PI X tg iter wi) (ok : BlkOk X.N X.env.scope scope own) (hcell : ∀ y ∈ scope.names, y.2 ≠ .cell) (hco : scope.isCoroutine = false) (hdot : scope.names.lookup (".0" : Str) = some NameKind.local)
    (hg : ∀ (s : Shared) (H : Hp) (C : Addr) (code : Value) (fp : List Addr), PG (gCx X s H (gEnv X scope C code) fp) tg g) (ht : ∀ (s : Shared) (H : Hp) (C : Addr) (code : Value) (fp : List Addr), PTs (gCx X s H (gEnv X scope C code) fp) ifs tt)
    (he : ∀ (s : Shared) (H : Hp) (C : Addr) (code : Value) (fp : List Addr), PE (gCx X s H (gEnv X scope C code) fp) elt te)
    (hs : ∀ v, genFold iter X.env v = pure v := by intro _; rfl)
    (hb : bootBuiltins "any" = some (.builtin "any") := by decide +kernel)
    (hse : starEach [.GeneratorExp elt [⟨tg, iter, ifs, 0⟩] scope gpos] X.env = (false, eval (.GeneratorExp elt [⟨tg, iter, ifs, 0⟩] scope gpos) X.env) :: starEach [] X.env := by rfl) :
    PE X (.Call (.Name "any" p) [.GeneratorExp elt [⟨tg, iter, ifs, 0⟩] scope gpos] [] pos) (tAnyG P wi g tt te (own.map (·.2))) := by
  refine ⟨fun pins s σ H Q I h => ?_⟩
  refine wpAny_Call_Name_kw (ld_blt I hgl hm hb ?_)
  refine PyProof.Rows.callWith_builtin1 ?_ hse (by rfl)
  rw [hse]
  show wpAny _ _ (spliced ((false, eval (.GeneratorExp elt [⟨tg, iter, ifs, 0⟩] scope gpos) X.env) :: backTo pos (starEach [] X.env))) _ _ s
  refine Calls.spliced_cons (gen_make (R := fun _ => True) hr hc hN TB hcode hi ok hcell hco hdot hg ht he hs I h fun X' fp a gn n H2 s5 G e1 e2 => ?_)
  refine Calls.spliced_nil ?_
  refine call_function_tree F.kind_any F.plain_any F.entry_any (F.args_any1 _) ?_
  unfold Builtin.«any»
  refine wpAny_bind (m := oneArg "any" _) (wpAny_pure ?_)
  refine wpAny_bind (wpAny_pyIter_gen G.gen ?_)
  obtain ⟨o, ho, I5⟩ := G.inv
  obtain ⟨gs, hgs, hgoes⟩ := G.goes
  refine wpAny_pure ⟨plainId_quiet F.plain_any_loop _, any_loop (Qt := fun H => Q (.bl true) H) (Fin := fun _ H => Q (.bl false) H) hr G.back (fun H' s' J q => ⟨.bl false, H', J, rfl, q⟩) (fun H' s' J q => ⟨.bl true, H', J, rfl, q⟩) n s5
    ⟨G.gen, I5.nolimit, G.gens, gs, hgs, hgoes [a] (fun _ _ => True) (fun b hb => by rw [List.mem_singleton.mp hb]; exact G.afp) _ ⟨⟨_, inv_setGen I5 rfl, fun b hb => ⟨o, by rw [List.mem_singleton.mp hb]; exact ho, by rw [List.mem_singleton.mp hb]; exact List.mem_cons_self⟩⟩, fun b _ o e => e⟩ trivial⟩⟩

theorem pe_sumG {c P : Addr} {elt tg iter : Expr} {ifs : List Expr} {gpos p pos : Pos} {scope : Scope} {own : List (Str × Nat)} {wi : TI} {g : TG} {tt : TT} {te : TE} {k : Nat}
    (hr : Room k X.A) (hc : X.calm = true) (hN : X.N.Nodup) (hgl : Gl X "sum") (hm : X.mg "sum" = none) (TB : GxR.TabB X.base X.mg c P) (hcode : X.env.code = .ref c) (hi : PI X tg iter wi) (ok : BlkOk X.N X.env.scope scope own) (hcell : ∀ y ∈ scope.names, y.2 ≠ .cell) (hco : scope.isCoroutine = false) (hdot : scope.names.lookup (".0" : Str) = some NameKind.local)
    (hg : ∀ (s : Shared) (H : Hp) (C : Addr) (code : Value) (fp : List Addr), PG (gCx X s H (gEnv X scope C code) fp) tg g) (ht : ∀ (s : Shared) (H : Hp) (C : Addr) (code : Value) (fp : List Addr), PTs (gCx X s H (gEnv X scope C code) fp) ifs tt)
    (he : ∀ (s : Shared) (H : Hp) (C : Addr) (code : Value) (fp : List Addr), PE (gCx X s H (gEnv X scope C code) fp) elt te)
    (hs : ∀ v, genFold iter X.env v = pure v := by intro _; rfl)
    (hb : bootBuiltins "sum" = some (.builtin "sum") := by decide +kernel)
    (hse : starEach [.GeneratorExp elt [⟨tg, iter, ifs, 0⟩] scope gpos] X.env = (false, eval (.GeneratorExp elt [⟨tg, iter, ifs, 0⟩] scope gpos) X.env) :: starEach [] X.env := by rfl) :
    PE X (.Call (.Name "sum" p) [.GeneratorExp elt [⟨tg, iter, ifs, 0⟩] scope gpos] [] pos) (tSumG P wi g tt te (own.map (·.2))) := by
  refine ⟨fun pins s σ H Q I h => ?_⟩
  refine wpAny_Call_Name_kw (ld_blt I hgl hm hb ?_)
  refine PyProof.Rows.callWith_builtin1 ?_ hse (by rfl)
  rw [hse]
  show wpAny _ _ (spliced ((false, eval (.GeneratorExp elt [⟨tg, iter, ifs, 0⟩] scope gpos) X.env) :: backTo pos (starEach [] X.env))) _ _ s
  refine Calls.spliced_cons (gen_make (R := fun _ => True) hr hc hN TB hcode hi ok hcell hco hdot hg ht he hs I h fun X' fp a gn n H2 s5 G e1 e2 => ?_)
  refine Calls.spliced_nil ?_
  refine call_function_tree F.kind_sum F.plain_sum F.entry_sum (F.args_sum1 _) ?_
  unfold Builtin.«sum»
  simp only [List.length_cons, List.length_nil]
  rw [if_neg (by decide)]
  refine wpAny_bind (wpAny_of_eq (show Builtin.Builtins.bindParams "sum" ["start"] 0 { } = pure [none] from rfl) ?_)
  refine wpAny_bind (wpAny_pyIter_gen G.gen ?_)
  refine wpAny_bind (wpAny_mkInt ?_)
  refine wpAny_bind (wpAny_pure ?_)
  simp only [List.forIn_cons, List.forIn_nil]
  refine wpAny_bind (wpAny_bind (wpAny_bind (wpAny_isInstance (T := "int") (b := false) (typeIs_int _ _ _) PySem.sub_int_str ?_)))
  simp only [Bool.false_eq_true, if_false]
  refine wpAny_pure (wpAny_bind (wpAny_bind (wpAny_isInstance (T := "int") (b := false) (typeIs_int _ _ _) PySem.sub_int_bytes ?_)))
  simp only [Bool.false_eq_true, if_false]
  refine wpAny_pure (wpAny_bind (wpAny_bind (wpAny_isInstance (T := "int") (b := false) (typeIs_int _ _ _) PySem.sub_int_bytearray ?_)))
  simp only [Bool.false_eq_true, if_false]
  refine wpAny_pure (wpAny_pure ?_)
  refine wpAny_bind (wpAny_newObj_type ?_)
  obtain ⟨o, ho, I5⟩ := G.inv
  obtain ⟨gs, hgs, hgoes⟩ := G.goes
  have zok : ZOk X' fp a s5.heap.objs.size := by
    refine ⟨G.sz, Nat.ne_of_gt G.loc, fun z => Nat.lt_irrefl _ (G.fs _ z), fun x c e => Nat.ne_of_lt (G.cells x c e), Nat.ne_of_gt (Heap.lt_size ho), fun z => Nat.lt_irrefl _ (G.fpl _ z), G.afp, G.pn⟩
  generalize hs6 : ({ s5 with heap := s5.heap.push { cls := .type "list", data := .seq ([Value.int 0 s5.toks] : List Value).toArray }, toks := s5.toks + 1 } : Shared) = s6
  have hh6 : s6.heap = s5.heap.push { cls := .type "list", data := .seq ([Value.int 0 s5.toks] : List Value).toArray } := by rw [← hs6]
  have kp : ∀ b u, s5.heap.get? b = some u → s6.heap.get? b = some u := fun b u e => by rw [hh6]; exact Heap.get?_push_of_some _ e
  have I6 : Inv X' [(a, o)] (wipe σ (own.map (·.2))) H2 s6 := by
    rw [← hs6]
    exact I5.kept (t' := s5.toks + 1) fun b u e => Heap.get?_push_of_some _ e
  have hZ : s6.heap.get? s5.heap.objs.size = some { cls := .type "list", data := .seq ([Value.int 0 s5.toks] : List Value).toArray } := by
    rw [hh6]; exact Heap.get?_push_size _ rfl
  have I7 : Inv X' [(a, o), (s5.heap.objs.size, { cls := .type "list", data := .seq ([Value.int 0 s5.toks] : List Value).toArray })] (wipe σ (own.map (·.2))) H2 s6 := I6.pins_of fun p hp => by
    rcases List.mem_cons.mp hp with hp | hp
    · exact I6.pin p (List.mem_append_right _ (by rw [hp]; exact List.mem_cons_self))
    · rw [List.mem_singleton.mp hp]
      exact ⟨hZ, I5.hok.fresh (Nat.le_refl _), zok.loc, zok.fs, fun v q => by cases q⟩
  have hgn : s6.gens = s5.gens := by rw [← hs6]
  refine wpAny_pure ⟨plainId_quiet F.plain_sum_loop _, ?_⟩
  refine sum_loop (Z := s5.heap.objs.size) (Fin := fun t H => Q (.int t) H) hr zok G.back (fun t H' s' tk J q => ⟨.int t, H', J, ⟨tk, rfl⟩, q⟩) n 0 s6
    ⟨G.gen.keeps kp, I6.nolimit, by rw [hgn]; exact G.gens, ⟨s5.toks, 0, hZ⟩, gs, by rw [hgn]; exact hgs, hgoes [a, s5.heap.objs.size] (TotAt s5.heap.objs.size) (fun b hb => ?_) _ ⟨⟨_, inv_setGen I7 rfl, fun b hb => ?_⟩, fun b _ o e => kp b o e⟩ ⟨s5.toks, 0, hZ⟩⟩
  · rcases List.mem_cons.mp hb with hb | hb
    · rw [hb]; exact G.afp
    · rw [List.mem_singleton.mp hb]; exact zok.zfp
  · rcases List.mem_cons.mp hb with hb | hb
    · rw [hb]
      exact ⟨o, kp _ _ ho, List.mem_cons_self⟩
    · rw [List.mem_singleton.mp hb]
      exact ⟨_, hZ, List.mem_cons_of_mem _ List.mem_cons_self⟩
end
end Sq
set_option Elab.async false
set_option linter.all false
set_option maxRecDepth 100000
set_option maxHeartbeats 2000000
namespace Sq
open PySem PySem.Spec PyProof.Rows L2
/-! ### what stays: all but the objects at S; tables may grow -/
structure Ext (S : List Addr) (H H' : Hp) : Prop where
  keep : ∀ b o, H b = some o → b ∉ S → (∀ ps, o ≠ .tbl ps) → H' b = some o
  tup : ∀ b xs, H b = some (.tup xs) → H' b = some (.tup xs)
  frz : ∀ b o u, H b = some (.frz o u) → H' b = some (.frz o u)
  tab : ∀ P, GxR.TabG H P → GxR.TabG H' P
  tbl : ∀ P ps, H P = some (.tbl ps) → P ∉ S → H' P = some (.tbl ps)
section
variable {S S' : List Addr} {H H1 H2 H' : Hp} {a p : Addr} {o : HO}
theorem Ext.refl (S : List Addr) (H : Hp) : Ext S H H := ⟨fun _ _ h _ _ => h, fun _ _ h => h, fun _ _ _ h => h, fun _ h => h, fun _ _ h _ => h⟩
theorem Ext.trans (a : Ext S H H1) (b : Ext S H1 H2) : Ext S H H2 :=
  ⟨fun c o h n m => b.keep c o (a.keep c o h n m) n m, fun c o h => b.tup c o (a.tup c o h), fun c o u h => b.frz c o u (a.frz c o u h), fun P h => b.tab P (a.tab P h), fun P ps h n => b.tbl P ps (a.tbl P ps h n) n⟩
theorem Ext.mono (h : Ext S H H') (s : ∀ b ∈ S, b ∈ S') : Ext S' H H' := ⟨fun b o e n m => h.keep b o e (fun z => n (s b z)) m, h.tup, h.frz, h.tab, fun P ps e n => h.tbl P ps e fun z => n (s P z)⟩
theorem Ext.any (h : Ext [] H H') : Ext S H H' := h.mono fun _ z => nomatch z
theorem Ext.new (h : H p = none) : Ext S H (upd H p o) := by
  have k : ∀ b u, H b = some u → upd H p o b = some u := fun b u e => by rw [upd_ne (ne_of_none e h)]; exact e
  exact ⟨fun b u e _ _ => k b u e, fun b u e => k b _ e, fun b u v e => k b _ e, fun P ⟨ps, e, t⟩ => ⟨ps, k P _ e, t⟩, fun P ps e _ => k P _ e⟩
theorem Ext.set {u : HO} (hm : p ∈ S) (hp : H p = some u) (h1 : ∀ xs, u ≠ .tup xs) (h2 : ∀ o v, u ≠ .frz o v) (h3 : ∀ ps, u ≠ .tbl ps) : Ext S H (upd H p o) := by
  have k : ∀ b v, H b = some v → v ≠ u → upd H p o b = some v := fun b v e n => by
    rw [upd_ne fun z => n (by rw [z, hp] at e; exact (Option.some.inj e).symm)]; exact e
  exact ⟨fun b v e n _ => by rw [upd_ne fun z => n (by rw [z]; exact hm)]; exact e, fun b xs e => k b _ e (h1 xs).symm, fun b u v e => k b _ e (h2 u v).symm, fun P ⟨ps, e, t⟩ => ⟨ps, k P _ e (h3 ps).symm, t⟩, fun P ps e _ => k P _ e (h3 ps).symm⟩
theorem Ext.setL {xs : List V} (hm : p ∈ S) (hp : H p = some (.lst xs)) : Ext S H (upd H p o) := Ext.set hm hp (fun _ z => by cases z) (fun _ _ z => by cases z) (fun _ z => by cases z)
theorem Ext.setD {kvs : List (Key × V)} (hm : p ∈ S) (hp : H p = some (.dK kvs)) : Ext S H (upd H p o) := Ext.set hm hp (fun _ z => by cases z) (fun _ _ z => by cases z) (fun _ z => by cases z)
theorem Ext.tabbed (hm : p ∈ S) (t : GxR.TabG H p) (h : GxR.Tabbed p H H') : Ext S H H' := by
  obtain ⟨ps, e0, _⟩ := t
  have k : ∀ b u, H b = some u → (∀ ps, u ≠ .tbl ps) → H' b = some u := fun b u e n => by
    rw [h.2 b fun z => n ps (by rw [z, e0] at e; exact (Option.some.inj e).symm)]; exact e
  refine ⟨fun b u e _ m => k b u e m, fun b xs e => k b _ e (fun _ z => by cases z), fun b u v e => k b _ e (fun _ z => by cases z), fun P t => ?_, fun P ps e n => by rw [h.2 P fun z => n (by rw [z]; exact hm)]; exact e⟩
  by_cases hP : P = p
  · rw [hP]; exact h.1
  · obtain ⟨qs, e, t⟩ := t
    exact ⟨qs, by rw [h.2 P hP]; exact e, t⟩
theorem Ext.lst {xs : List V} (h : Ext S H H') (e : H a = some (.lst xs)) (n : a ∉ S) : H' a = some (.lst xs) := h.keep a _ e n fun _ z => by cases z
theorem Ext.dK {xs : List (Key × V)} (h : Ext S H H') (e : H a = some (.dK xs)) (n : a ∉ S) : H' a = some (.dK xs) := h.keep a _ e n fun _ z => by cases z
theorem Ext.lst0 {xs : List V} (h : Ext [] H H') (e : H a = some (.lst xs)) : H' a = some (.lst xs) := h.lst e (fun z => nomatch z)
theorem Ext.dK0 {xs : List (Key × V)} (h : Ext [] H H') (e : H a = some (.dK xs)) : H' a = some (.dK xs) := h.dK e (fun z => nomatch z)
theorem Ext.sqT {K : PySem.W.Frag} {xs : List V} (h : Ext S H H') (e : SqT K H a xs) : SqT K H' a xs := by
  rcases e with (e | ⟨o, e⟩) | e
  · exact .inl (.inl (h.tup _ _ e))
  · exact .inl (.inr ⟨o, h.frz _ _ _ e⟩)
  · exact .inr e
theorem Ext.sqL {K : PySem.W.Frag} {xs : List V} (h : Ext S H H') (e : SqL K H a xs) (n : a ∉ S) : SqL K H' a xs := by
  rcases e with (e | ⟨o, e⟩) | e
  · exact .inl (.inl (h.lst e n))
  · exact .inl (.inr ⟨o, h.frz _ _ _ e⟩)
  · exact .inr e
theorem Ext.sqL0 {K : PySem.W.Frag} {xs : List V} (h : Ext [] H H') (e : SqL K H a xs) : SqL K H' a xs := h.sqL e (fun z => nomatch z)
/-- what is new behind an extension was not there -/
theorem Ext.ne (h : Ext S H H') (e : H a = some o) (n : a ∉ S) (m : ∀ ps, o ≠ .tbl ps) (f : H' p = none) : a ≠ p := ne_of_none (h.keep a o e n m) f
end

/-! ### defs by their names, and their tables -/
abbrev Cal (P : Program) (w : World) (K : PySem.W.Frag) (mg : Str → Option Value) (base : Heap) (k : Nat) (x : Str) (sp : Sp) : Prop := C8.Cal P w K mg base k x sp []
/-- a def that stands under its name -/
structure Dn (K : PySem.W.Frag) (mg : Str → Option Value) (x : Str) (st : Stmt) (f : Addr) (fd : FuncData) (c : Addr) : Prop where
  ex : ∃ (oc : Value) (od : Option Addr) (kV doc pm : Value) (an : Option Addr) (ct : Value) (osl : Array (Option Value)),
    fd = PySem.W.fnOf x x (defArgs st) (defBody st) (defScope st) .none kV doc pm an (.ref c) ct ∧ K.lookup f = some ⟨oc, od, .func fd, osl⟩ ∧ PySem.W.codeIn K (.ref c) x = true
  mgf : mg x = some (.ref f)
  kp : PySem.W.keepIn K (.ref f) = true
section
variable {P : Program} {w : World} {K : PySem.W.Frag} {mg : Str → Option Value} {base : Heap} {x : Str} {st : Stmt} {f c : Addr} {fd : FuncData} {N ps : List Str} {k : Nat} {sp : Sp}
/-- the context of a def's body -/
abbrev CxD (P : Program) (w : World) (K : PySem.W.Frag) (mg : Str → Option Value) (base : Heap) (N : List Str) (x : Str) (st : Stmt) (f c : Addr) (A : Around) (outer : List Env) (s : Shared) (H : Hp) (E : XK) : Cx :=
  (cxOf CX0 P w K mg base N x (defScope st) f (.ref c) A outer s H E).nox
theorem Dn.ok (F : Dn K mg x st f fd c) (S : FnScope N ps (defScope st)) (len : ∀ vs H Q E, sp vs H Q E → vs.length = ps.length)
    (hbody : ∀ (A : Around) (outer : List Env) (s : Shared) (H : Hp) (vs : List V) (Q : VK) (E : XK), Room k (A.deeper (envOfC x (defScope st) s.heap.objs.size f (.ref c))) → sp vs H Q E →
      ∃ t, PSs (CxD P w K mg base N x st f c A outer s H E) (defBody st) t ∧ t { nx := fun _ H' => Q .non H', rt := Q } (start N vs) H) : FnOk P w K mg base CX0 (k + 1) f fd ps sp := by
  obtain ⟨oc, od, kV, doc, pm, an, ct, osl, rfl, lk, hcd⟩ := F.ex
  refine fn_of lk hcd S len fun A outer s H vs Q E hr hsp => ?_
  obtain ⟨t, h, q⟩ := hbody A outer s H vs Q E hr hsp
  exact ⟨t, h.nox, q⟩
/-- how its arguments bind -/
def BindOk (x : Str) (st : Stmt) (ps : List Str) : Prop := ∀ (kV doc pm : Value) (an : Option Addr) (cdv ct : Value) (us : List Value), us.length = ps.length → bindArgs (PySem.W.fnOf x x (defArgs st) (defBody st) (defScope st) .none kV doc pm an cdv ct) ⟨us, []⟩ = pure (ps.zip us)
theorem Dn.binds (F : Dn K mg x st f fd c) (h : BindOk x st ps) : Binds K fd ps [] := by
  obtain ⟨oc, od, kV, doc, pm, an, ct, osl, rfl, lk, hcd⟩ := F.ex
  exact .all (h kV doc pm an (.ref c) ct)
theorem Dn.cal (F : Dn K mg x st f fd c) (hb : BindOk x st ps) (S : FnScope N ps (defScope st)) (len : ∀ vs H Q E, sp vs H Q E → vs.length = ps.length)
    (hbody : ∀ (A : Around) (outer : List Env) (s : Shared) (H : Hp) (vs : List V) (Q : VK) (E : XK), Room k (A.deeper (envOfC x (defScope st) s.heap.objs.size f (.ref c))) → sp vs H Q E →
      ∃ t, PSs (CxD P w K mg base N x st f c A outer s H E) (defBody st) t ∧ t { nx := fun _ H' => Q .non H', rt := Q } (start N vs) H) : Cal P w K mg base (k + 1) x sp :=
  ⟨f, fd, ps, [], F.ok S len hbody, F.mgf, F.kp, F.binds hb, .nil⟩
/-- a def that calls itself: by its depth -/
theorem Dn.calRec {sp : Nat → Sp} (F : Dn K mg x st f fd c) (hb : BindOk x st ps) (h0 : ∀ vs H Q E, ¬ sp 0 vs H Q E) (hs : ∀ k, Cal P w K mg base k x (sp k) → FnOk P w K mg base CX0 (k + 1) f fd ps (sp (k + 1))) :
    ∀ k, Cal P w K mg base k x (sp k)
  | 0 => ⟨f, fd, ps, [], ⟨fun vs H Q E h => absurd h (h0 vs H Q E), fun A outer s H args us vs Q E _ _ _ _ h => absurd h (h0 vs H Q E)⟩, F.mgf, F.kp, F.binds hb, .nil⟩
  | k + 1 => ⟨f, fd, ps, [], hs k (Dn.calRec F hb h0 hs k), F.mgf, F.kp, F.binds hb, .nil⟩
/-- a def that calls itself from a generator expression: two levels each -/
theorem Dn.calRec2 {sp : Nat → Sp} (F : Dn K mg x st f fd c) (hb : BindOk x st ps) (h0 : ∀ vs H Q E, ¬ sp 0 vs H Q E) (h1 : ∀ vs H Q E, ¬ sp 1 vs H Q E) (hs : ∀ k, Cal P w K mg base k x (sp k) → FnOk P w K mg base CX0 (k + 2) f fd ps (sp (k + 2))) :
    ∀ k, Cal P w K mg base k x (sp k)
  | 0 => ⟨f, fd, ps, [], ⟨fun vs H Q E h => absurd h (h0 vs H Q E), fun A outer s H args us vs Q E _ _ _ _ h => absurd h (h0 vs H Q E)⟩, F.mgf, F.kp, F.binds hb, .nil⟩
  | 1 => ⟨f, fd, ps, [], ⟨fun vs H Q E h => absurd h (h1 vs H Q E), fun A outer s H args us vs Q E _ _ _ _ h => absurd h (h1 vs H Q E)⟩, F.mgf, F.kp, F.binds hb, .nil⟩
  | k + 2 => ⟨f, fd, ps, [], hs k (Dn.calRec2 F hb h0 h1 hs k), F.mgf, F.kp, F.binds hb, .nil⟩
end
theorem Room.gen {A : Around} {k : Nat} {cenv : Env} (h : Room (k + 1) A) : Room k (A.in1.in1.deeper cenv) :=
  ⟨h.hd, by have := h.dp; show A.depth + 1 + 3 * k + 5 < _; omega, by have := h.un; show A.units + 1 + 1 + 3 + 16 * k + 200 < _; omega⟩
theorem Cal.mono {P : Program} {w : World} {K : PySem.W.Frag} {mg : Str → Option Value} {base : Heap} {j k : Nat} {x : Str} {sp : Sp} (h : Cal P w K mg base j x sp) (hk : j ≤ k) : Cal P w K mg base k x sp := by
  obtain ⟨f, fd, ps, ds, F, r⟩ := h
  exact ⟨f, fd, ps, ds, ⟨F.len, fun A outer s H args us vs Q E hr => F.run A outer s H args us vs Q E (hr.mono hk)⟩, r⟩
end Sq
set_option Elab.async false
set_option linter.all false
set_option maxRecDepth 100000
set_option maxHeartbeats 2000000
namespace Sq
open PySem PySem.Spec PyProof.Rows L2
/-! ### the items of a tuple, as a function -/
def WrT (K : PySem.W.Frag) (a : Addr) (xs : List V) : Prop := ∃ (o : Obj) (its : Array Value) (n : Nat), K.lookup a = some o ∧ o.cls = .type "tuple" ∧ o.data = .seq its n ∧ its.size ≤ sizeLine ∧ Vals xs its.toList
theorem WrT.inj {K : PySem.W.Frag} {a : Addr} {xs ys : List V} (h : WrT K a xs) (h' : WrT K a ys) : xs = ys := by
  obtain ⟨o, its, n, e, _, d, _, r⟩ := h
  obtain ⟨o', its', n', e', _, d', _, r'⟩ := h'
  rw [e] at e'; cases e'
  rw [d] at d'; cases d'
  exact r.inj r'
open Classical in
noncomputable def tupF (K : PySem.W.Frag) (H : Hp) (a : Addr) : Option (List V) :=
  if h : ∃ xs, WrT K a xs then some (Classical.choose h) else match H a with
    | some (.tup xs) => some xs
    | some (.frz _ (.tup xs)) => some xs
    | _ => none
theorem tupF_wr {K : PySem.W.Frag} {H : Hp} {a : Addr} {xs : List V} (h : WrT K a xs) : tupF K H a = some xs := by
  have hx : ∃ xs, WrT K a xs := ⟨xs, h⟩
  unfold tupF
  rw [dif_pos hx]
  exact congrArg some ((Classical.choose_spec hx).inj h)
theorem tupF_sq {K : PySem.W.Frag} {H : Hp} {a : Addr} {xs : List V} (h : tupF K H a = some xs) : SqT K H a xs := by
  unfold tupF at h
  split at h
  · rename_i hx
    cases h
    exact .inr (Classical.choose_spec hx)
  · split at h
    · rename_i e; cases h; exact .inl (.inl e)
    · rename_i o _ e; cases h; exact .inl (.inr ⟨o, e⟩)
    · cases h
theorem tupF_ext {K : PySem.W.Frag} {S : List Addr} {H H' : Hp} {a : Addr} {xs : List V} (e : Ext S H H') (h : tupF K H a = some xs) : tupF K H' a = some xs := by
  unfold tupF at h ⊢
  split at h
  · rename_i hx
    rw [dif_pos hx]; exact h
  · rename_i hx
    rw [dif_neg hx]
    split at h
    · rename_i q; cases h; rw [e.tup _ _ q]
    · rename_i q; cases h; rw [e.frz _ _ _ q]
    · cases h
theorem tupF_at {K : PySem.W.Frag} {H : Hp} {p : Addr} {xs : List V} (n : K.lookup p = none) (e : H p = some (.tup xs)) : tupF K H p = some xs := by
  unfold tupF
  rw [dif_neg (fun ⟨ys, o, its, k, h, _⟩ => by rw [n] at h; cases h), e]
/-- a new tuple -/
theorem tupF_new {K : PySem.W.Frag} {H : Hp} {p : Addr} {xs : List V} (n : ∀ ys, ¬ WrT K p ys) : tupF K (upd H p (.tup xs)) p = some xs := by
  unfold tupF
  rw [dif_neg (fun ⟨ys, h⟩ => n ys h), upd_same]

/-! ### data of tuples: it never changes -/
mutual
inductive Td (K : PySem.W.Frag) (H : Hp) : V → PyData → Prop
  | non : Td K H .non .none
  | bl (b : Bool) : Td K H (.bl b) (.bool b)
  | int (i : Int) : Td K H (.int i) (.int i)
  | str (x : Str) : Td K H (.str x) (.str x)
  | tup {a : Addr} {xs : List V} {ds : List PyData} : tupF K H a = some xs → TdAll K H xs ds → Td K H (.ref a) (.tuple ds)
inductive TdAll (K : PySem.W.Frag) (H : Hp) : List V → List PyData → Prop
  | nil : TdAll K H [] []
  | cons {v : V} {vs : List V} {d : PyData} {ds : List PyData} : Td K H v d → TdAll K H vs ds → TdAll K H (v :: vs) (d :: ds)
end
mutual
theorem Td.ext {K : PySem.W.Frag} {S : List Addr} {H H' : Hp} {v : V} {d : PyData} (e : Ext S H H') : Td K H v d → Td K H' v d
  | .non => .non
  | .bl b => .bl b
  | .int i => .int i
  | .str x => .str x
  | .tup h r => .tup (tupF_ext e h) (TdAll.ext e r)
theorem TdAll.ext {K : PySem.W.Frag} {S : List Addr} {H H' : Hp} {vs : List V} {ds : List PyData} (e : Ext S H H') : TdAll K H vs ds → TdAll K H' vs ds
  | .nil => .nil
  | .cons h r => .cons (Td.ext e h) (TdAll.ext e r)
end
mutual
theorem Td.dp {K : PySem.W.Frag} {H : Hp} {v : V} {d : PyData} : Td K H v d → Dp K H v d
  | .non => .non
  | .bl b => .bl b
  | .int i => .int i
  | .str x => .str x
  | .tup h r => .tup (tupF_sq h) (TdAll.dp r)
theorem TdAll.dp {K : PySem.W.Frag} {H : Hp} {vs : List V} {ds : List PyData} : TdAll K H vs ds → DpAll K H vs ds
  | .nil => .nil
  | .cons h r => .cons (Td.dp h) (TdAll.dp r)
end
theorem TdAll.length {K : PySem.W.Frag} {H : Hp} : ∀ {vs : List V} {ds : List PyData}, TdAll K H vs ds → vs.length = ds.length
  | _, _, .nil => rfl
  | _, _, .cons _ r => congrArg Nat.succ r.length
theorem TdAll.get {K : PySem.W.Frag} {H : Hp} : ∀ {vs : List V} {ds : List PyData} {i : Nat} {v : V}, TdAll K H vs ds → vs[i]? = some v → ∃ d, ds[i]? = some d ∧ Td K H v d
  | _, _, 0, _, .cons h _, e => ⟨_, rfl, by cases e; exact h⟩
  | _, _, _ + 1, _, .cons _ r, e => r.get (by simpa using e)
theorem TdAll.getD {K : PySem.W.Frag} {H : Hp} : ∀ {vs : List V} {ds : List PyData} {i : Nat} {d : PyData}, TdAll K H vs ds → ds[i]? = some d → ∃ v, vs[i]? = some v ∧ Td K H v d
  | _, _, 0, _, .cons h _, e => ⟨_, rfl, by cases e; exact h⟩
  | _, _, _ + 1, _, .cons _ r, e => r.getD (by simpa using e)
theorem TdAll.append {K : PySem.W.Frag} {H : Hp} : ∀ {vs ws : List V} {ds es : List PyData}, TdAll K H vs ds → TdAll K H ws es → TdAll K H (vs ++ ws) (ds ++ es)
  | _, _, _, _, .nil, s => s
  | _, _, _, _, .cons h r, s => .cons h (r.append s)
theorem TdAll.drop {K : PySem.W.Frag} {H : Hp} : ∀ (n : Nat) {vs : List V} {ds : List PyData}, TdAll K H vs ds → TdAll K H (vs.drop n) (ds.drop n)
  | 0, _, _, r => r
  | _ + 1, _, _, .nil => .nil
  | n + 1, _, _, .cons _ r => r.drop n
theorem TdAll.take {K : PySem.W.Frag} {H : Hp} : ∀ (n : Nat) {vs : List V} {ds : List PyData}, TdAll K H vs ds → TdAll K H (vs.take n) (ds.take n)
  | 0, _, _, _ => .nil
  | _ + 1, _, _, .nil => .nil
  | n + 1, _, _, .cons h r => .cons h (r.take n)
theorem TdAll.snoc {K : PySem.W.Frag} {H : Hp} {vs : List V} {ds : List PyData} {v : V} {d : PyData} (r : TdAll K H vs ds) (h : Td K H v d) : TdAll K H (vs ++ [v]) (ds ++ [d]) := r.append (.cons h .nil)
/-- what is written is not tracked -/
def NK (K : PySem.W.Frag) (H : Hp) : Prop := ∀ b o, K.lookup b = some o → H b = none
theorem inv_nk {X : Cx} {pins : List (Addr × Obj)} {σ : L2.St} {H : Hp} {s : Shared} (I : Inv X pins σ H s) : NK X.K H := fun b o e => (I.bs b o (I.ok.mod.kin b o e)).2
theorem NK.at {K : PySem.W.Frag} {H : Hp} {p : Addr} {o : HO} (n : NK K H) (e : H p = some o) : K.lookup p = none := by
  cases h : K.lookup p with
  | none => rfl
  | some u => rw [n p u h] at e; cases e
theorem ep_nk {X : Cx} {pins : List (Addr × Obj)} {σ : L2.St} {Q : VK} {u : Value} {s : Shared} (h : EP X pins σ (fun v H => NK X.K H → Q v H) u s) : EP X pins σ Q u s :=
  let ⟨v, H, I, r, q⟩ := h; ⟨v, H, I, r, q (inv_nk I)⟩
theorem PE.nk {X : Cx} {e : Expr} {t : TE} (h : PE X e t) : PE X e (fun σ H Q => t σ H fun v H' => NK X.K H' → Q v H') :=
  ⟨fun pins s σ H Q I q => thn (h.run pins s σ H _ I q) fun _ _ x => ep_nk x⟩
theorem OpR.nk {X : Cx} {f : Value → Value → Sem Value} {r : R2} (h : OpR X f r) : OpR X f (fun x y H Q => r x y H fun v H' => NK X.K H' → Q v H') :=
  fun pins s σ H x y v u Q I rx ry q => thn (h pins s σ H x y v u _ I rx ry q) fun _ _ x => ep_nk x
theorem CallR.nk {X : Cx} {f : Value} {r : List V → Hp → VK → Prop} (h : CallR X f r) : CallR X f (fun xs H Q => r xs H fun v H' => NK X.K H' → Q v H') :=
  fun pins s σ H xs us Q I rx q => thn (h pins s σ H xs us _ I rx q) fun _ _ x => ep_nk x
theorem SlR.nk {X : Cx} {r : V → Option Int → Option Int → Hp → VK → Prop} (h : SlR X r) : SlR X (fun x lo hi H Q => r x lo hi H fun v H' => NK X.K H' → Q v H') :=
  fun pins s σ H x v vl vu lo hi sl Q I rx hs pl pu q => by
    obtain ⟨T, id, e1, e2, e3⟩ := h pins s σ H x v vl vu lo hi sl _ I rx hs pl pu q
    exact ⟨T, id, e1, e2, thn e3 fun _ _ x => ep_nk x⟩
theorem MtR.nk {X : Cx} {id : String} {r : V → List V → Hp → VK → Prop} (h : MtR X id r) : MtR X id (fun x xs H Q => r x xs H fun v H' => NK X.K H' → Q v H') :=
  fun pins s σ H x xs v us Q I rx rv q => thn (h pins s σ H x xs v us _ I rx rv q) fun _ _ x => ep_nk x

/-! ### rules that speak of tupF, of what stays, of tracked lists -/
section
variable {X : Cx}
/-- (a, b, ..) -/
def tTupF (K : PySem.W.Frag) (t : TA) : TE := fun σ H Q => t σ H fun xs H1 => xs.length ≤ sizeLine ∧ ∀ p H2, Ext [] H1 H2 → tupF K H2 p = some xs → Q (.ref p) H2
theorem pe_tupF {es : List Expr} {x1 : Nat} {pos : Pos} {t : TA} (h : PA X es t) : PE X (.Tuple es x1 pos) (tTupF X.K t) := by
  refine ⟨fun pins s σ H Q I hq => ?_⟩
  refine wpAny_Tuple_spliced (thn (h.run pos pins s σ H _ I hq) fun us s1 ⟨xs, H1, I1, r, z, q⟩ => ⟨by rw [← r.length]; exact z, ?_⟩)
  have hf : H1 s1.heap.objs.size = none := I1.hok.fresh (Nat.le_refl _)
  refine ep_nk ⟨.ref s1.heap.objs.size, upd H1 s1.heap.objs.size (.tup xs), I1.laid (t' := s1.toks) (fun b u e => Heap.get?_push_of_some _ e) (Nat.le_refl _) ?_, rfl, fun n => q _ _ (Ext.new hf) (tupF_at (NK.at n upd_same) upd_same)⟩
  exact ⟨z, us, r, ⟨_, Heap.get?_push_size _ rfl, rfl, _, rfl⟩⟩
/-- [a, b, ..] -/
def tLstF (t : TA) : TE := fun σ H Q => t σ H fun xs H1 => xs.length ≤ sizeLine ∧ ∀ p H2, H1 p = none → Ext [] H1 H2 → H2 p = some (.lst xs) → Q (.ref p) H2
theorem pe_lstF {es : List Expr} {pos : Pos} {t : TA} (h : PA X es t) : PE X (.List es pos) (tLstF t) := by
  refine ⟨fun pins s σ H Q I hq => ?_⟩
  refine wpAny_List_spliced (thn (h.run pos pins s σ H _ I hq) fun us s1 ⟨xs, H1, I1, r, z, q⟩ => ⟨by rw [← r.length]; exact z, ?_⟩)
  have hf : H1 s1.heap.objs.size = none := I1.hok.fresh (Nat.le_refl _)
  refine ⟨.ref s1.heap.objs.size, upd H1 s1.heap.objs.size (.lst xs), I1.laid (t' := s1.toks) (fun b u e => Heap.get?_push_of_some _ e) (Nat.le_refl _) ?_, rfl, q _ _ hf (Ext.new hf) upd_same⟩
  exact ⟨z, us, 0, r, Heap.get?_push_size _ rfl⟩
/-- t[i], xs[i] -/
def rIxF (K : PySem.W.Frag) : R2 := fun x y H Q => ∃ p xs i v, x = .ref p ∧ y = .int i ∧ tupF K H p = some xs ∧ atI xs i = some v ∧ Q v H
theorem ix_tupF : IxR X (rIxF X.K) := fun value slice pins s σ H x y v u Q I rx ry ⟨p, xs, i, z, e1, e2, h, e3, q⟩ hs => ix_tup value slice pins s σ H x y v u Q I rx ry ⟨p, xs, i, z, e1, e2, tupF_sq h, e3, q⟩ hs
def rIxG : R2 := fun x y H Q => ∃ p xs i v, x = .ref p ∧ y = .int i ∧ H p = some (.lst xs) ∧ atI xs i = some v ∧ Q v H
theorem ix_lstF : IxR X rIxG := fun value slice pins s σ H x y v u Q I rx ry ⟨p, xs, i, z, e1, e2, h, e3, q⟩ hs => ix_list value slice pins s σ H x y v u Q I rx ry ⟨p, xs, i, z, e1, e2, SqL.of h, e3, q⟩ hs
/-- xs[i] = v -/
def rSetF : V → V → V → Hp → (Hp → Prop) → Prop := fun o i v H Q => ∃ p xs k j, o = .ref p ∧ i = .int k ∧ H p = some (.lst xs) ∧ ixN xs.length k = some j ∧ ∀ H2, Ext [p] H H2 → H2 p = some (.lst (xs.set j v)) → Q H2
theorem set_lstF : PSet X rSetF := fun pins s σ H o i v ov iv u Q I ro ri rv ⟨p, xs, k, j, e1, e2, h, e3, q⟩ => set_list pins s σ H o i v ov iv u Q I ro ri rv ⟨p, xs, k, j, e1, e2, h, e3, q _ (Ext.setL List.mem_cons_self h) upd_same⟩
/-- t[lo:hi] -/
def rSlF (K : PySem.W.Frag) : V → Option Int → Option Int → Hp → VK → Prop := fun x lo hi H Q => ∃ a xs, x = .ref a ∧ tupF K H a = some xs ∧ ∀ p H2, Ext [] H H2 → tupF K H2 p = some (cutV xs lo hi) → Q (.ref p) H2
theorem cutV_whole {xs : List V} {lo hi : Option Int} (h : HT.sIx xs.length 0 lo = 0 ∧ HT.sIx xs.length xs.length hi = xs.length) : cutV xs lo hi = xs := by
  unfold cutV
  rw [h.1, h.2, List.drop_zero, Nat.sub_zero, List.take_length]
theorem sl_tupF : SlR X (rSlF X.K) := fun pins s σ H x v vl vu lo hi sl Q I rx hs pl pu ⟨a, xs, e1, h, q⟩ =>
  (SlR.nk sl_tupA) pins s σ H x v vl vu lo hi sl Q I rx hs pl pu ⟨a, xs, e1, tupF_sq h, fun hw _ => q a H (Ext.refl _ _) (by rw [cutV_whole hw]; exact h), fun _ p hp n => q p _ (Ext.new hp) (tupF_at (NK.at n upd_same) upd_same)⟩
/-- t + u -/
def rCatF (K : PySem.W.Frag) : R2 := fun x y H Q => ∃ a b xs ys, x = .ref a ∧ y = .ref b ∧ tupF K H a = some xs ∧ tupF K H b = some ys ∧ xs.length + ys.length ≤ sizeLine ∧ ∀ p H2, Ext [] H H2 → tupF K H2 p = some (xs ++ ys) → Q (.ref p) H2
theorem op_catF : OpR X (binaryOp .Add) (rCatF X.K) := fun pins s σ H x y v u Q I rx ry ⟨a, b, xs, ys, e1, e2, ha, hb, hz, q⟩ =>
  (OpR.nk op_catA) pins s σ H x y v u Q I rx ry ⟨a, b, xs, ys, e1, e2, tupF_sq ha, tupF_sq hb, hz, fun h0 _ => q b H (Ext.refl _ _) (by rw [h0]; exact hb), fun _ h0 _ => q a H (Ext.refl _ _) (by rw [h0, List.append_nil]; exact ha), fun _ _ p hp n => q p _ (Ext.new hp) (tupF_at (NK.at n upd_same) upd_same)⟩
/-- xs + ys -/
def rCatL : R2 := fun x y H Q => ∃ l b xs zs, x = .ref l ∧ y = .ref b ∧ H l = some (.lst xs) ∧ H b = some (.lst zs) ∧ xs.length + zs.length ≤ sizeLine ∧ ∀ p H2, H p = none → Ext [] H H2 → H2 p = some (.lst (xs ++ zs)) → Q (.ref p) H2
theorem op_catL : OpR X (binaryOp .Add) rCatL := fun pins s σ H x y v u Q I rx ry ⟨a, b, xs, ys, e1, e2, ha, hb, hz, q⟩ => op_cat pins s σ H x y v u Q I rx ry ⟨a, b, xs, ys, e1, e2, ha, hb, hz, fun p hp => q p _ hp (Ext.new hp) upd_same⟩
/-- tuple(a list) -/
def rTupL (K : PySem.W.Frag) : List V → Hp → VK → Prop := fun xs H Q => ∃ p ys, xs = [.ref p] ∧ H p = some (.lst ys) ∧ ∀ q H2, Ext [] H H2 → tupF K H2 q = some ys → Q (.ref q) H2
theorem call_tupleL : CallR X (.type "tuple") (rTupL X.K) := fun pins s σ H xs us Q I r ⟨p, ys, e, h, q⟩ =>
  (CallR.nk call_tuple_of) pins s σ H xs us Q I r ⟨p, ys, e, .inl ⟨SqL.of h, fun l hl n => q l _ (Ext.new hl) (tupF_at (NK.at n upd_same) upd_same)⟩⟩
/-- list(a tuple), list(a list) -/
def rListT (K : PySem.W.Frag) : List V → Hp → VK → Prop := fun xs H Q => ∃ p ys, xs = [.ref p] ∧ tupF K H p = some ys ∧ ∀ q H2, H q = none → Ext [] H H2 → H2 q = some (.lst ys) → Q (.ref q) H2
theorem call_listT : CallR X (.type "list") (rListT X.K) := fun pins s σ H xs us Q I r ⟨p, ys, e, h, q⟩ => call_list_of pins s σ H xs us Q I r ⟨p, ys, e, .inr (tupF_sq h), fun l hl => q l _ hl (Ext.new hl) upd_same⟩
def rListL : List V → Hp → VK → Prop := fun xs H Q => ∃ p ys, xs = [.ref p] ∧ H p = some (.lst ys) ∧ ∀ q H2, H q = none → Ext [] H H2 → H2 q = some (.lst ys) → Q (.ref q) H2
theorem call_listL : CallR X (.type "list") rListL := fun pins s σ H xs us Q I r ⟨p, ys, e, h, q⟩ => call_list_of pins s σ H xs us Q I r ⟨p, ys, e, .inl (SqL.of h), fun l hl => q l _ hl (Ext.new hl) upd_same⟩
/-- len -/
def rLenT (K : PySem.W.Frag) : List V → Hp → VK → Prop := fun xs H Q => ∃ p ys, xs = [.ref p] ∧ tupF K H p = some ys ∧ Q (.int ys.length) H
theorem call_lenT : CallR X (.builtin "len") (rLenT X.K) := fun pins s σ H xs us Q I r ⟨p, ys, e, h, q⟩ => call_len_seq pins s σ H xs us Q I r ⟨p, ys, e, .inr (tupF_sq h), q⟩
def rLenL : List V → Hp → VK → Prop := fun xs H Q => ∃ p ys, xs = [.ref p] ∧ H p = some (.lst ys) ∧ Q (.int ys.length) H
theorem call_lenL : CallR X (.builtin "len") rLenL := fun pins s σ H xs us Q I r ⟨p, ys, e, h, q⟩ => call_len_seq pins s σ H xs us Q I r ⟨p, ys, e, .inl (SqL.of h), q⟩
/-- a, b = t -/
def gTupF (K : PySem.W.Frag) (n : Nat) (t : TGs) : TG := fun v σ H Q => ∃ a xs, v = .ref a ∧ tupF K H a = some xs ∧ xs.length = n ∧ t xs σ H Q
theorem pg_tupF {es : List Expr} {k : Nat} {pos : Pos} {t : TGs} {n : Nat} (hc : X.calm = true) (h : PGs X es t)
    (hn : (assignEach es X.env).length = n := by rfl) (hst : (assignEach es X.env).findIdx? (·.1) = none := by rfl) : PG X (.Tuple es k pos) (gTupF X.K n t) :=
  ⟨fun pins s σ H v u Q I r ⟨a, xs, e1, hq, hl, hw⟩ => (pg_tup hc h hn hst).run pins s σ H v u Q I r ⟨a, xs, e1, tupF_sq hq, hl, hw⟩⟩
/-- a tuple is walked -/
def iTupF (K : PySem.W.Frag) (tl : TE) : TI := fun σ H R => tl σ H fun x H1 => ∃ a xs, x = .ref a ∧ tupF K H1 a = some xs ∧ R (Itt K a) H1
theorem pi_tupF {tg l : Expr} {tl : TE} (hl : PE X l tl) : PI X tg l (iTupF X.K tl) := by
  refine ⟨fun pins s σ H R I h => ?_⟩
  refine thn (hl.run pins s σ H _ I h) fun v s1 ⟨x, H1, I1, r1, q1⟩ => ?_
  obtain ⟨a, xs, e, hq, q⟩ := q1
  subst e
  cases r1
  obtain ⟨its, rv, p, hz⟩ := I1.tuple (tupF_sq hq)
  refine wpAny_pyIter_tuple (show s1.heap.IsTuple a its.toArray from p) ?_
  refine ⟨s1.heap.objs.size, [s1.heap.objs.size], _, _, H1, rfl, I1.kept (t' := s1.toks) fun b o e => Heap.get?_push_of_some _ e, turn_tuple a _, ⟨_, Heap.get?_push_size _ rfl, rfl, rfl⟩, fun b hb => ?_, q⟩
  have e : b = s1.heap.objs.size := by simpa using hb
  subst e
  exact I1.fpOk (Nat.le_refl _) (I1.hok.fresh (Nat.le_refl _))
/-- a list is walked -/
def iLstF (tl : TE) : PySem.W.Frag → TI := fun K σ H R => tl σ H fun x H1 => ∃ a xs, x = .ref a ∧ H1 a = some (.lst xs) ∧ R (Itl K a) H1
theorem pi_lstF {tg l : Expr} {tl : TE} (hl : PE X l tl) : PI X tg l (iLstF tl X.K) := by
  refine ⟨fun pins s σ H R I h => ?_⟩
  refine thn (hl.run pins s σ H _ I h) fun v s1 ⟨x, H1, I1, r1, q1⟩ => ?_
  obtain ⟨a, xs, e, hq, q⟩ := q1
  subst e
  cases r1
  obtain ⟨its, rv, p, hz⟩ := I1.list (SqL.of hq)
  refine wpAny_pyIter_list p.isList ?_
  refine ⟨s1.heap.objs.size, [s1.heap.objs.size], _, _, H1, rfl, I1.kept (t' := s1.toks) fun b o e => Heap.get?_push_of_some _ e, turn_list a _, ⟨_, Heap.get?_push_size _ rfl, rfl, rfl⟩, fun b hb => ?_, q⟩
  have e : b = s1.heap.objs.size := by simpa using hb
  subst e
  exact I1.fpOk (Nat.le_refl _) (I1.hok.fresh (Nat.le_refl _))
/-- xs.append(y), xs.extend(ys), xs.pop() -/
def rAppF : V → List V → Hp → VK → Prop := fun x vs H Q => ∃ l xs y, x = .ref l ∧ vs = [y] ∧ H l = some (.lst xs) ∧ xs.length < sizeLine ∧ ∀ H2, Ext [l] H H2 → H2 l = some (.lst (xs ++ [y])) → Q .non H2
theorem mt_appF : MtM X "list.append" rAppF := fun pins s σ H x xs v us Q I rx rv ⟨l, ys, y, e1, e2, h, hz, q⟩ => mt_append pins s σ H x xs v us Q I rx rv ⟨l, ys, y, e1, e2, h, hz, q _ (Ext.setL List.mem_cons_self h) upd_same⟩
def rExtF : V → List V → Hp → VK → Prop := fun x vs H Q => ∃ l b xs zs, x = .ref l ∧ vs = [.ref b] ∧ H l = some (.lst xs) ∧ H b = some (.lst zs) ∧ xs.length + zs.length ≤ sizeLine ∧ ∀ H2, Ext [l] H H2 → H2 l = some (.lst (xs ++ zs)) → Q .non H2
theorem mt_extF : MtM X "list.extend" rExtF := fun pins s σ H x xs v us Q I rx rv ⟨l, b, ys, zs, e1, e2, h, hb, hz, q⟩ => mt_extend pins s σ H x xs v us Q I rx rv ⟨l, b, ys, zs, e1, e2, h, hb, hz, q _ (Ext.setL List.mem_cons_self h) upd_same⟩
def rPopF : V → List V → Hp → VK → Prop := fun x vs H Q => ∃ l xs y, x = .ref l ∧ vs = [] ∧ H l = some (.lst xs) ∧ xs[xs.length - 1]? = some y ∧ ∀ H2, Ext [l] H H2 → H2 l = some (.lst xs.dropLast) → Q y H2
theorem mt_popF : MtM X "list.pop" rPopF := fun pins s σ H x xs v us Q I rx rv ⟨l, ys, y, e1, e2, h, hy, q⟩ => mt_pop pins s σ H x xs v us Q I rx rv ⟨l, ys, y, e1, e2, h, hy, q _ (Ext.setL List.mem_cons_self h) upd_same⟩
theorem tyV_lst {K : PySem.W.Frag} {H : Hp} {p : Addr} {xs : List V} (h : H p = some (.lst xs)) : tyV K "list" (.ref p) H := .inl ⟨rfl, _, SqL.of h⟩
/-- a == b, a != b of data of tuples -/
def rEqF (K : PySem.W.Frag) (neg : Bool) : R2 := fun x y H Q => ∃ d e, Td K H x d ∧ Td K H y e ∧ SeqAt.shaped d = true ∧ SeqAt.shaped e = true ∧ Q (.bl (if neg then !PyData.eqv d e else PyData.eqv d e)) H
theorem op_eqF (hu : X.A.units + 64 < cLine) : OpR X (compareOp .Eq) (rEqF X.K false) := fun pins s σ H x y v u Q I rx ry ⟨d, e, h1, h2, h3, h4, q⟩ => op_eqD hu pins s σ H x y v u Q I rx ry ⟨d, e, h1.dp, h2.dp, h3, h4, q⟩
theorem op_neF (hu : X.A.units + 64 < cLine) : OpR X (compareOp .NotEq) (rEqF X.K true) := fun pins s σ H x y v u Q I rx ry ⟨d, e, h1, h2, h3, h4, q⟩ => op_neD hu pins s σ H x y v u Q I rx ry ⟨d, e, h1.dp, h2.dp, h3, h4, q⟩
end
end Sq
set_option Elab.async false
set_option linter.all false
set_option maxRecDepth 100000
set_option maxHeartbeats 2000000
namespace Sq
open PySem PySem.Spec PyProof.Rows L2
/-! ### small equivalences for readings -/
theorem ex1 {α : Type} {a : α} {p : α → Prop} : (∃ x, a = x ∧ p x) ↔ p a := ⟨fun ⟨x, e, h⟩ => e ▸ h, fun h => ⟨a, rfl, h⟩⟩
theorem ex1' {α : Type} {a : α} {p : α → Prop} : (∃ x, x = a ∧ p x) ↔ p a := ⟨fun ⟨x, e, h⟩ => e ▸ h, fun h => ⟨a, rfl, h⟩⟩
theorem exI {a : Int} {p : Int → Prop} : (∃ x, V.int a = V.int x ∧ p x) ↔ p a := ⟨fun ⟨x, e, h⟩ => by cases e; exact h, fun h => ⟨a, rfl, h⟩⟩
theorem exI2 {a b : Int} {p : Int → Int → Prop} : (∃ x y, V.int a = V.int x ∧ V.int b = V.int y ∧ p x y) ↔ p a b := ⟨fun ⟨x, y, e, e', h⟩ => by cases e; cases e'; exact h, fun h => ⟨a, b, rfl, rfl, h⟩⟩
theorem exB {a : Bool} {p : Bool → Prop} : (∃ x, V.bl a = V.bl x ∧ p x) ↔ p a := ⟨fun ⟨x, e, h⟩ => by cases e; exact h, fun h => ⟨a, rfl, h⟩⟩
theorem exS {a : Str} {p : Str → Prop} : (∃ x, V.str a = V.str x ∧ p x) ↔ p a := ⟨fun ⟨x, e, h⟩ => by cases e; exact h, fun h => ⟨a, rfl, h⟩⟩
theorem exR {a : Addr} {p : Addr → Prop} : (∃ x, V.ref a = V.ref x ∧ p x) ↔ p a := ⟨fun ⟨x, e, h⟩ => by cases e; exact h, fun h => ⟨a, rfl, h⟩⟩
theorem exSl {v : V} {p : V → Prop} : (∃ x, some (some v) = some (some x) ∧ p x) ↔ p v := ⟨fun ⟨x, e, h⟩ => by cases e; exact h, fun h => ⟨v, rfl, h⟩⟩
section
variable {α : Type} {a b c d : α} {r : List α}
theorem at_ix {xs : List α} {k : Nat} (h : k < xs.length) : atI xs ((k : Nat) : Int) = xs[k]? := by
  unfold atI ixN
  rw [if_pos (by omega), if_pos (by omega)]
  rfl
theorem atI_0 : atI (a :: r) (0 : Int) = some a := at_ix (k := 0) (by simp)
theorem atI_1 : atI (a :: b :: r) (1 : Int) = some b := at_ix (k := 1) (by simp)
theorem atI_2 : atI (a :: b :: c :: r) (2 : Int) = some c := at_ix (k := 2) (by simp)
theorem atI_3 : atI (a :: b :: c :: d :: r) (3 : Int) = some d := at_ix (k := 3) (by simp)
theorem ixN_k {n k : Nat} (h : k < n) : ixN n ((k : Nat) : Int) = some k := by
  unfold ixN
  rw [if_pos (by omega), if_pos (by omega)]
  rfl
theorem ixN_0 {n : Nat} : ixN (n + 1) (0 : Int) = some 0 := ixN_k (k := 0) (by omega)
theorem ixN_1 {n : Nat} : ixN (n + 1 + 1) (1 : Int) = some 1 := ixN_k (k := 1) (by omega)
theorem ixN_2 {n : Nat} : ixN (n + 1 + 1 + 1) (2 : Int) = some 2 := ixN_k (k := 2) (by omega)
end
theorem cutV_from {xs : List V} {k : Nat} : cutV xs (some ((k : Nat) : Int)) none = xs.drop k := by
  unfold cutV
  rw [HT.sIx_nat, HT.sIx_none]
  by_cases h : k ≤ xs.length
  · rw [Nat.min_eq_left h, ← List.length_drop, List.take_length]
  · rw [Nat.min_eq_right (by omega), List.drop_eq_nil_of_le (by omega), List.drop_eq_nil_of_le (by omega), List.take_nil]
theorem cutV_to {xs : List V} {k : Nat} : cutV xs none (some ((k : Nat) : Int)) = xs.take k := by
  unfold cutV
  rw [HT.sIx_nat, HT.sIx_none, List.drop_zero, Nat.sub_zero]
  by_cases h : k ≤ xs.length
  · rw [Nat.min_eq_left h]
  · rw [Nat.min_eq_right (by omega), List.take_length, List.take_of_length_le (by omega)]
theorem cutV_1 {x : V} {xs : List V} : cutV (x :: xs) (some 1) none = xs := cutV_from (k := 1)
theorem cutV_2 {x y : V} {xs : List V} : cutV (x :: y :: xs) (some 2) none = xs := cutV_from (k := 2)
end Sq
set_option Elab.async false
set_option linter.all false
set_option maxRecDepth 100000
set_option maxHeartbeats 2000000
namespace Sq
open PySem PySem.Spec PyProof.Rows L2
/-! ### a list made by a comprehension -/
/-- behind the walked thing's making -/
def LcB (J : It) (g : TG) (tt : TT) (te : TE) (vs : List Nat) (σ : L2.St) (H1 : Hp) (Q : VK) : Prop := ∀ D, H1 D = none → ∃ W : Nat → Nat → Hp → Prop, (∃ m, W 0 m (upd H1 D (.lst []))) ∧ ∀ i m H, W i m H →
  (J.stop i H ∧ Q (.ref D) H) ∨ (J.go i H ∧ ∃ Nx : Hp → Prop, (∀ H', Nx H' → ∃ m', m' < m ∧ W (i + 1) m' H') ∧ ∀ x H', J.yld i H x H' → g x (wipe σ vs) H' fun σ2 H2 => wipe σ2 vs = wipe σ vs ∧ tt σ2 H2 fun b H3 =>
    if b = true then te σ2 H3 fun y H4 => ∃ acc, H4 D = some (.lst acc) ∧ acc.length < sizeLine ∧ Nx (upd H4 D (.lst (acc ++ [y]))) else Nx H3)
def tLcF (wi : TI) (g : TG) (tt : TT) (te : TE) (vs : List Nat) : TE := fun σ H Q => wi σ H fun J H1 => LcB J g tt te vs σ H1 Q
theorem pe_lcF {X : Cx} {elt tg iter : Expr} {ifs : List Expr} {scope : Scope} {own : List (Str × Nat)} {pos : Pos} {wi : TI} {g : TG} {tt : TT} {te : TE} (hc : X.calm = true) (hN : X.N.Nodup) (hi : PI X tg iter wi) (ok : BlkOk X.N X.env.scope scope own)
    (hg : ∀ (s : Shared) (H : Hp) (C : Addr) (cl : List (Str × Addr)) (fp : List Addr), PG (X.blk s H scope (compEnvC scope cl C X.env) fp) tg g) (ht : ∀ (s : Shared) (H : Hp) (C : Addr) (cl : List (Str × Addr)) (fp : List Addr), PTs (X.blk s H scope (compEnvC scope cl C X.env) fp) ifs tt)
    (he : ∀ (s : Shared) (H : Hp) (C : Addr) (cl : List (Str × Addr)) (fp : List Addr), PE (X.blk s H scope (compEnvC scope cl C X.env) fp) elt te) (hs : ∀ x, foldedSetIterable iter X.env x = pure x := by intro _; rfl) :
    PE X (.ListComp elt [⟨tg, iter, ifs, 0⟩] scope pos) (tLcF wi g tt te (own.map (·.2))) := pe_lc hc hN hi ok hg ht he hs
theorem ps_setLcF {X : Cx} {i : Nat} {y : Str} {py : Pos} {elt tg iter : Expr} {ifs : List Expr} {scope : Scope} {own : List (Str × Nat)} {pos spos : Pos} {wi : TI} {g : TG} {tt : TT} {te : TE} (hc : X.calm = true) (hN : X.N.Nodup) (hy : X.N[i]? = some y) (hyl : X.env.scope.names.lookup y = some .local)
    (hsw : swapsWith (.ListComp elt [⟨tg, iter, ifs, 0⟩] scope pos) (some (.Name y py)) spos.line X.env = pure true) (hi : PI X tg iter wi) (ok : BlkOk X.N X.env.scope scope own)
    (hg : ∀ (s : Shared) (H : Hp) (C : Addr) (cl : List (Str × Addr)) (fp : List Addr), PG (X.blk s H scope (compEnvC scope cl C X.env) fp) tg g) (ht : ∀ (s : Shared) (H : Hp) (C : Addr) (cl : List (Str × Addr)) (fp : List Addr), PTs (X.blk s H scope (compEnvC scope cl C X.env) fp) ifs tt)
    (he : ∀ (s : Shared) (H : Hp) (C : Addr) (cl : List (Str × Addr)) (fp : List Addr), PE (X.blk s H scope (compEnvC scope cl C X.env) fp) elt te) (hs : ∀ x, foldedSetIterable iter X.env x = pure x := by intro _; rfl) :
    PS X (.Assign [.Name y py] (.ListComp elt [⟨tg, iter, ifs, 0⟩] scope pos) spos) (tAsg (tLcF wi g tt te (own.map (·.2))) (gName i)) := ps_setLc hc hN hy hyl hsw hi ok hg ht he hs
/-- the list at D holds what was made so far -/
def LcN (D : Addr) (Pv : Nat → List V → Hp → Prop) (i : Nat) (H : Hp) : Prop := ∃ ys, ys.length ≤ i ∧ H D = some (.lst ys) ∧ Pv i ys H
theorem lc_end {D : Addr} {Pv : Nat → List V → Hp → Prop} {i : Nat} {ys : List V} {y : V} {H : Hp} (hD : ∀ i ys H zs o, H D = some (.lst zs) → Pv i ys H → Pv i ys (upd H D (.lst o))) (hi : i < 100000) (hl : ys.length ≤ i) (h1 : H D = some (.lst ys)) (h2 : Pv (i + 1) (ys ++ [y]) H) :
    ∃ acc, H D = some (.lst acc) ∧ acc.length < sizeLine ∧ LcN D Pv (i + 1) (upd H D (.lst (acc ++ [y]))) :=
  ⟨ys, h1, Nat.lt_of_le_of_lt hl (Nat.lt_of_lt_of_le hi (by decide)), ys ++ [y], by rw [List.length_append, List.length_singleton]; omega, upd_same, hD _ _ _ _ _ h1 h2⟩
section
variable {K : PySem.W.Frag} {a : Addr} {xs : List V} {g : TG} {tt : TT} {te : TE} {vs : List Nat} {σ : L2.St} {H1 : Hp} {Q : VK}
/-- over anything that is walked -/
theorem lc_go {J : It} {n : Nat} {G : Hp → Prop} {Y : Nat → Hp → V → Hp → Prop} (w : Walk J n G Y) (Pv : Addr → Nat → List V → Hp → Prop) (h0 : ∀ D, H1 D = none → Pv D 0 [] (upd H1 D (.lst [])))
    (hG : ∀ D i ys H, Pv D i ys H → G H)
    (hs : ∀ D i x ys H H', H1 D = none → i < n → Pv D i ys H → ys.length ≤ i → H D = some (.lst ys) → Y i H x H' → g x (wipe σ vs) H' fun σ2 H2 => wipe σ2 vs = wipe σ vs ∧ tt σ2 H2 fun b H3 =>
      if b = true then te σ2 H3 fun y H4 => ∃ acc, H4 D = some (.lst acc) ∧ acc.length < sizeLine ∧ LcN D (Pv D) (i + 1) (upd H4 D (.lst (acc ++ [y]))) else LcN D (Pv D) (i + 1) H3)
    (hd : ∀ D ys H, H1 D = none → Pv D n ys H → H D = some (.lst ys) → ys.length ≤ n → Q (.ref D) H) : LcB J g tt te vs σ H1 Q := fun D hD =>
  lc_it w (LcN D (Pv D)) ⟨[], Nat.le_refl _, upd_same, h0 D hD⟩ (fun i H _ ⟨ys, _, _, p⟩ => hG D i ys H p) (fun i x H H' hi ⟨ys, hl, e, p⟩ y => hs D i x ys H H' hD hi p hl e y) fun H ⟨ys, hl, e, p⟩ => hd D ys H hD p e hl
end
/-! ### a for -/
def ForB (J : It) (g : TG) (tb : TS) (D : Ends) (σ : L2.St) (H1 : Hp) : Prop := ∃ W : Nat → Nat → L2.St → Hp → Prop, (∃ m, W 0 m σ H1) ∧ ∀ i m σ H, W i m σ H →
  (J.stop i H ∧ D.nx σ H) ∨ (J.go i H ∧ ∃ N : L2.St → Hp → Prop, (∀ σ' H', N σ' H' → ∃ m', m' < m ∧ W (i + 1) m' σ' H') ∧ ∀ x H', J.yld i H x H' → g x σ H' fun σ2 H2 => tb { D with nx := N, ct := N, bk := D.nx } σ2 H2)
def tForF (wi : TI) (g : TG) (tb : TS) : TS := fun D σ H => wi σ H fun J H1 => ForB J g tb D σ H1
theorem ps_forF {X : Cx} {tg iter : Expr} {body : List Stmt} {wi : TI} {g : TG} {tb : TS} {pos : Pos} (hp : PassesOwn (model X.prog X.w) X.A X.env X.xe) (hc : X.calm = true) (hi : PI X tg iter wi) (hg : PG X tg g) (hb : PSs X body tb)
    (hs : ∀ x, foldedSetIterable iter X.env x = pure x := by intro _; rfl) : PS X (.For tg iter body [] pos) (tForF wi g tb) := ps_for hp hc hi hg hb hs
theorem for_go {J : It} {n : Nat} {G : Hp → Prop} {Y : Nat → Hp → V → Hp → Prop} (w : Walk J n G Y) {g : TG} {tb : TS} {D : Ends} {σ : L2.St} {H : Hp} (Pv : Nat → L2.St → Hp → Prop) (h0 : Pv 0 σ H) (hG : ∀ i σ H, i ≤ n → Pv i σ H → G H)
    (hs : ∀ i x σ H H', i < n → Pv i σ H → Y i H x H' → g x σ H' fun σ2 H2 => tb { D with nx := Pv (i + 1), ct := Pv (i + 1), bk := D.nx } σ2 H2) (hd : ∀ σ H, Pv n σ H → D.nx σ H) : ForB J g tb D σ H :=
  for_it w Pv h0 hG hs hd
/-! ### all, any, sum -/
def GB {τ : Type} (P : Addr) (J : It) (g : TG) (tt : TT) (te : TE) (vs : List Nat) (t0 : τ) (Cons : τ → V → Hp → (τ → Hp → Prop) → Prop) (Fin : τ → Hp → Prop) (σ : L2.St) (H1 : Hp) : Prop := GxR.TabG H1 P ∧ ∀ H2, GxR.Tabbed P H1 H2 → ∃ W : Nat → Nat → τ → Hp → Prop, (∃ m, W 0 m t0 H2) ∧
  GW J g tt te vs σ W Cons Fin
theorem gen_go {τ : Type} {P : Addr} {J : It} {n : Nat} {G : Hp → Prop} {Y : Nat → Hp → V → Hp → Prop} (w : Walk J n G Y) {g : TG} {tt : TT} {te : TE} {vs : List Nat} {t0 : τ} {Cons : τ → V → Hp → (τ → Hp → Prop) → Prop} {Fin : τ → Hp → Prop} {σ : L2.St} {H1 : Hp}
    (ht : GxR.TabG H1 P) (Pv : Nat → τ → Hp → Prop) (h0 : ∀ H2, Ext [P] H1 H2 → Pv 0 t0 H2) (hG : ∀ i t H, i ≤ n → Pv i t H → G H)
    (hs : ∀ i x t H H', i < n → Pv i t H → Y i H x H' → g x (wipe σ vs) H' fun σ2 H2 => wipe σ2 vs = wipe σ vs ∧ tt σ2 H2 fun b H3 => if b = true then te σ2 H3 fun y H4 => Cons t y H4 (Pv (i + 1)) else Pv (i + 1) t H3)
    (hd : ∀ t H, Pv n t H → Fin t H) : GB P J g tt te vs t0 Cons Fin σ H1 := by
  refine ⟨ht, fun H2 hT => ⟨fun i m t H => m = n - i ∧ i ≤ n ∧ Pv i t H, ⟨n, rfl, Nat.zero_le _, h0 H2 (Ext.tabbed List.mem_cons_self ht hT)⟩, ?_⟩⟩
  rintro i m t H ⟨rfl, hi, p⟩
  by_cases hlt : i < n
  · exact .inr ⟨w.goes i H hlt (hG i t H hi p), Pv (i + 1), fun t' H' p' => ⟨n - (i + 1), by omega, rfl, hlt, p'⟩, fun x H' y => hs i x t H H' hlt p (w.yields i H x H' hlt (hG i t H hi p) y)⟩
  · have e : i = n := by omega
    subst e
    exact .inl ⟨w.stops H (hG _ t H hi p), hd t H p⟩
def tAllF (P : Addr) (wi : TI) (g : TG) (tt : TT) (te : TE) (vs : List Nat) : TE := fun σ H Q => wi σ H fun J H1 => GB P J g tt te vs () (fun _ y H N => ∃ b, y = .bl b ∧ if b = true then N () H else Q (.bl false) H) (fun _ H => Q (.bl true) H) σ H1
def tAnyF (P : Addr) (wi : TI) (g : TG) (tt : TT) (te : TE) (vs : List Nat) : TE := fun σ H Q => wi σ H fun J H1 => GB P J g tt te vs () (fun _ y H N => ∃ b, y = .bl b ∧ if b = true then Q (.bl true) H else N () H) (fun _ H => Q (.bl false) H) σ H1
def tSumF (P : Addr) (wi : TI) (g : TG) (tt : TT) (te : TE) (vs : List Nat) : TE := fun σ H Q => wi σ H fun J H1 => GB P J g tt te vs (0 : Int) (fun t y H N => ∃ j, y = .int j ∧ (InLong j ∧ InLong (t + j)) ∧ N (t + j) H) (fun t H => Q (.int t) H) σ H1

theorem pair_tgt {K : PySem.W.Frag} {t : TGs} {v : V} {σ : L2.St} {H H' : Hp} {Q : L2.St → Hp → Prop} {xs ys : Nat → Option V} {i : Nat} (y : YPair xs ys i H v H') (h : ∀ x y, xs i = some x → ys i = some y → Ext [] H H' → t [x, y] σ H' Q) : gTup K 2 t v σ H' Q := by
  obtain ⟨T, x, y, rfl, hT, rfl, hx, hy⟩ := y
  exact ⟨T, [x, y], rfl, SqT.of upd_same, rfl, h x y hx hy (Ext.new hT)⟩
section
variable {X : Cx}
theorem pe_allF {c P : Addr} {elt tg iter : Expr} {ifs : List Expr} {gpos p pos : Pos} {scope : Scope} {own : List (Str × Nat)} {wi : TI} {g : TG} {tt : TT} {te : TE} {k : Nat}
    (hr : Room k X.A) (hc : X.calm = true) (hN : X.N.Nodup) (hgl : Gl X "all") (hm : X.mg "all" = none) (TB : GxR.TabB X.base X.mg c P) (hcode : X.env.code = .ref c) (hi : PI X tg iter wi) (ok : BlkOk X.N X.env.scope scope own) (hcell : ∀ y ∈ scope.names, y.2 ≠ .cell) (hco : scope.isCoroutine = false) (hdot : scope.names.lookup (".0" : Str) = some NameKind.local)
    (hg : ∀ (s : Shared) (H : Hp) (C : Addr) (code : Value) (fp : List Addr), PG (gCx X s H (gEnv X scope C code) fp) tg g) (ht : ∀ (s : Shared) (H : Hp) (C : Addr) (code : Value) (fp : List Addr), PTs (gCx X s H (gEnv X scope C code) fp) ifs tt)
    (he : ∀ (s : Shared) (H : Hp) (C : Addr) (code : Value) (fp : List Addr), PE (gCx X s H (gEnv X scope C code) fp) elt te)
    (hs : ∀ v, genFold iter X.env v = pure v := by intro _; rfl)
    (hse : starEach [.GeneratorExp elt [⟨tg, iter, ifs, 0⟩] scope gpos] X.env = (false, eval (.GeneratorExp elt [⟨tg, iter, ifs, 0⟩] scope gpos) X.env) :: starEach [] X.env := by rfl) :
    PE X (.Call (.Name "all" p) [.GeneratorExp elt [⟨tg, iter, ifs, 0⟩] scope gpos] [] pos) (tAllF P wi g tt te (own.map (·.2))) := pe_allG hr hc hN hgl hm TB hcode hi ok hcell hco hdot hg ht he hs (by decide +kernel) hse
theorem pe_anyF {c P : Addr} {elt tg iter : Expr} {ifs : List Expr} {gpos p pos : Pos} {scope : Scope} {own : List (Str × Nat)} {wi : TI} {g : TG} {tt : TT} {te : TE} {k : Nat}
    (hr : Room k X.A) (hc : X.calm = true) (hN : X.N.Nodup) (hgl : Gl X "any") (hm : X.mg "any" = none) (TB : GxR.TabB X.base X.mg c P) (hcode : X.env.code = .ref c) (hi : PI X tg iter wi) (ok : BlkOk X.N X.env.scope scope own) (hcell : ∀ y ∈ scope.names, y.2 ≠ .cell) (hco : scope.isCoroutine = false) (hdot : scope.names.lookup (".0" : Str) = some NameKind.local)
    (hg : ∀ (s : Shared) (H : Hp) (C : Addr) (code : Value) (fp : List Addr), PG (gCx X s H (gEnv X scope C code) fp) tg g) (ht : ∀ (s : Shared) (H : Hp) (C : Addr) (code : Value) (fp : List Addr), PTs (gCx X s H (gEnv X scope C code) fp) ifs tt)
    (he : ∀ (s : Shared) (H : Hp) (C : Addr) (code : Value) (fp : List Addr), PE (gCx X s H (gEnv X scope C code) fp) elt te)
    (hs : ∀ v, genFold iter X.env v = pure v := by intro _; rfl)
    (hse : starEach [.GeneratorExp elt [⟨tg, iter, ifs, 0⟩] scope gpos] X.env = (false, eval (.GeneratorExp elt [⟨tg, iter, ifs, 0⟩] scope gpos) X.env) :: starEach [] X.env := by rfl) :
    PE X (.Call (.Name "any" p) [.GeneratorExp elt [⟨tg, iter, ifs, 0⟩] scope gpos] [] pos) (tAnyF P wi g tt te (own.map (·.2))) := pe_anyG hr hc hN hgl hm TB hcode hi ok hcell hco hdot hg ht he hs (by decide +kernel) hse
theorem pe_sumF {c P : Addr} {elt tg iter : Expr} {ifs : List Expr} {gpos p pos : Pos} {scope : Scope} {own : List (Str × Nat)} {wi : TI} {g : TG} {tt : TT} {te : TE} {k : Nat}
    (hr : Room k X.A) (hc : X.calm = true) (hN : X.N.Nodup) (hgl : Gl X "sum") (hm : X.mg "sum" = none) (TB : GxR.TabB X.base X.mg c P) (hcode : X.env.code = .ref c) (hi : PI X tg iter wi) (ok : BlkOk X.N X.env.scope scope own) (hcell : ∀ y ∈ scope.names, y.2 ≠ .cell) (hco : scope.isCoroutine = false) (hdot : scope.names.lookup (".0" : Str) = some NameKind.local)
    (hg : ∀ (s : Shared) (H : Hp) (C : Addr) (code : Value) (fp : List Addr), PG (gCx X s H (gEnv X scope C code) fp) tg g) (ht : ∀ (s : Shared) (H : Hp) (C : Addr) (code : Value) (fp : List Addr), PTs (gCx X s H (gEnv X scope C code) fp) ifs tt)
    (he : ∀ (s : Shared) (H : Hp) (C : Addr) (code : Value) (fp : List Addr), PE (gCx X s H (gEnv X scope C code) fp) elt te)
    (hs : ∀ v, genFold iter X.env v = pure v := by intro _; rfl)
    (hse : starEach [.GeneratorExp elt [⟨tg, iter, ifs, 0⟩] scope gpos] X.env = (false, eval (.GeneratorExp elt [⟨tg, iter, ifs, 0⟩] scope gpos) X.env) :: starEach [] X.env := by rfl) :
    PE X (.Call (.Name "sum" p) [.GeneratorExp elt [⟨tg, iter, ifs, 0⟩] scope gpos] [] pos) (tSumF P wi g tt te (own.map (·.2))) := pe_sumG hr hc hN hgl hm TB hcode hi ok hcell hco hdot hg ht he hs (by decide +kernel) hse
end
end Sq
set_option Elab.async false
set_option linter.all false
set_option maxRecDepth 100000
set_option maxHeartbeats 2000000
namespace Sq
open PySem PySem.Spec PyProof.Rows L2
theorem dct2_out (kx vx t0 i0 t1 i1 : Expr) (ifs0 ifs1 : List Expr) (scope : Scope) (pos : Pos) (it : Value) (D : Addr) (env : Env) :
    compTurn (.DictComp kx vx [⟨t0, i0, ifs0, 0⟩, ⟨t1, i1, ifs1, 0⟩] scope pos) 0 it (.ref D) env = (do
      standAt i0.pos
      match ← pyNext it with
      | none => pure (.done .next)
      | some v =>
        letOwnedTupleGo t0 it v
        assign t0 env v
        let mut ok := true
        for c in ifs0 do
          if ok then ok ← isTrue c env (eval c env)
        if ok then
          let x ← eval i1 env
          standAt i1.pos
          let x ← foldedSetIterable i1 env x
          let _ ← runOwn (.compStart (.DictComp kx vx [⟨t0, i0, ifs0, 0⟩, ⟨t1, i1, ifs1, 0⟩] scope pos) 1 (← holding [x] (pyIter x)) (.ref D) env) env
        again (.compLoop (.DictComp kx vx [⟨t0, i0, ifs0, 0⟩, ⟨t1, i1, ifs1, 0⟩] scope pos) 0 it (.ref D) env)) := by rfl
theorem dct2_in (kx vx t0 i0 t1 i1 : Expr) (ifs0 ifs1 : List Expr) (scope : Scope) (pos : Pos) (it : Value) (D : Addr) (env : Env) :
    compTurn (.DictComp kx vx [⟨t0, i0, ifs0, 0⟩, ⟨t1, i1, ifs1, 0⟩] scope pos) 1 it (.ref D) env = (do
      standAt i1.pos
      match ← pyNext it with
      | none => pure (.done .next)
      | some v =>
        letOwnedTupleGo t1 it v
        assign t1 env v
        let mut ok := true
        for c in ifs1 do
          if ok then ok ← isTrue c env (eval c env)
        if ok then
          (do
            let kv ← eval kx env
            let vv ← holding [kv] (eval vx env)
            standAt { kx.pos with endLine := vx.pos.endLine, endCol := vx.pos.endCol }
            holding [kv, vv] (dictSet D kv vv))
        again (.compLoop (.DictComp kx vx [⟨t0, i0, ifs0, 0⟩, ⟨t1, i1, ifs1, 0⟩] scope pos) 1 it (.ref D) env)) := by rfl

section
variable {prog : Program} {w : World} {A : Around} {R : Result → Shared → Prop} {s : Shared} {kx vx t0 i0 t1 i1 : Expr} {ifs0 ifs1 : List Expr} {scope : Scope} {pos : Pos} {it : Value} {D : Addr} {env : Env}
theorem dcl2_out (hs : ∀ x, foldedSetIterable i1 env x = pure x) (I : Nat → Shared → Prop)
    (turn : ∀ n s, I n s → wpAny (model prog w) A (pyNext it) (fun r s₁ => match r with
      | none => R (.ok .next) s₁
      | some v => wpAny (model prog w) A (letOwnedTupleGo t0 it v) (fun _ s₁' => wpAny (model prog w) A (assign t0 env v) (fun _ s₂ =>
          wpAny (model prog w) A (forIn ifs0 true fun c r => if r = true then do let ok ← isTrue c env (eval c env); pure (ForInStep.yield ok) else pure (ForInStep.yield r)) (fun ok s₃ =>
            if ok = true then wpAny (model prog w) A (eval i1 env) (fun x s₄ => wpAny (model prog w) A (pyIter x) (fun it1 s₅ =>
              codeAny (model prog w) A (.compStart (.DictComp kx vx [⟨t0, i0, ifs0, 0⟩, ⟨t1, i1, ifs1, 0⟩] scope pos) 1 it1 (.ref D) env) (fun r s' => match r with
                | .ok _ => ∃ m, m < n ∧ I m s'
                | .error _ => False) s₅) (notedBy (model prog w) A env fun e s' => R (.error e) s') s₄) (notedBy (model prog w) A env fun e s' => R (.error e) s') s₃
            else ∃ m, m < n ∧ I m s₃) (notedBy (model prog w) A env fun e s' => R (.error e) s') s₂) (notedBy (model prog w) A env fun e s' => R (.error e) s') s₁') (notedBy (model prog w) A env fun e s' => R (.error e) s') s₁) (notedBy (model prog w) A env fun e s' => R (.error e) s') s)
    (n : Nat) (h : I n s) :
    codeAny (model prog w) A (.compLoop (.DictComp kx vx [⟨t0, i0, ifs0, 0⟩, ⟨t1, i1, ifs1, 0⟩] scope pos) 0 it (.ref D) env) R s := by
  refine codeAny_loop rfl I (fun n s hI => ?_) n h
  show wpAny _ A ((compTurn (.DictComp kx vx [⟨t0, i0, ifs0, 0⟩, ⟨t1, i1, ifs1, 0⟩] scope pos) 0 it (.ref D) env).onRaise (fun x => do noteFrame x env; theTreesLotGoes x)) _ _ s
  refine wpAny_noted ?_
  rw [dct2_out]
  refine wpAny_bind (wpAny_standAt (wpAny_bind (wpAny_mono (turn n s hI) (fun r s₁ h₁ => ?_) fun _ _ h' => h')))
  cases r with
  | none => exact wpAny_pure h₁
  | some v =>
    refine wpAny_bind (wpAny_mono h₁ (fun _ s₁' h₁' => ?_) fun _ _ h' => h')
    refine wpAny_bind (wpAny_mono h₁' (fun _ s₂ h₂ => wpAny_bind (wpAny_mono h₂ (fun ok s₃ h₃ => ?_) fun _ _ h' => h')) fun _ _ h' => h')
    cases ok with
    | false => exact wpAny_pure ⟨rfl, h₃⟩
    | true =>
      refine wpAny_bind (wpAny_mono h₃ (fun x s₄ h₄ => ?_) fun _ _ h' => h')
      refine wpAny_bind (wpAny_standAt (wpAny_bind (wpAny_of_eq (hs x) (wpAny_bind (wpAny_holding (wpAny_mono h₄ (fun it1 s₅ h₅ => ?_) fun _ _ h' => h'))))))
      refine wpAny_bind (wpAny_runOwn ?_)
      rw [Around.mark_none]
      refine codeAny_mono h₅ fun r s' hr => ?_
      cases r with
      | ok f =>
        first
          | exact wpAny_pure ⟨rfl, hr⟩
          | exact wpAny_bind (wpAny_pure (wpAny_pure ⟨rfl, hr⟩))
      | error e => exact hr.elim
theorem dcl2_in (I : Nat → Shared → Prop)
    (turn : ∀ n s, I n s → wpAny (model prog w) A (pyNext it) (fun r s₁ => match r with
      | none => R (.ok .next) s₁
      | some v => wpAny (model prog w) A (letOwnedTupleGo t1 it v) (fun _ s₁' => wpAny (model prog w) A (assign t1 env v) (fun _ s₂ =>
          wpAny (model prog w) A (forIn ifs1 true fun c r => if r = true then do let ok ← isTrue c env (eval c env); pure (ForInStep.yield ok) else pure (ForInStep.yield r)) (fun ok s₃ =>
            if ok = true then wpAny (model prog w) A (eval kx env) (fun kv s₄ => wpAny (model prog w) A (eval vx env) (fun vv s₅ =>
              wpAny (model prog w) A (dictSet D kv vv) (fun _ s₆ => ∃ m, m < n ∧ I m s₆) (notedBy (model prog w) A env fun e s' => R (.error e) s') s₅) (notedBy (model prog w) A env fun e s' => R (.error e) s') s₄) (notedBy (model prog w) A env fun e s' => R (.error e) s') s₃
            else ∃ m, m < n ∧ I m s₃) (notedBy (model prog w) A env fun e s' => R (.error e) s') s₂) (notedBy (model prog w) A env fun e s' => R (.error e) s') s₁') (notedBy (model prog w) A env fun e s' => R (.error e) s') s₁) (notedBy (model prog w) A env fun e s' => R (.error e) s') s)
    (n : Nat) (h : I n s) :
    codeAny (model prog w) A (.compLoop (.DictComp kx vx [⟨t0, i0, ifs0, 0⟩, ⟨t1, i1, ifs1, 0⟩] scope pos) 1 it (.ref D) env) R s := by
  refine codeAny_loop rfl I (fun n s hI => ?_) n h
  show wpAny _ A ((compTurn (.DictComp kx vx [⟨t0, i0, ifs0, 0⟩, ⟨t1, i1, ifs1, 0⟩] scope pos) 1 it (.ref D) env).onRaise (fun x => do noteFrame x env; theTreesLotGoes x)) _ _ s
  refine wpAny_noted ?_
  rw [dct2_in]
  refine wpAny_bind (wpAny_standAt (wpAny_bind (wpAny_mono (turn n s hI) (fun r s₁ h₁ => ?_) fun _ _ h' => h')))
  cases r with
  | none => exact wpAny_pure h₁
  | some v =>
    refine wpAny_bind (wpAny_mono h₁ (fun _ s₁' h₁' => ?_) fun _ _ h' => h')
    refine wpAny_bind (wpAny_mono h₁' (fun _ s₂ h₂ => wpAny_bind (wpAny_mono h₂ (fun ok s₃ h₃ => ?_) fun _ _ h' => h')) fun _ _ h' => h')
    cases ok with
    | false => exact wpAny_pure ⟨rfl, h₃⟩
    | true =>
      exact wpAny_bind (wpAny_bind (wpAny_mono h₃ (fun kv s₄ h₄ => wpAny_bind (wpAny_holding (wpAny_mono h₄ (fun vv s₅ h₅ => wpAny_bind (wpAny_standAt (wpAny_holding (wpAny_mono h₅ (fun _ s₆ h₆ => wpAny_pure ⟨rfl, h₆⟩) fun _ _ h' => h')))) fun _ _ h' => h'))) fun _ _ h' => h'))
theorem dcs1_ok (h0 : codeAny (model prog w) A (.compLoop (.DictComp kx vx [⟨t0, i0, ifs0, 0⟩, ⟨t1, i1, ifs1, 0⟩] scope pos) 1 it (.ref D) env) R s)
    (h : wpAny (model prog w) A (pyIter it) (fun it' s' => codeAny (model prog w) A (.compLoop (.DictComp kx vx [⟨t0, i0, ifs0, 0⟩, ⟨t1, i1, ifs1, 0⟩] scope pos) 1 it' (.ref D) env) R s')
      (notedBy (model prog w) A env fun x s' => R (.error x) s') s) :
    codeAny (model prog w) A (.compStart (.DictComp kx vx [⟨t0, i0, ifs0, 0⟩, ⟨t1, i1, ifs1, 0⟩] scope pos) 1 it (.ref D) env) R s := by
  refine codeAny_of_tree ?_
  show wpAny _ _ ((compStart (.DictComp kx vx [⟨t0, i0, ifs0, 0⟩, ⟨t1, i1, ifs1, 0⟩] scope pos) 1 it (.ref D) env).onRaise (fun x => do noteFrame x env; standAt theWindowsPlace)) _ _ s
  refine wpAny_notedAt ?_
  unfold compStart
  show wpAny _ _ (ask >>= _) _ _ s
  refine wpAny_bind (wpAny_askSetting (wpAny_ite ?_))
  split
  · first
      | exact wpAny_bind (wpAny_pure (wpAny_pure (And.intro rfl h0)))
      | exact wpAny_pure (And.intro rfl h0)
  · first
      | exact wpAny_bind (wpAny_rule (wpAny_bind (wpAny_standAt (wpAny_bind (wpAny_mono h (fun it' s' h' => wpAny_pure (And.intro rfl h')) fun _ _ x => x)))))
      | (refine wpAny_bind (wpAny_rule ?_); show wpAny _ _ (standAt i1.pos >>= _) _ _ s; exact wpAny_bind (wpAny_standAt (wpAny_bind (wpAny_mono h (fun it' s' h' => wpAny_pure (And.intro rfl h')) fun _ _ x => x))))
end

section
variable {X : Cx}
def tDc2 (wi : TI) (g : TG) (tt : TT) (wi1 : TI) (g1 : TG) (tt1 : TT) (tk tv : TE) (vs vs1 : List Nat) : TE := fun σ H Q => wi σ H fun J H1 => ∀ D, H1 D = none → ∃ W : Nat → Nat → Hp → Prop, (∃ m, W 0 m (upd H1 D (.dK []))) ∧ ∀ i m H, W i m H →
  (J.stop i H ∧ Q (.ref D) H) ∨ (J.go i H ∧ ∃ Nx : Hp → Prop, (∀ H', Nx H' → ∃ m', m' < m ∧ W (i + 1) m' H') ∧ ∀ x H', J.yld i H x H' → g x (wipe σ vs) H' fun σ2 H2 => wipe σ2 vs = wipe σ vs ∧ tt σ2 H2 fun b H3 =>
    if b = true then wi1 σ2 H3 fun J1 H4 => ∃ W1 : Nat → Nat → Hp → Prop, (∃ m, W1 0 m H4) ∧ ∀ j k H, W1 j k H →
      (J1.stop j H ∧ Nx H) ∨ (J1.go j H ∧ ∃ Nx1 : Hp → Prop, (∀ H', Nx1 H' → ∃ k', k' < k ∧ W1 (j + 1) k' H') ∧ ∀ x H', J1.yld j H x H' → g1 x (wipe σ2 vs1) H' fun σ3 H5 => wipe σ3 vs1 = wipe σ2 vs1 ∧ tt1 σ3 H5 fun b H6 =>
        if b = true then tk σ3 H6 fun y H7 => tv σ3 H7 fun z H8 => ∃ kvs k, y = kV k ∧ H8 D = some (.dK kvs) ∧ kvs.length < sizeLine ∧ Nx1 (upd H8 D (.dK (putK kvs k z))) else Nx1 H6)
    else Nx H3)
theorem dc2_core {pins : List (Addr × Obj)} {s : Shared} {σ : L2.St} {H : Hp} {Q : VK} {kx vx tg iter tg1 iter1 : Expr} {ifs ifs1 : List Expr} {scope : Scope} {own : List (Str × Nat)} {vs1 : List Nat} {pos pos' : Pos} {wi wi1 : TI} {g g1 : TG} {tt tt1 : TT} {tk tv : TE} {use : Option (Value → Sem Unit)} {Qf : Value → Shared → Prop}
    (hc : X.calm = true) (hN : X.N.Nodup) (I : L2.Inv X pins σ H s) (hi : PI X tg iter wi) (ok : BlkOk X.N X.env.scope scope own) (hv : ∀ i ∈ vs1, i ∈ own.map (·.2))
    (hg : ∀ (s : Shared) (H : Hp) (C : Addr) (cl : List (Str × Addr)) (fp : List Addr), PG (X.blk s H scope (compEnvC scope cl C X.env) fp) tg g) (ht : ∀ (s : Shared) (H : Hp) (C : Addr) (cl : List (Str × Addr)) (fp : List Addr), PTs (X.blk s H scope (compEnvC scope cl C X.env) fp) ifs tt)
    (hk : ∀ (s : Shared) (H : Hp) (C : Addr) (cl : List (Str × Addr)) (fp : List Addr), PE (X.blk s H scope (compEnvC scope cl C X.env) fp) kx tk)
    (he : ∀ (s : Shared) (H : Hp) (C : Addr) (cl : List (Str × Addr)) (fp : List Addr), PE (X.blk s H scope (compEnvC scope cl C X.env) fp) vx tv) (hs : ∀ x, foldedSetIterable iter X.env x = pure x)
    (hi1 : ∀ (s : Shared) (H : Hp) (C : Addr) (cl : List (Str × Addr)) (fp : List Addr), PI (X.blk s H scope (compEnvC scope cl C X.env) fp) tg1 iter1 wi1)
    (hg1 : ∀ (s : Shared) (H : Hp) (C : Addr) (cl : List (Str × Addr)) (fp : List Addr), PG (X.blk s H scope (compEnvC scope cl C X.env) fp) tg1 g1)
    (ht1 : ∀ (s : Shared) (H : Hp) (C : Addr) (cl : List (Str × Addr)) (fp : List Addr), PTs (X.blk s H scope (compEnvC scope cl C X.env) fp) ifs1 tt1)
    (hs1 : ∀ env x, foldedSetIterable iter1 env x = pure x)
    (h : tDc2 wi g tt wi1 g1 tt1 tk tv (own.map (·.2)) vs1 σ H Q)
    (hRR : ∀ D C s' m H', L2.Inv X pins σ H' s' → Q (.ref D) H' → s'.heap.Ns C m → FpOk X pins H' C → compPost (model X.prog X.w) X.A X.xe use Qf (.ref D) C (.ok .next) s') :
    wpAny (model X.prog X.w) X.A (comprehension (.DictComp kx vx [⟨tg, iter, ifs, 0⟩, ⟨tg1, iter1, ifs1, 0⟩] scope pos) scope X.env pos' (newDict) false (eval iter X.env) use) Qf X.xe s := by
  have hfree : ∀ y ∈ scope.names, y.2 = .free → ∃ c, X.env.cells.lookup y.1 = some c := fun y hy e => by
    rcases ok.free y hy e with k | k
    · exact I.ok.has _ (.inl k)
    · exact I.ok.has _ (.inr k)
  refine wpAny_comprehension_free (use := use) rfl hs (closure_ok hfree) ok.kind (fun y hy e => by rw [ok.uniq y hy, e])
    (thn (hi.run pins s σ H _ I h) fun xv s1 hx => thn hx fun itv s2 h2 => ?_)
  obtain ⟨it, fp, tn, J, H2, e, I2, T, st2, f2, q⟩ := h2
  subst e
  refine wpAny_newObj_type (newEnv_comp ?_) 
  generalize hD : s2.heap.objs.size = D
  have hDn : H2 D = none := I2.hok.fresh (Nat.le_of_eq hD)
  obtain ⟨W, ⟨m0, w0⟩, turn⟩ := q D hDn
  -- the new list
  generalize hs3 : ({ s2 with heap := s2.heap.push { cls := .type "dict", data := .dict #[] } } : Shared) = s3
  have I3 : L2.Inv X pins σ (upd H2 D (.dK [])) s3 := by
    rw [← hs3]
    refine I2.laid (t' := s2.toks) (fun b o e => Heap.get?_push_of_some _ e) (Nat.le_of_eq hD) ?_
    rw [← hD]
    exact dk_empty s2.heap I2.big
  have h3 : s3.heap = s2.heap.push { cls := .type "dict", data := .dict #[] } := by rw [← hs3]
  have sz : ∀ b ∈ fp, b < s2.heap.objs.size := fun b hb => by
    obtain ⟨o, e, _⟩ := T.obj _ _ st2 b hb
    exact Heap.lt_size e
  have f3 : ∀ b ∈ fp, FpOk X pins (upd H2 D (.dK [])) b ∧ b < s3.heap.objs.size := fun b hb => by
    have hlt := sz b hb
    refine ⟨⟨?_, (f2 b hb).2⟩, by rw [h3, Heap.size_push]; exact Nat.lt_succ_of_lt hlt⟩
    rw [upd_ne (by rw [← hD]; exact Nat.ne_of_lt hlt)]
    exact (f2 b hb).1
  have st3 : tn 0 s3.heap := T.keep _ _ _ st2 fun b _ o e => by rw [h3]; exact Heap.get?_push_of_some _ e
  have I4 := block_start I3 ok hN f3
  have pg := hg s3 (upd H2 D (.dK [])) s3.heap.objs.size (cellsFrom (s3.heap.objs.size + 1) scope.names (cloFrom X.env.cells scope.names [])) fp
  have pt := ht s3 (upd H2 D (.dK [])) s3.heap.objs.size (cellsFrom (s3.heap.objs.size + 1) scope.names (cloFrom X.env.cells scope.names [])) fp
  have pk := hk s3 (upd H2 D (.dK [])) s3.heap.objs.size (cellsFrom (s3.heap.objs.size + 1) scope.names (cloFrom X.env.cells scope.names [])) fp
  have pe := he s3 (upd H2 D (.dK [])) s3.heap.objs.size (cellsFrom (s3.heap.objs.size + 1) scope.names (cloFrom X.env.cells scope.names [])) fp
  have pi1 := hi1 s3 (upd H2 D (.dK [])) s3.heap.objs.size (cellsFrom (s3.heap.objs.size + 1) scope.names (cloFrom X.env.cells scope.names [])) fp
  have pg1 := hg1 s3 (upd H2 D (.dK [])) s3.heap.objs.size (cellsFrom (s3.heap.objs.size + 1) scope.names (cloFrom X.env.cells scope.names [])) fp
  have pt1 := ht1 s3 (upd H2 D (.dK [])) s3.heap.objs.size (cellsFrom (s3.heap.objs.size + 1) scope.names (cloFrom X.env.cells scope.names [])) fp
  show codeAny _ _ (.compStart (.DictComp kx vx [⟨tg, iter, ifs, 0⟩, ⟨tg1, iter1, ifs1, 0⟩] scope pos) 0 (.ref it) (.ref D) (compEnvC scope (cellsFrom (s3.heap.objs.size + 1) scope.names (cloFrom X.env.cells scope.names [])) s3.heap.objs.size X.env)) (compPost (model X.prog X.w) X.A X.xe use Qf (.ref D) s3.heap.objs.size) { s3 with heap := pushCells (s3.heap.push { cls := .type "dict", data := .dict #[] }) scope.names }
  have nfp : ∀ b ∈ fp, (upd H2 D (.dK [])) b = none := fun b hb => (f3 b hb).1.1
  generalize hce : compEnvC scope (cellsFrom (s3.heap.objs.size + 1) scope.names (cloFrom X.env.cells scope.names [])) s3.heap.objs.size X.env = ce at I4 pg pt pk pe pi1 pg1 pt1 ⊢
  have cL : ce.locals = s3.heap.objs.size := by subst hce; rfl
  generalize hH3 : upd H2 D (.dK []) = H3 at I3 I4 pg pt pk pe pi1 pg1 pt1 w0 nfp f3
  generalize hs4 : ({ s3 with heap := pushCells (s3.heap.push { cls := .type "dict", data := .dict #[] }) scope.names } : Shared) = s4 at I4 ⊢
  have st4 : tn 0 s4.heap := T.keep _ _ _ st3 fun b _ o e => by rw [← hs4]; exact pushCells_keeps _ _ _ _ (Heap.get?_push_of_some _ e)
  have stat : ∀ {σ' : L2.St} {H' : Hp} {s' : Shared}, L2.Inv (X.blk s3 H3 scope ce fp) [] σ' H' s' → (∀ b ∈ fp, H' b = none) → ∀ b ∈ fp, FpOk (X.blk s3 H3 scope ce fp) [] H' b := fun {σ' H' s'} I' hn b hb =>
    ⟨hn b hb, (I'.ok.exf b hb).1, I'.ok.exfs b hb, .inl hb, fun x c e => (I'.ok.exf b hb).2 x c e, fun p hp => absurd (show p ∈ ([] : List (Addr × Obj)) ++ [] from hp) (by simp)⟩
  have loop : codeAny (model X.prog X.w) X.A (.compLoop (.DictComp kx vx [⟨tg, iter, ifs, 0⟩, ⟨tg1, iter1, ifs1, 0⟩] scope pos) 0 (.ref it) (.ref D) ce) (compPost (model X.prog X.w) X.A X.xe use Qf (.ref D) s3.heap.objs.size) s4 := by
    refine dcl2_out (hs1 ce) (fun n s' => ∃ i H', L2.Inv (X.blk s3 H3 scope ce fp) [] (wipe σ (own.map (·.2))) H' s' ∧ tn i s'.heap ∧ (∀ b ∈ fp, H' b = none) ∧ W i n H') ?_ m0 ⟨0, H3, I4, st4, nfp, w0⟩
    rintro n s5 ⟨i, H5, I5, st5, n5, w5⟩
    rcases turn i n H5 w5 with ⟨stop, qq⟩ | ⟨go, Nx, hNx, step⟩
    · have td := T.done (X.blk s3 H3 scope ce fp) rfl rfl rfl hc i [] s5 _ H5 (fun _ _ => False) I5 (stat I5 n5) st5 stop
      refine thnF td fun r s6 ⟨hr, I6⟩ => ?_
      subst hr
      -- back in the def's context
      have I7 : L2.Inv X pins σ H5 s6 := I3.call' (ch := fp) I6.os I6.base I6.hok I6.bare fun b hb => ⟨(f3 b hb).1.2.2.2.1, (f3 b hb).1.2.1, (f3 b hb).1.2.2.2.2.1, (f3 b hb).1.2.2.2.2.2⟩
      have nC : H5 s3.heap.objs.size = none := by
        have z : H5 ce.locals = none := I6.free
        rw [cL] at z
        exact z
      obtain ⟨m, hn, _⟩ := I6.loc
      have hn : s6.heap.Ns ce.locals m := hn
      rw [cL] at hn
      exact hRR D s3.heap.objs.size s6 m H5 I7 qq hn (I3.fpOk (Nat.le_refl _) nC)
    · have ti := T.item (X.blk s3 H3 scope ce fp) rfl rfl rfl hc i [] s5 _ H5 (fun _ _ => False) I5 (stat I5 n5) st5 go
      refine thnF ti fun r s6 ⟨u, hr, h6⟩ => ?_
      subst hr
      refine thnF h6 fun _ s7 ⟨x, H7, I7, r7, y7, st7, n7⟩ => ?_
      have I7' := I7.pinned (stat I7 n7) (T.obj _ _ st7)
      refine thnF (pg.run _ s7 _ H7 x u _ I7' r7 (step x H7 y7)) fun _ s8 ⟨σ8, H8, I8, hw8, q8⟩ => ?_
      refine thnF (pt.run _ s8 σ8 H8 _ I8 q8) fun b s9 ⟨H9, I9, q9⟩ => ?_
      -- the turn's end, from any slots that know what the block knew at its start
      have fin : ∀ {σ9 : L2.St} {s' : Shared} {H' : Hp}, L2.Inv (X.blk s3 H3 scope ce fp) ([] ++ pinsAt fp s7.heap) σ9 H' s' → (wipe σ (own.map (·.2))).length = σ9.length → (∀ (j : Nat) v, (wipe σ (own.map (·.2)))[j]? = some (some v) → σ9[j]? = some (some v)) → Nx H' →
          ∃ m, m < n ∧ ∃ i H', L2.Inv (X.blk s3 H3 scope ce fp) [] (wipe σ (own.map (·.2))) H' s' ∧ tn i s'.heap ∧ (∀ b ∈ fp, H' b = none) ∧ W i m H' := fun {σ9 s' H'} I' hl hk nx => by
        obtain ⟨m', hm, w'⟩ := hNx H' nx
        have pin' : ∀ b ∈ fp, ∀ o, s7.heap.get? b = some o → s'.heap.get? b = some o ∧ H' b = none := fun b hb o e =>
          let z := I'.pin (b, o) (List.mem_append_right _ (List.mem_append_right _ (mem_pinsAt hb e)))
          ⟨z.1, z.2.1⟩
        refine ⟨m', hm, i + 1, H', (I'.unpinned (pins := [])).weak hl hk, T.keep _ _ _ st7 fun b hb o e => (pin' b hb o e).1, fun b hb => ?_, w'⟩
        obtain ⟨o, e, _⟩ := T.obj _ _ st7 b hb
        exact (pin' b hb o e).2
      have hl8 : (wipe σ (own.map (·.2))).length = σ8.length := by rw [← hw8, wipe_length]
      have hk8 : ∀ (j : Nat) v, (wipe σ (own.map (·.2)))[j]? = some (some v) → σ8[j]? = some (some v) := fun j v e => by
        rw [← hw8] at e
        exact (wipe_some e).1
      have hk9 : ∀ (j : Nat) v, (wipe σ (own.map (·.2)))[j]? = some (some v) → (wipe σ8 vs1)[j]? = some (some v) := fun j v e => by
        rw [← hw8] at e
        obtain ⟨e1, e2⟩ := wipe_some e
        rw [wipe_out fun z => e2 (hv j z)]
        exact e1
      cases b with
      | false =>
        simp only [Bool.false_eq_true, if_false] at q9 ⊢
        exact fin I9 hl8 hk8 q9
      | true =>
        simp only [if_true] at q9 ⊢
        refine thnF (pi1.run _ s9 σ8 H9 _ I9 q9) fun xv s10 hx => thnF hx fun itv s11 h11 => ?_
        obtain ⟨it1, fp1, tn1, J1, H11, e1, I11, T1, st11, f11, W1, ⟨m1, w1⟩, turn1⟩ := h11
        subst e1
        -- the inner loop
        have stat1 : ∀ {H' : Hp}, (∀ b ∈ fp1, H' b = none) → ∀ b ∈ fp1, FpOk (X.blk s3 H3 scope ce fp) ([] ++ pinsAt fp s7.heap) H' b := fun hn b hb => ⟨hn b hb, (f11 b hb).2⟩
        have loop1 : codeAny (model X.prog X.w) X.A (.compLoop (.DictComp kx vx [⟨tg, iter, ifs, 0⟩, ⟨tg1, iter1, ifs1, 0⟩] scope pos) 1 (.ref it1) (.ref D) ce)
            (fun r s' => match r with
              | .ok _ => ∃ m, m < n ∧ ∃ i H', L2.Inv (X.blk s3 H3 scope ce fp) [] (wipe σ (own.map (·.2))) H' s' ∧ tn i s'.heap ∧ (∀ b ∈ fp, H' b = none) ∧ W i m H'
              | .error _ => False) s11 := by
          refine dcl2_in (fun k s' => ∃ j H', L2.Inv (X.blk s3 H3 scope ce fp) ([] ++ pinsAt fp s7.heap) (wipe σ8 vs1) H' s' ∧ tn1 j s'.heap ∧ (∀ b ∈ fp1, H' b = none) ∧ W1 j k H') ?_ m1 ⟨0, H11, I11.weak (wipe_length _ _) (fun j v e => (wipe_some e).1), st11, fun b hb => (f11 b hb).1, w1⟩
          rintro k s12 ⟨j, H12, I12, st12, n12, w12⟩
          rcases turn1 j k H12 w12 with ⟨stop1, nx1⟩ | ⟨go1, Nx1, hNx1, step1⟩
          · refine thnF (T1.done (X.blk s3 H3 scope ce fp) rfl rfl rfl hc j _ s12 (wipe σ8 vs1) H12 (fun _ _ => False) I12 (stat1 n12) st12 stop1) fun r s13 ⟨hr, I13⟩ => ?_
            subst hr
            exact fin I13 (hl8.trans (wipe_length σ8 vs1).symm) hk9 nx1
          · refine thnF (T1.item (X.blk s3 H3 scope ce fp) rfl rfl rfl hc j _ s12 (wipe σ8 vs1) H12 (fun _ _ => False) I12 (stat1 n12) st12 go1) fun r s13 ⟨u1, hr, h13⟩ => ?_
            subst hr
            refine thnF h13 fun _ s14 ⟨x1, H14, I14, r14, y14, st14, n14⟩ => ?_
            have I14' := I14.pinned (stat1 n14) (T1.obj _ _ st14)
            refine thnF (pg1.run _ s14 (wipe σ8 vs1) H14 x1 u1 _ I14' r14 (step1 x1 H14 y14)) fun _ s15 ⟨σ15, H15, I15, hw15, q15⟩ => ?_
            refine thnF (pt1.run _ s15 σ15 H15 _ I15 q15) fun b1 s16 ⟨H16, I16, q16⟩ => ?_
            have fin1 : ∀ {s' : Shared} {H' : Hp}, L2.Inv (X.blk s3 H3 scope ce fp) (([] ++ pinsAt fp s7.heap) ++ pinsAt fp1 s14.heap) σ15 H' s' → Nx1 H' → ∃ m, m < k ∧ ∃ j H', L2.Inv (X.blk s3 H3 scope ce fp) ([] ++ pinsAt fp s7.heap) (wipe σ8 vs1) H' s' ∧ tn1 j s'.heap ∧ (∀ b ∈ fp1, H' b = none) ∧ W1 j m H' := fun {s' H'} I' nx => by
              obtain ⟨m', hm, w'⟩ := hNx1 H' nx
              have pin' : ∀ b ∈ fp1, ∀ o, s14.heap.get? b = some o → s'.heap.get? b = some o ∧ H' b = none := fun b hb o e =>
                let z := I'.pin (b, o) (List.mem_append_right _ (List.mem_append_right _ (mem_pinsAt hb e)))
                ⟨z.1, z.2.1⟩
              refine ⟨m', hm, j + 1, H', I'.unpinned.weak (by rw [← hw15, wipe_length]) (fun j v e => by rw [← hw15] at e; exact (wipe_some e).1), T1.keep _ _ _ st14 fun b hb o e => (pin' b hb o e).1, fun b hb => ?_, w'⟩
              obtain ⟨o, e, _⟩ := T1.obj _ _ st14 b hb
              exact (pin' b hb o e).2
            cases b1 with
            | false =>
              simp only [Bool.false_eq_true, if_false] at q16 ⊢
              exact fin1 I16 q16
            | true =>
              simp only [if_true] at q16 ⊢
              refine thnF (pk.run _ s16 σ15 H16 _ I16 q16) fun z s17 ⟨yk, H17, I17, r17, q17⟩ => ?_
              refine thnF (pe.run _ s17 σ15 H17 _ I17 q17) fun z2 s18 ⟨yv, H18, I18, r18, kvs, k, ek, hD18, hz18, nx⟩ => ?_
              subst ek
              exact d_dictSet (X := X.blk s3 H3 scope ce fp) I18 hD18 hz18 r17 r18 fun s19 I19 => fin1 I19 nx
        exact dcs1_ok loop1 (T1.self X.A 0 _ _ _ st11 loop1)
  exact codeAny_compStart_dict loop (T.self X.A 0 _ _ _ st4 loop)
theorem pe_dc2 {kx vx tg iter tg1 iter1 : Expr} {ifs ifs1 : List Expr} {scope : Scope} {own : List (Str × Nat)} {vs1 : List Nat} {pos : Pos} {wi wi1 : TI} {g g1 : TG} {tt tt1 : TT} {tk tv : TE} (hc : X.calm = true) (hN : X.N.Nodup) (hi : PI X tg iter wi) (ok : BlkOk X.N X.env.scope scope own) (hv : ∀ i ∈ vs1, i ∈ own.map (·.2))
    (hg : ∀ (s : Shared) (H : Hp) (C : Addr) (cl : List (Str × Addr)) (fp : List Addr), PG (X.blk s H scope (compEnvC scope cl C X.env) fp) tg g) (ht : ∀ (s : Shared) (H : Hp) (C : Addr) (cl : List (Str × Addr)) (fp : List Addr), PTs (X.blk s H scope (compEnvC scope cl C X.env) fp) ifs tt)
    (hi1 : ∀ (s : Shared) (H : Hp) (C : Addr) (cl : List (Str × Addr)) (fp : List Addr), PI (X.blk s H scope (compEnvC scope cl C X.env) fp) tg1 iter1 wi1)
    (hg1 : ∀ (s : Shared) (H : Hp) (C : Addr) (cl : List (Str × Addr)) (fp : List Addr), PG (X.blk s H scope (compEnvC scope cl C X.env) fp) tg1 g1) (ht1 : ∀ (s : Shared) (H : Hp) (C : Addr) (cl : List (Str × Addr)) (fp : List Addr), PTs (X.blk s H scope (compEnvC scope cl C X.env) fp) ifs1 tt1)
    (hk : ∀ (s : Shared) (H : Hp) (C : Addr) (cl : List (Str × Addr)) (fp : List Addr), PE (X.blk s H scope (compEnvC scope cl C X.env) fp) kx tk)
    (he : ∀ (s : Shared) (H : Hp) (C : Addr) (cl : List (Str × Addr)) (fp : List Addr), PE (X.blk s H scope (compEnvC scope cl C X.env) fp) vx tv) (hs : ∀ x, foldedSetIterable iter X.env x = pure x := by intro _; rfl) (hs1 : ∀ env x, foldedSetIterable iter1 env x = pure x := by intro _ _; rfl) :
    PE X (.DictComp kx vx [⟨tg, iter, ifs, 0⟩, ⟨tg1, iter1, ifs1, 0⟩] scope pos) (tDc2 wi g tt wi1 g1 tt1 tk tv (own.map (·.2)) vs1) := by
  refine ⟨fun pins s σ H Q I h => ?_⟩
  rw [arm_eval_DictComp]
  refine dc2_core hc hN I hi ok hv hg ht hk he hs hi1 hg1 ht1 hs1 h fun D C s' m H' I' q hn f => ⟨m, hn, fun h'' sb => ?_⟩
  obtain ⟨f0, f1, f2, f3, f4, f5⟩ := f
  exact ⟨.ref D, H', I'.turned (t' := s'.toks) (fun b o hb e => (sb.2 b hb).trans e) f0 f1 f3 f4 f5, rfl, q⟩
theorem ps_setDc2 {i : Nat} {y : Str} {py : Pos} {kx vx tg iter tg1 iter1 : Expr} {ifs ifs1 : List Expr} {scope : Scope} {own : List (Str × Nat)} {vs1 : List Nat} {pos spos : Pos} {wi wi1 : TI} {g g1 : TG} {tt tt1 : TT} {tk tv : TE} (hc : X.calm = true) (hN : X.N.Nodup) (hy : X.N[i]? = some y) (hyl : X.env.scope.names.lookup y = some .local)
    (hsw : swapsWith (.DictComp kx vx [⟨tg, iter, ifs, 0⟩, ⟨tg1, iter1, ifs1, 0⟩] scope pos) (some (.Name y py)) spos.line X.env = pure true) (hi : PI X tg iter wi) (ok : BlkOk X.N X.env.scope scope own) (hv : ∀ i ∈ vs1, i ∈ own.map (·.2))
    (hg : ∀ (s : Shared) (H : Hp) (C : Addr) (cl : List (Str × Addr)) (fp : List Addr), PG (X.blk s H scope (compEnvC scope cl C X.env) fp) tg g) (ht : ∀ (s : Shared) (H : Hp) (C : Addr) (cl : List (Str × Addr)) (fp : List Addr), PTs (X.blk s H scope (compEnvC scope cl C X.env) fp) ifs tt)
    (hi1 : ∀ (s : Shared) (H : Hp) (C : Addr) (cl : List (Str × Addr)) (fp : List Addr), PI (X.blk s H scope (compEnvC scope cl C X.env) fp) tg1 iter1 wi1)
    (hg1 : ∀ (s : Shared) (H : Hp) (C : Addr) (cl : List (Str × Addr)) (fp : List Addr), PG (X.blk s H scope (compEnvC scope cl C X.env) fp) tg1 g1) (ht1 : ∀ (s : Shared) (H : Hp) (C : Addr) (cl : List (Str × Addr)) (fp : List Addr), PTs (X.blk s H scope (compEnvC scope cl C X.env) fp) ifs1 tt1)
    (hk : ∀ (s : Shared) (H : Hp) (C : Addr) (cl : List (Str × Addr)) (fp : List Addr), PE (X.blk s H scope (compEnvC scope cl C X.env) fp) kx tk)
    (he : ∀ (s : Shared) (H : Hp) (C : Addr) (cl : List (Str × Addr)) (fp : List Addr), PE (X.blk s H scope (compEnvC scope cl C X.env) fp) vx tv) (hs : ∀ x, foldedSetIterable iter X.env x = pure x := by intro _; rfl) (hs1 : ∀ env x, foldedSetIterable iter1 env x = pure x := by intro _ _; rfl) :
    PS X (.Assign [.Name y py] (.DictComp kx vx [⟨tg, iter, ifs, 0⟩, ⟨tg1, iter1, ifs1, 0⟩] scope pos) spos) (tAsg (tDc2 wi g tt wi1 g1 tt1 tk tv (own.map (·.2)) vs1) (gName i)) := by
  refine ⟨fun pins s σ H D I h => ?_⟩
  rw [exec_Assign_Name_used _ _ _ _ hsw]
  refine wpAny_bind (wpAny_standAt (wpAny_bind ?_))
  show wpAny _ X.A (do let _ ← comprehension (.DictComp kx vx [⟨tg, iter, ifs, 0⟩, ⟨tg1, iter1, ifs1, 0⟩] scope pos) scope X.env (firstIterPos [⟨tg, iter, ifs, 0⟩, ⟨tg1, iter1, ifs1, 0⟩] pos) newDict false (eval iter X.env) (some (assign (.Name y py) X.env))) _ _ s
  have h : tDc2 wi g tt wi1 g1 tt1 tk tv (own.map (·.2)) vs1 σ H (fun x H1 => gName i x σ H1 D.nx) := h
  refine wpAny_bind (thn (dc2_core (Qf := fun _ s' => SP X pins D .next s') hc hN I hi ok hv hg ht hk he hs hi1 hg1 ht1 hs1 h fun L C s' m H' I' q hn f => ?_) fun _ s' hq => wpAny_pure (wpAny_pure hq))
  show wpAny _ _ (assign (.Name y py) X.env (.ref L)) _ _ _
  refine wpAny_assign_Name (store_ok2 (v := V.ref L) I' hN hy (.inl hyl) rfl (fun s2 I2 ⟨a, sb, ha⟩ => ?_) (.inr hyl))
  obtain ⟨f0, f1, f2, f3, f4, f5⟩ := f
  have haC : C ≠ a := by
    rcases ha with z | z
    · rw [z]; exact f1
    · exact fun e => f4 y a z e.symm
  refine ⟨m, hn.sameBut sb haC, fun h3 sb3 => ?_⟩
  exact ⟨_, H', I2.turned (t' := s2.toks) (fun b o hb e => (sb3.2 b hb).trans e) f0 f1 f3 f4 f5, q⟩
theorem ps_setDc {i : Nat} {y : Str} {py : Pos} {kx vx tg iter : Expr} {ifs : List Expr} {scope : Scope} {own : List (Str × Nat)} {pos spos : Pos} {wi : TI} {g : TG} {tt : TT} {tk tv : TE} (hc : X.calm = true) (hN : X.N.Nodup) (hy : X.N[i]? = some y) (hyl : X.env.scope.names.lookup y = some .local)
    (hsw : swapsWith (.DictComp kx vx [⟨tg, iter, ifs, 0⟩] scope pos) (some (.Name y py)) spos.line X.env = pure true) (hi : PI X tg iter wi) (ok : BlkOk X.N X.env.scope scope own)
    (hg : ∀ (s : Shared) (H : Hp) (C : Addr) (cl : List (Str × Addr)) (fp : List Addr), PG (X.blk s H scope (compEnvC scope cl C X.env) fp) tg g) (ht : ∀ (s : Shared) (H : Hp) (C : Addr) (cl : List (Str × Addr)) (fp : List Addr), PTs (X.blk s H scope (compEnvC scope cl C X.env) fp) ifs tt)
    (hk : ∀ (s : Shared) (H : Hp) (C : Addr) (cl : List (Str × Addr)) (fp : List Addr), PE (X.blk s H scope (compEnvC scope cl C X.env) fp) kx tk)
    (he : ∀ (s : Shared) (H : Hp) (C : Addr) (cl : List (Str × Addr)) (fp : List Addr), PE (X.blk s H scope (compEnvC scope cl C X.env) fp) vx tv) (hs : ∀ x, foldedSetIterable iter X.env x = pure x := by intro _; rfl) :
    PS X (.Assign [.Name y py] (.DictComp kx vx [⟨tg, iter, ifs, 0⟩] scope pos) spos) (tAsg (tDc wi g tt tk tv (own.map (·.2))) (gName i)) := by
  refine ⟨fun pins s σ H D I h => ?_⟩
  rw [exec_Assign_Name_used _ _ _ _ hsw]
  refine wpAny_bind (wpAny_standAt (wpAny_bind ?_))
  show wpAny _ X.A (do let _ ← comprehension (.DictComp kx vx [⟨tg, iter, ifs, 0⟩] scope pos) scope X.env (firstIterPos [⟨tg, iter, ifs, 0⟩] pos) newDict false (eval iter X.env) (some (assign (.Name y py) X.env))) _ _ s
  have h : tDc wi g tt tk tv (own.map (·.2)) σ H (fun x H1 => gName i x σ H1 D.nx) := h
  refine wpAny_bind (thn (dc_core (Qf := fun _ s' => SP X pins D .next s') hc hN I hi ok hg ht hk he hs h fun L C s' m H' I' q hn f => ?_) fun _ s' hq => wpAny_pure (wpAny_pure hq))
  show wpAny _ _ (assign (.Name y py) X.env (.ref L)) _ _ _
  refine wpAny_assign_Name (store_ok2 (v := V.ref L) I' hN hy (.inl hyl) rfl (fun s2 I2 ⟨a, sb, ha⟩ => ?_) (.inr hyl))
  obtain ⟨f0, f1, f2, f3, f4, f5⟩ := f
  have haC : C ≠ a := by
    rcases ha with z | z
    · rw [z]; exact f1
    · exact fun e => f4 y a z e.symm
  refine ⟨m, hn.sameBut sb haC, fun h3 sb3 => ?_⟩
  exact ⟨_, H', I2.turned (t' := s2.toks) (fun b o hb e => (sb3.2 b hb).trans e) f0 f1 f3 f4 f5, q⟩
theorem sw_trueD {kx vx : Expr} {gs : List Comprehension} {scope : Scope} {pos py : Pos} {y : Str} {l : Nat} {env : Env} (hk : env.scope.kind = .function) (hy : env.scope.names.lookup y = some .local) (hl : (py.line == pos.line) = true)
    (ha : (scope.names.any fun (n, k) => n == y && (k == .local || k == .cell)) = false) : swapsWith (.DictComp kx vx gs scope pos) (some (.Name y py)) l env = pure true := by
  have ky : env.kindOf y = some .local := hy
  have hb : env.blockKind = .function := by unfold Env.blockKind; rw [hk]; rfl
  unfold swapsWith
  simp only [hb, ky, ha, Expr.pos, hl]
  rfl
end
end Sq
set_option Elab.async false
set_option linter.all false
set_option maxRecDepth 100000
set_option maxHeartbeats 2000000
namespace Sq
open PySem PySem.Spec PyProof.Rows L2 RZ
/-! ### list(zip(t, u)) of tuples -/
section
variable {prog : Program} {w : World} {A : Around} {E : Value → Shared → Prop} {s : Shared}
theorem zipT_held_item {z TI TO T i1 i2 l1 l2 : Addr} {f : Bool} {oT : Obj} {k1 k2 : Nat} {xs ys : Array Value} {x y : Value} {Q : Value → Shared → Prop} (D : ZipApart z TI TO i1 i2 l1 l2)
    (hz : IsZipHeld s.heap z TI TO T f) (hT : s.heap.get? T = some oT) (hTI : IsPair s.heap TI (.ref i1) (.ref i2))
    (h1 : s.heap.IsTupleIter i1 l1 k1) (h2 : s.heap.IsTupleIter i2 l2 k2) (hl1 : s.heap.IsTuple l1 xs) (hl2 : s.heap.IsTuple l2 ys) (hx : xs[k1]? = some x) (hy : ys[k2]? = some y)
    (hQ : ∀ h', IsZipHeld h' z TI TO T true → h'.IsTupleIter i1 l1 (k1 + 1) → h'.IsTupleIter i2 l2 (k2 + 1) → IsPair h' s.heap.objs.size x y → h'.objs.size = s.heap.objs.size + 1 →
      (∀ c o, c ≠ z → c ≠ i1 → c ≠ i2 → s.heap.get? c = some o → h'.get? c = some o) → Q (.ref s.heap.objs.size) { s with heap := h' }) :
    wpAny (model prog w) A (Builtin.«zip.__next__» ⟨[.ref z], []⟩) (fun fin s' => ∃ v, fin = .done (.ret v) ∧ Q v s') E s := by
  show wpAny _ _ (field (.ref z) 2 >>= _) _ _ _
  refine wpAny_bind (wpAny_field hz rfl (x := .bool false) rfl ?_)
  show wpAny _ _ (field (.ref z) 3 >>= _) _ _ _
  refine wpAny_bind (wpAny_field hz rfl (x := .ref TI) rfl ?_)
  refine wpAny_bind (wpAny_seqItems hTI rfl ?_)
  show wpAny _ _ (Builtin.SmallTypes.ownedTupleIsFree (.ref z) >>= _) _ _ _
  refine wpAny_bind (wpAny_tupleHeld_zip hz hT fun h₁ hz₁ hs₁ => ?_)
  simp only [Bool.false_eq_true, if_false]
  refine wpAny_bind ?_
  rw [← Array.forIn_toList]
  simp only [List.forIn_cons, List.forIn_nil]
  refine wpAny_bind (wpAny_bind (wpAny_holding ?_))
  show wpAny _ _ (Builtin.SmallTypes.nextOf (.ref i1) >>= _) _ _ _
  refine wpAny_bind (nextOf_tuple_item (s := { s with heap := h₁ }) (h1.extBut hs₁.extBut D.i1z) (hl1.extBut hs₁.extBut D.l1z) hx fun h₂ h1₂ hs₂ => wpAny_pure ?_)
  refine wpAny_pure ?_
  refine wpAny_bind (wpAny_bind (wpAny_holding ?_))
  show wpAny _ _ (Builtin.SmallTypes.nextOf (.ref i2) >>= _) _ _ _
  refine wpAny_bind (nextOf_tuple_item (s := { s with heap := h₂ }) ((h2.extBut hs₁.extBut D.i2z).extBut hs₂.extBut D.i12.symm) ((hl2.extBut hs₁.extBut D.l2z).extBut hs₂.extBut D.l2i1) hy fun h₃ h2₃ hs₃ => wpAny_pure ?_)
  refine wpAny_pure (wpAny_pure ?_)
  show wpAny _ _ (newTuple [x, y] >>= _) _ _ _
  refine wpAny_bind (wpAny_newTuple ?_)
  have hsz : h₃.objs.size = s.heap.objs.size := by rw [hs₃.1, hs₂.1, hs₁.1]
  have hz₃ : IsZipHeld h₃ z TI TO T true := hs₃.extBut _ _ D.i2z.symm (hs₂.extBut _ _ D.i1z.symm hz₁)
  have hk : ∀ c o, c ≠ z → c ≠ i1 → c ≠ i2 → s.heap.get? c = some o → h₃.get? c = some o := fun c o c1 c2 c3 e => hs₃.extBut _ _ c3 (hs₂.extBut _ _ c2 (hs₁.extBut _ _ c1 e))
  have h1₃ : h₃.IsTupleIter i1 l1 (k1 + 1) := h1₂.extBut hs₃.extBut D.i12
  refine wpAny_pure ⟨_, rfl, ?_⟩
  show Q (.ref h₃.objs.size) _
  have hp : IsPair (h₃.push { cls := .type "tuple", data := .seq #[x, y] }) h₃.objs.size x y := Heap.get?_push_size _ rfl
  have hz4 : (h₃.push { cls := .type "tuple", data := .seq #[x, y] }).objs.size = h₃.objs.size + 1 := Heap.size_push ..
  rw [hsz] at hp hz4 ⊢
  exact hQ _ (Heap.get?_push_of_some _ hz₃) (h1₃.at fun o e => Heap.get?_push_of_some _ e) (h2₃.at fun o e => Heap.get?_push_of_some _ e) hp hz4 fun c o c1 c2 c3 e => Heap.get?_push_of_some _ (hk c o c1 c2 c3 e)

theorem zipT_held_end {z TI TO T i1 i2 l1 l2 : Addr} {f : Bool} {oT : Obj} {k1 k2 : Nat} {xs ys : Array Value} {Q : Fin → Shared → Prop} (hh : A.handled = none) (D : ZipApart z TI TO i1 i2 l1 l2)
    (hz : IsZipHeld s.heap z TI TO T f) (hT : s.heap.get? T = some oT) (hTI : IsPair s.heap TI (.ref i1) (.ref i2))
    (h1 : s.heap.IsTupleIter i1 l1 k1) (h2 : s.heap.IsTupleIter i2 l2 k2) (hl1 : s.heap.IsTuple l1 xs) (hl2 : s.heap.IsTuple l2 ys) (hend : xs[k1]? = none ∨ ys[k2]? = none)
    (hE : ∀ h' e, (∀ c o, c ≠ z → c ≠ i1 → c ≠ i2 → s.heap.get? c = some o → h'.get? c = some o) → (∃ o, h'.get? e = some o ∧ o.cls = .type "StopIteration") → E (.ref e) { s with heap := h' }) :
    wpAny (model prog w) A (Builtin.«zip.__next__» ⟨[.ref z], []⟩) Q E s := by
  show wpAny _ _ (field (.ref z) 2 >>= _) _ _ _
  refine wpAny_bind (wpAny_field hz rfl (x := .bool false) rfl ?_)
  show wpAny _ _ (field (.ref z) 3 >>= _) _ _ _
  refine wpAny_bind (wpAny_field hz rfl (x := .ref TI) rfl ?_)
  refine wpAny_bind (wpAny_seqItems hTI rfl ?_)
  show wpAny _ _ (Builtin.SmallTypes.ownedTupleIsFree (.ref z) >>= _) _ _ _
  refine wpAny_bind (wpAny_tupleHeld_zip hz hT fun h₁ hz₁ hs₁ => ?_)
  simp only [Bool.false_eq_true, if_false]
  refine wpAny_bind ?_
  rw [← Array.forIn_toList]
  simp only [List.forIn_cons, List.forIn_nil]
  refine wpAny_bind (wpAny_bind (wpAny_holding ?_))
  show wpAny _ _ (Builtin.SmallTypes.nextOf (.ref i1) >>= _) _ _ _
  cases hx : xs[k1]? with
  | none =>
    refine wpAny_bind (nextOf_tuple_end (s := { s with heap := h₁ }) hh (h1.extBut hs₁.extBut D.i1z) (hl1.extBut hs₁.extBut D.l1z) hx fun h₂ e hs₂ he => ?_)
    exact hE h₂ e (fun c o c1 c2 _ x => hs₂ _ _ c2 (hs₁.extBut _ _ c1 x)) he
  | some x =>
    have hy : ys[k2]? = none := by rcases hend with h | h; rw [hx] at h; cases h; exact h
    refine wpAny_bind (nextOf_tuple_item (s := { s with heap := h₁ }) (h1.extBut hs₁.extBut D.i1z) (hl1.extBut hs₁.extBut D.l1z) hx fun h₂ h1₂ hs₂ => wpAny_pure ?_)
    refine wpAny_pure ?_
    refine wpAny_bind (wpAny_bind (wpAny_holding ?_))
    show wpAny _ _ (Builtin.SmallTypes.nextOf (.ref i2) >>= _) _ _ _
    refine wpAny_bind (nextOf_tuple_end (s := { s with heap := h₂ }) hh ((h2.extBut hs₁.extBut D.i2z).extBut hs₂.extBut D.i12.symm) ((hl2.extBut hs₁.extBut D.l2z).extBut hs₂.extBut D.l2i1) hy fun h₃ e hs₃ he => ?_)
    exact hE h₃ e (fun c o c1 c2 c3 x => hs₃ _ _ c3 (hs₂.extBut _ _ c2 (hs₁.extBut _ _ c1 x))) he

theorem nextT_held_item {z TI TO T i1 i2 l1 l2 : Addr} {f : Bool} {oT : Obj} {k1 k2 : Nat} {xs ys : Array Value} {x y : Value} {Q : Option Value → Shared → Prop} (D : ZipApart z TI TO i1 i2 l1 l2)
    (hz : IsZipHeld s.heap z TI TO T f) (hT : s.heap.get? T = some oT) (hTI : IsPair s.heap TI (.ref i1) (.ref i2))
    (h1 : s.heap.IsTupleIter i1 l1 k1) (h2 : s.heap.IsTupleIter i2 l2 k2) (hl1 : s.heap.IsTuple l1 xs) (hl2 : s.heap.IsTuple l2 ys) (hx : xs[k1]? = some x) (hy : ys[k2]? = some y)
    (hQ : ∀ h', IsZipHeld h' z TI TO T true → h'.IsTupleIter i1 l1 (k1 + 1) → h'.IsTupleIter i2 l2 (k2 + 1) → IsPair h' s.heap.objs.size x y → h'.objs.size = s.heap.objs.size + 1 →
      (∀ c o, c ≠ z → c ≠ i1 → c ≠ i2 → s.heap.get? c = some o → h'.get? c = some o) → Q (some (.ref s.heap.objs.size)) { s with heap := h' }) :
    wpAny (model prog w) A (pyNext (.ref z)) Q E s := by
  have hTy : s.TypeIs (.ref z) "zip" := ⟨_, hz, rfl⟩
  unfold pyNext
  exact wpAny_bind (wpAny_attempt (wpAny_callSpecial?_slot (name := Str.ofString "__next__") hTy F.slot_zip_next
    (wpAny_call_entry F.slot_zip_next hTy F.entry_zip_next
      (zipT_held_item D hz hT hTI h1 h2 hl1 hl2 hx hy fun h' a1 a3 a4 a5 a6 a7 => wpAny_pure (hQ h' a1 a3 a4 a5 a6 a7)) (F.args_zip_next_1 _))))
theorem nextT_held_end {z TI TO T i1 i2 l1 l2 : Addr} {f : Bool} {oT : Obj} {k1 k2 : Nat} {xs ys : Array Value} {Q : Option Value → Shared → Prop} (hh : A.handled = none) (D : ZipApart z TI TO i1 i2 l1 l2)
    (hz : IsZipHeld s.heap z TI TO T f) (hT : s.heap.get? T = some oT) (hTI : IsPair s.heap TI (.ref i1) (.ref i2))
    (h1 : s.heap.IsTupleIter i1 l1 k1) (h2 : s.heap.IsTupleIter i2 l2 k2) (hl1 : s.heap.IsTuple l1 xs) (hl2 : s.heap.IsTuple l2 ys) (hend : xs[k1]? = none ∨ ys[k2]? = none)
    (hQ : ∀ h', (∀ c o, c ≠ z → c ≠ i1 → c ≠ i2 → s.heap.get? c = some o → h'.get? c = some o) → Q none { s with heap := h' }) : wpAny (model prog w) A (pyNext (.ref z)) Q E s := by
  have hTy : s.TypeIs (.ref z) "zip" := ⟨_, hz, rfl⟩
  unfold pyNext
  refine wpAny_bind (wpAny_attempt (wpAny_callSpecial?_slot (name := Str.ofString "__next__") hTy F.slot_zip_next
    (wpAny_call_entry F.slot_zip_next hTy F.entry_zip_next (zipT_held_end hh D hz hT hTI h1 h2 hl1 hl2 hend fun h' e hk he => ?_) (F.args_zip_next_1 _))))
  obtain ⟨o, ho, hc⟩ := he
  refine wpAny_bind (wpAny_isInstance (T := "StopIteration") (b := true) ⟨o, ho, hc⟩ isSubtype_stop ?_)
  exact wpAny_pure (hQ _ hk)
end
theorem zip_no_len : typeLookup (.type "zip") "__len__" = pure none := am_miss_of_fast (by decide +kernel)
theorem zip_no_hint : typeLookup (.type "zip") "__length_hint__" = pure none := am_miss_of_fast (by decide +kernel)
/-- pairs made so far -/
def Prs (H : Hp) (xs ys vs : List V) (n : Nat) : Prop := vs.length = n ∧ ∀ j, j < n → ∃ T x y, vs[j]? = some (.ref T) ∧ H T = some (.tup [x, y]) ∧ xs[j]? = some x ∧ ys[j]? = some y
theorem Prs.ext {S : List Addr} {H H' : Hp} {xs ys vs : List V} {n : Nat} (p : Prs H xs ys vs n) (e : Ext S H H') : Prs H' xs ys vs n :=
  ⟨p.1, fun j h => let ⟨T, x, y, a, b, c⟩ := p.2 j h; ⟨T, x, y, a, e.tup _ _ b, c⟩⟩
theorem Prs.snoc {H : Hp} {xs ys vs : List V} {n : Nat} {T : Addr} {x y : V} (p : Prs H xs ys vs n) (h : H T = some (.tup [x, y])) (hx : xs[n]? = some x) (hy : ys[n]? = some y) : Prs H xs ys (vs ++ [.ref T]) (n + 1) := by
  refine ⟨by rw [List.length_append, p.1]; rfl, fun j hj => ?_⟩
  by_cases q : j < n
  · obtain ⟨T, x, y, a, b⟩ := p.2 j q
    exact ⟨T, x, y, by rw [List.getElem?_append_left (by rw [p.1]; exact q)]; exact a, b⟩
  · have e : j = n := by omega
    subst e
    exact ⟨T, x, y, by rw [List.getElem?_append_right (by rw [p.1]; exact Nat.le_refl _), p.1, Nat.sub_self]; rfl, h, hx, hy⟩
/-- the zip between its turns: fresh, or a tuple that it gave out is still there -/
def ZSt (H : Hp) (h : Heap) (z TI TO : Addr) : Prop := TO < h.objs.size ∧ ((IsZip h z TI TO .none ∧ ∃ x y, IsPair h TO x y) ∨ ∃ T f q, IsZipHeld h z TI TO T f ∧ H T = some (.tup q))
section
variable {X : Cx} {pins : List (Addr × Obj)} {σ : L2.St} {z TI TO i1 i2 a b : Addr} {xs ys : List V} {A : Around} {E : Value → Shared → Prop}
theorem zip_turn {H : Hp} {s : Shared} {i : Nat} {x y : V} {Q : Option Value → Shared → Prop} (D : ZipApart z TI TO i1 i2 a b) (I : L2.Inv X pins σ H s) (ha : SqT X.K H a xs) (hb : SqT X.K H b ys) (hTI : IsPair s.heap TI (.ref i1) (.ref i2))
    (h1 : s.heap.IsTupleIter i1 a i) (h2 : s.heap.IsTupleIter i2 b i) (hz : ZSt H s.heap z TI TO) (hf : ∀ q ∈ [z, TI, TO, i1, i2], FpOk X pins H q) (hx : xs[i]? = some x) (hy : ys[i]? = some y)
    (hQ : ∀ h' T, L2.Inv X pins σ (upd H T (.tup [x, y])) { s with heap := h' } → H T = none → IsPair h' TI (.ref i1) (.ref i2) → h'.IsTupleIter i1 a (i + 1) → h'.IsTupleIter i2 b (i + 1) → ZSt (upd H T (.tup [x, y])) h' z TI TO →
      (∀ q ∈ [z, TI, TO, i1, i2], FpOk X pins (upd H T (.tup [x, y])) q) → Q (some (.ref T)) { s with heap := h' }) : wpAny (model X.prog X.w) A (pyNext (.ref z)) Q E s := by
  obtain ⟨its, rv, p, _⟩ := I.tuple ha
  obtain ⟨its2, rv2, p2, _⟩ := I.tuple hb
  obtain ⟨u, hu, ru⟩ := rv.get hx
  obtain ⟨u2, hu2, ru2⟩ := rv2.get hy
  have hu' : its.toArray[i]? = some u := by simpa using hu
  have hu2' : its2.toArray[i]? = some u2 := by simpa using hu2
  obtain ⟨TOlt, hz⟩ := hz
  have hzl : z < s.heap.objs.size := by
    rcases hz with ⟨q, _⟩ | ⟨_, _, _, q, _⟩
    · exact Heap.lt_size q
    · exact Heap.lt_size q
  have key : ∀ (h' : Heap), IsPair h' s.heap.objs.size u u2 → h'.objs.size = s.heap.objs.size + 1 → (∀ c o, c ≠ z → c ≠ TO → c ≠ i1 → c ≠ i2 → s.heap.get? c = some o → h'.get? c = some o) → h'.IsTupleIter i1 a (i + 1) → h'.IsTupleIter i2 b (i + 1) →
      ZSt (upd H s.heap.objs.size (.tup [x, y])) h' z TI TO → Q (some (.ref s.heap.objs.size)) { s with heap := h' } := fun h' hT hsz hk a1 a2 hz' => by
    have hn : H s.heap.objs.size = none := I.hok.fresh (Nat.le_refl _)
    refine hQ h' _ (I.turnedNew (t' := s.toks) (ch := [z, TI, TO, i1, i2]) (fun c o hb q => hk c o (fun q' => hb (by simp [q'])) (fun q' => hb (by simp [q'])) (fun q' => hb (by simp [q'])) (fun q' => hb (by simp [q'])) q) hf (Nat.le_refl _)
      ⟨by show 2 ≤ sizeLine; decide, [u, u2], .cons ru (.cons ru2 .nil), ⟨_, hT, rfl, _, rfl⟩⟩) hn (hk _ _ D.TIz D.TITO D.TIi1 D.TIi2 hTI) a1 a2 hz' fun c hcm => ?_
    refine ⟨?_, (hf c hcm).2⟩
    have hlt : c < s.heap.objs.size := by
      have e' : c = z ∨ c = TI ∨ c = TO ∨ c = i1 ∨ c = i2 := by simpa using hcm
      rcases e' with q | q | q | q | q
      · rw [q]; exact hzl
      · rw [q]; exact Heap.lt_size hTI
      · rw [q]; exact TOlt
      · rw [q]; obtain ⟨_, e1, _⟩ := h1; exact Heap.lt_size e1
      · rw [q]; obtain ⟨_, e2, _⟩ := h2; exact Heap.lt_size e2
    rw [upd_ne (Nat.ne_of_lt hlt)]
    exact (hf c hcm).1
  have new : ∀ o, upd H s.heap.objs.size o s.heap.objs.size = some o := fun o => upd_same
  rcases hz with ⟨hz, x0, y0, hTO⟩ | ⟨T, f, q, hz, hq⟩
  · exact RZ.pyNext_zipT_item D hz hTI hTO h1 h2 p p2 hu' hu2' fun h' z' TO' h1' h2' hT hsz hk =>
      key h' hT hsz hk h1' h2' ⟨by rw [hsz]; exact Nat.lt_succ_of_lt TOlt, .inr ⟨_, false, _, z', new _⟩⟩
  · obtain ⟨_, itsT, _, oT, hoT, _⟩ := (show ObjOk X.prog X.w H s.heap T (.tup q) from I.hok T _ hq)
    have hTn : T ≠ s.heap.objs.size := Nat.ne_of_lt (Heap.lt_size hoT)
    refine nextT_held_item D hz hoT hTI h1 h2 p p2 hu' hu2' fun h' z' h1' h2' hT hsz hk => ?_
    exact key h' hT hsz (fun c o c1 _ c3 c4 e => hk c o c1 c3 c4 e) h1' h2' ⟨by rw [hsz]; exact Nat.lt_succ_of_lt TOlt, .inr ⟨T, true, q, z', by rw [upd_ne hTn]; exact hq⟩⟩
theorem zip_over {H : Hp} {s : Shared} {i : Nat} {Q : Option Value → Shared → Prop} (hh : A.handled = none) (D : ZipApart z TI TO i1 i2 a b) (I : L2.Inv X pins σ H s) (ha : SqT X.K H a xs) (hb : SqT X.K H b ys) (hTI : IsPair s.heap TI (.ref i1) (.ref i2))
    (h1 : s.heap.IsTupleIter i1 a i) (h2 : s.heap.IsTupleIter i2 b i) (hz : ZSt H s.heap z TI TO) (hf : ∀ q ∈ [z, TI, TO, i1, i2], FpOk X pins H q) (he : xs[i]? = none ∨ ys[i]? = none)
    (hQ : ∀ h', L2.Inv X pins σ H { s with heap := h' } → Q none { s with heap := h' }) : wpAny (model X.prog X.w) A (pyNext (.ref z)) Q E s := by
  obtain ⟨its, rv, p, _⟩ := I.tuple ha
  obtain ⟨its2, rv2, p2, _⟩ := I.tuple hb
  have l1 := rv.length
  have l2 := rv2.length
  have he' : its.toArray[i]? = none ∨ its2.toArray[i]? = none := by
    rcases he with q | q
    · rw [List.getElem?_eq_none_iff] at q
      exact .inl (by simp; omega)
    · rw [List.getElem?_eq_none_iff] at q
      exact .inr (by simp; omega)
  obtain ⟨TOlt, hz⟩ := hz
  rcases hz with ⟨hz, x0, y0, hTO⟩ | ⟨T, f, q, hz, hq⟩
  · exact RZ.pyNext_zipT_end hh D hz hTI hTO h1 h2 p p2 he' fun h' hk => hQ h' (I.turnedL (t' := s.toks) (ch := [z, TI, TO, i1, i2]) (fun c o hb q =>
      hk c o (fun q' => hb (by simp [q'])) (fun q' => hb (by simp [q'])) (fun q' => hb (by simp [q'])) (fun q' => hb (by simp [q'])) q) hf)
  · obtain ⟨_, itsT, _, oT, hoT, _⟩ := (show ObjOk X.prog X.w H s.heap T (.tup q) from I.hok T _ hq)
    exact nextT_held_end hh D hz hoT hTI h1 h2 p p2 he' fun h' hk => hQ h' (I.turnedL (t' := s.toks) (ch := [z, TI, TO, i1, i2]) (fun c o hb q =>
      hk c o (fun q' => hb (by simp [q'])) (fun q' => hb (by simp [q'])) (fun q' => hb (by simp [q'])) q) hf)
theorem Ext.newer {H0 H' : Hp} {S : Addr} {o : HO} (h : Ext [S] (upd H0 S o) H') (n : H0 S = none) : Ext [] H0 H' := by
  have k : ∀ b u, H0 b = some u → b ≠ S ∧ upd H0 S o b = some u := fun b u e => by
    have q := ne_of_none e n
    exact ⟨q, by rw [upd_ne q]; exact e⟩
  refine ⟨fun b u e _ m => h.keep b u (k b u e).2 (fun z => (k b u e).1 (by simpa using z)) m, fun b xs e => h.tup b xs (k b _ e).2, fun b u v e => h.frz b u v (k b _ e).2, fun P ⟨ps, e, t⟩ => h.tab P ⟨ps, (k P _ e).2, t⟩, fun P ps e _ => h.tbl P ps (k P _ e).2 fun z => (k P _ e).1 (by simpa using z)⟩
theorem zip_loop {S : Addr} {n : Nat} {res : Value} {R : Result → Shared → Prop} (hh : A.handled = none) (D : ZipApart z TI TO i1 i2 a b) (hn : n = min xs.length ys.length) (hm : n ≤ 100000) :
    ∀ (k i : Nat) (s : Shared) (H : Hp) (vs : List V), n - i = k → i ≤ n → L2.Inv X pins σ H s → SqT X.K H a xs → SqT X.K H b ys → IsPair s.heap TI (.ref i1) (.ref i2) → s.heap.IsTupleIter i1 a i → s.heap.IsTupleIter i2 b i → ZSt H s.heap z TI TO →
      (∀ q ∈ [z, TI, TO, i1, i2], FpOk X pins H q) → H S = some (.lst vs) → Prs H xs ys vs i →
      (∀ s' H' vs', L2.Inv X pins σ H' s' → H' S = some (.lst vs') → Prs H' xs ys vs' n → Ext [S] H H' → R (.ok (.ret res)) s') →
      codeAny (model X.prog X.w) A (.builtin "list.extend.loop" ⟨[.ref S, .ref z, res], []⟩) R s := by
  intro k
  induction k with
  | zero =>
    intro i s H vs hk hi I ha hb hTI h1 h2 hz hf hS hp hR
    have e : i = n := by omega
    subst e
    refine codeAny_builtin F.entry_extend_loop ?_
    rw [Around.under_plainId F.plain_extend_loop _]
    show wpAny _ A.in1 (pyNext (.ref z) >>= _) _ _ s
    refine wpAny_bind (zip_over hh D I ha hb hTI h1 h2 hz hf ?_ fun h' I' => wpAny_pure (hR _ H vs I' hS hp (Ext.refl _ _)))
    by_cases q : xs.length ≤ i
    · exact .inl (List.getElem?_eq_none q)
    · exact .inr (List.getElem?_eq_none (by omega))
  | succ k ih =>
    intro i s H vs hk hi I ha hb hTI h1 h2 hz hf hS hp hR
    have hx : xs[i]? = some (xs[i]'(by omega)) := List.getElem?_eq_getElem _
    have hy : ys[i]? = some (ys[i]'(by omega)) := List.getElem?_eq_getElem _
    revert hx hy
    generalize xs[i]'(by omega) = x
    generalize ys[i]'(by omega) = y
    intro hx hy
    refine codeAny_builtin F.entry_extend_loop ?_
    rw [Around.under_plainId F.plain_extend_loop _]
    show wpAny _ A.in1 (pyNext (.ref z) >>= _) _ _ s
    refine wpAny_bind (zip_turn D I ha hb hTI h1 h2 hz hf hx hy fun h' T I1 hT b1 b2 b3 b4 b5 => ?_)
    have eT : Ext [S] H (upd H T (.tup [x, y])) := (Ext.new hT).any
    have hST : S ≠ T := ne_of_none hS hT
    have hS1 : upd H T (.tup [x, y]) S = some (.lst vs) := by rw [upd_ne hST]; exact hS
    obtain ⟨zle, its, c, rv, hget⟩ := (show ObjOk X.prog X.w _ h' S (.lst vs) from I1.hok S _ hS1)
    have hlen : its.length = i := by rw [← rv.length]; exact hp.1
    have hz100 : (100000 : Nat) < sizeLine := by decide
    show wpAny _ A.in1 (updateSeq S (·.push (.ref T)) >>= _) _ _ _
    refine wpAny_bind (wpAny_updateSeq hget rfl (wpAny_pure ⟨plainId_quiet F.plain_extend_loop _, ?_⟩) (by simp; omega) (by simp; omega))
    have hnew := Heap.get?_update_self (Obj.mapSeq (·.push (Value.ref T))) hget rfl
    have oth : ∀ q o, q ≠ S → h'.get? q = some o → (h'.update S (Obj.mapSeq (·.push (Value.ref T)))).get? q = some o := fun q o n e => (Heap.get?_update_other _ _ (Ne.symm n)).trans e
    have I2 : L2.Inv X pins σ (upd (upd H T (.tup [x, y])) S (.lst (vs ++ [.ref T]))) { s with heap := h'.update S (Obj.mapSeq (·.push (Value.ref T))) } :=
      I1.write (t' := s.toks) (x := S) (e := S) (by rw [hS1]; exact True.intro) (.inl rfl) oth ⟨_, hnew⟩ ⟨by rw [List.length_append, hp.1]; show i + 1 ≤ _; omega, its ++ [.ref T], _, rv.append (.cons (show L2.RelV (.ref T) (Value.ref T) from rfl) .nil), by
        have q := hnew
        simp only [Obj.mapSeq, List.push_toArray] at q
        exact q⟩
    have eS : Ext [S] (upd H T (.tup [x, y])) (upd (upd H T (.tup [x, y])) S (.lst (vs ++ [.ref T]))) := Ext.setL List.mem_cons_self hS1
    have tT : (upd (upd H T (.tup [x, y])) S (.lst (vs ++ [.ref T]))) T = some (.tup [x, y]) := by rw [upd_ne hST.symm, upd_same]
    have ne : ∀ q ∈ [z, TI, TO, i1, i2], q ≠ S := fun q hq e => by
      have := (b5 q hq).1
      rw [e, hS1] at this
      cases this
    refine ih (i + 1) _ _ (vs ++ [.ref T]) (by omega) (by omega) I2 ((eT.trans eS).sqT ha) ((eT.trans eS).sqT hb) (oth _ _ (ne _ (by simp)) b1) (b2.at fun o e => oth _ o (ne _ (by simp)) e) (b3.at fun o e => oth _ o (ne _ (by simp)) e) ?_
      (fun q hq => ⟨by rw [upd_ne (ne q hq)]; exact (b5 q hq).1, (b5 q hq).2⟩) upd_same ((hp.ext (eT.trans eS)).snoc tT hx hy) fun s' H' vs' I' e' p' x' => hR s' H' vs' I' e' p' ((eT.trans eS).trans x')
    obtain ⟨l, b4⟩ := b4
    refine ⟨Nat.lt_of_lt_of_le l (Nat.le_of_eq (by first | rfl | exact (Heap.size_update ..).symm)), ?_⟩
    rcases b4 with ⟨q, x0, y0, q2⟩ | ⟨T', f, q, q1, q2⟩
    · exact .inl ⟨oth _ _ (ne _ (by simp)) q, x0, y0, oth _ _ (ne _ (by simp)) q2⟩
    · exact .inr ⟨T', f, q, oth _ _ (ne _ (by simp)) q1, (eS.tup _ _ q2)⟩
theorem call_list_zip {H : Hp} {s : Shared} {Q : Value → Shared → Prop} (hh : A.handled = none) (D : ZipApart z TI TO i1 i2 a b) (I : L2.Inv X pins σ H s) (ha : SqT X.K H a xs) (hb : SqT X.K H b ys) (hTI : IsPair s.heap TI (.ref i1) (.ref i2))
    (h1 : s.heap.IsTupleIter i1 a 0) (h2 : s.heap.IsTupleIter i2 b 0) (hz : IsZip s.heap z TI TO .none) (hTO : ∃ x y, IsPair s.heap TO x y) (hf : ∀ q ∈ [z, TI, TO, i1, i2], FpOk X pins H q) (hm : min xs.length ys.length ≤ 100000)
    (hQ : ∀ S s' H' vs, H S = none → L2.Inv X pins σ H' s' → H' S = some (.lst vs) → Prs H' xs ys vs (min xs.length ys.length) → Ext [] H H' → Q (.ref S) s') : wpAny (model X.prog X.w) A (call (.type "list") [.ref z]) Q E s := by
  have hSz : s.heap.objs.size ≠ z := Nat.ne_of_gt (Heap.lt_size hz)
  refine callType_codes (Q₁ := fun obj s₁ => obj = .ref s.heap.objs.size ∧ s₁ = { s with heap := s.heap.push { cls := .type "list", data := .seq #[] } }) F.called_list (F.typeCall_list_1 _) F.entry_list_init
    (code_list_new _ ⟨rfl, rfl⟩) fun obj s₁ h₁ => ?_
  obtain ⟨rfl, rfl⟩ := h₁
  have hS : (s.heap.push { cls := .type "list", data := .seq #[] }).get? s.heap.objs.size = some { cls := .type "list", data := .seq #[] } := Heap.get?_push_size _ rfl
  refine ⟨⟨_, hS, rfl⟩, F.args_list_init_2 _ _, ?_⟩
  show wpAny _ A.in1.in1 (do let old ← Builtin.List.listItems (.ref s.heap.objs.size); Builtin.List.listUpdate (.ref s.heap.objs.size) (fun _ => #[]); letGo old.toList.reverse; Builtin.List.listExtendWith (.ref s.heap.objs.size) (.ref z) .none) _ _ _
  refine wpAny_bind ?_
  unfold Builtin.List.listItems
  refine wpAny_bind (wpAny_seqItems hS rfl (wpAny_pure ?_))
  show wpAny _ A.in1.in1 (updateSeq s.heap.objs.size (fun _ => #[]) >>= fun _ => letGo (#[] : Array Value).toList.reverse >>= fun _ => Builtin.List.listExtendWith (.ref s.heap.objs.size) (.ref z) .none) _ _ _
  refine wpAny_bind (wpAny_updateSeq hS rfl ?_)
  have hS2 := Heap.get?_update_self (Obj.mapSeq (fun _ => (#[] : Array Value))) hS rfl
  refine wpAny_bind (wpAny_letGo ?_)
  unfold Builtin.List.listExtendWith
  have up : ∀ (h : Heap) (f : Obj → Obj), (∀ b o, s.heap.get? b = some o → h.get? b = some o) → ∀ b o, s.heap.get? b = some o → (h.update s.heap.objs.size f).get? b = some o := fun h f q b o e =>
    (Heap.get?_update_other _ _ (Ne.symm (Nat.ne_of_lt (Heap.lt_size e)))).trans (q b o e)
  have k1 : ∀ b o, s.heap.get? b = some o → (s.heap.push { cls := .type "list", data := .seq #[] }).get? b = some o := fun b o e => Heap.get?_push_of_some _ e
  have k2 := up _ (Obj.mapSeq (fun _ => (#[] : Array Value))) k1
  refine wpAny_bind (wpAny_typeOf (T := "zip") ⟨_, k2 _ _ hz, rfl⟩ ?_)
  have g1 : Builtin.List.listSameRef (.ref s.heap.objs.size) (.ref z) = false := by simp [Builtin.List.listSameRef, hSz]
  have g2 : (Value.type "zip" == Value.type "list") = false := by decide
  have g3 : (Value.type "zip" == Value.type "tuple") = false := by decide
  simp only [g1, g2, g3, Bool.or_false, Bool.false_eq_true, if_false]
  refine wpAny_bind (wpAny_pyIter_zip (k2 _ _ hz) ?_)
  refine wpAny_bind (wpAny_holding ?_)
  unfold Builtin.List.listLengthHint
  refine wpAny_bind (wpAny_specialOf (T := "zip") ⟨_, k2 _ _ hz, rfl⟩ zip_no_len ?_)
  show wpAny _ A.in1.in1 (specialOf (Value.ref z) (Str.ofString "__length_hint__") >>= _) _ _ _
  refine wpAny_bind (wpAny_specialOf (T := "zip") ⟨_, k2 _ _ hz, rfl⟩ zip_no_hint ?_)
  refine wpAny_pure ?_
  show wpAny _ A.in1.in1 (rule "list.extend.makes-room" >>= fun _ => Builtin.List.listTouch (.ref s.heap.objs.size) >>= fun _ =>
    again (.builtin "list.extend.loop" ⟨[.ref s.heap.objs.size, .ref z, .none], []⟩)) _ _ _
  refine wpAny_bind (wpAny_rule ?_)
  refine wpAny_bind ?_
  show wpAny _ A.in1.in1 (updateSeq s.heap.objs.size (·.push .none) >>= fun _ => updateSeq s.heap.objs.size (·.pop)) _ _ _
  refine wpAny_bind (wpAny_updateSeq hS2 rfl ?_)
  have hS3 := Heap.get?_update_self (Obj.mapSeq (·.push Value.none)) hS2 rfl
  refine wpAny_updateSeq (hz := by seq_fits) hS3 rfl ?_
  have hS4 := Heap.get?_update_self (Obj.mapSeq (·.pop)) hS3 rfl
  have k4 := up _ (Obj.mapSeq (·.pop)) (up _ (Obj.mapSeq (·.push Value.none)) k2)
  refine wpAny_pure ⟨plainId_quiet F.plain_extend_loop _, ?_⟩
  have hSn : H s.heap.objs.size = none := I.hok.fresh (Nat.le_refl _)
  have I1 : L2.Inv X pins σ (upd H s.heap.objs.size (.lst [])) { s with heap := _ } := I.laid (t' := s.toks) k4 (Nat.le_refl _) ⟨Nat.zero_le _, [], _, .nil, hS4⟩
  have e1 : Ext [] H (upd H s.heap.objs.size (.lst [])) := Ext.new hSn
  refine zip_loop (A := A.in1) (n := min xs.length ys.length) hh D rfl hm _ 0 _ _ [] rfl (Nat.zero_le _) I1 (e1.sqT ha) (e1.sqT hb) (k4 _ _ hTI) (h1.at fun o e => k4 _ o e) (h2.at fun o e => k4 _ o e) ?_ (fun q hq => ⟨?_, (hf q hq).2⟩) upd_same ⟨rfl, fun j hj => by omega⟩
    fun s' H' vs' I' e' p' x' => ⟨rfl, hQ _ s' H' vs' hSn I' e' p' (x'.newer hSn)⟩
  · obtain ⟨x0, y0, q⟩ := hTO
    exact ⟨Heap.lt_size (k4 _ _ q), .inl ⟨k4 _ _ hz, x0, y0, k4 _ _ q⟩⟩
  · have lt : q < s.heap.objs.size := by
      have e' : q = z ∨ q = TI ∨ q = TO ∨ q = i1 ∨ q = i2 := by simpa using hq
      rcases e' with e | e | e | e | e
      · rw [e]; exact Heap.lt_size hz
      · rw [e]; exact Heap.lt_size hTI
      · obtain ⟨x0, y0, q'⟩ := hTO; rw [e]; exact Heap.lt_size q'
      · rw [e]; obtain ⟨_, e1, _⟩ := h1; exact Heap.lt_size e1
      · rw [e]; obtain ⟨_, e2, _⟩ := h2; exact Heap.lt_size e2
    rw [upd_ne (Nat.ne_of_lt lt)]
    exact (hf q hq).1
end
/-- the pairs as they are read -/
def PrsF (K : PySem.W.Frag) (H : Hp) (xs ys vs : List V) (n : Nat) : Prop := vs.length = n ∧ ∀ j, j < n → ∃ T x y, vs[j]? = some (.ref T) ∧ tupF K H T = some [x, y] ∧ xs[j]? = some x ∧ ys[j]? = some y
theorem Prs.f {K : PySem.W.Frag} {H : Hp} {xs ys vs : List V} {n : Nat} (p : Prs H xs ys vs n) (k : NK K H) : PrsF K H xs ys vs n :=
  ⟨p.1, fun j h => let ⟨T, x, y, a, b, c⟩ := p.2 j h; ⟨T, x, y, a, tupF_at (NK.at k b) b, c⟩⟩
/-- list(zip(t, u)) -/
def tLZip (K : PySem.W.Frag) (ta : TA) : TE := fun σ H Q => ta σ H fun vs H1 => ∃ a b xs ys, vs = [.ref a, .ref b] ∧ tupF K H1 a = some xs ∧ tupF K H1 b = some ys ∧ min xs.length ys.length ≤ 100000 ∧
  ∀ S H2 ws, H1 S = none → Ext [] H1 H2 → H2 S = some (.lst ws) → PrsF K H2 xs ys ws (min xs.length ys.length) → Q (.ref S) H2
theorem pe_lzip {X : Cx} {e e2 : Expr} {ta : TA} {p p2 pos pos2 : Pos} (hc : X.calm = true) (hg : Gl X "zip") (hm : X.mg "zip" = none) (hgl : Gl X "list") (hml : X.mg "list" = none) (ha : PA X [e, e2] ta)
    (hs : starEach [e, e2] X.env = (false, eval e X.env) :: starEach [e2] X.env := by rfl) (hpl : (backTo pos (starEach [e2] X.env)).any (·.1) = false := by rfl)
    (hs2 : starEach [.Call (.Name "zip" p) [e, e2] [] pos] X.env = [(false, eval (.Call (.Name "zip" p) [e, e2] [] pos) X.env)] := by rfl) :
    PE X (.Call (.Name "list" p2) [.Call (.Name "zip" p) [e, e2] [] pos] [] pos2) (tLZip X.K ta) := by
  refine ⟨fun pins s σ H Q I h => ?_⟩
  refine Call_ (ld_blt I hgl hml boot_list (PyProof.Rows.callWith_type1 ?_ hs2 rfl))
  rw [hs2]
  show wpAny _ _ (spliced ((false, eval (.Call (.Name "zip" p) [e, e2] [] pos) X.env) :: backTo pos2 (starEach [] X.env))) _ _ s
  refine Calls.spliced_cons ?_
  refine Call_ (ld_blt I hg hm PyProof.Rows.boot_zip (PyProof.Rows.callWith_type1 (thn (ha.run pos pins s σ H _ I h) fun us s1 ⟨vs, H1, I1, r1, q1⟩ => ?_) hs hpl))
  obtain ⟨a, b, xs, ys, ex, hqa, hqb, hmin, q⟩ := q1
  subst ex
  cases r1 with
  | cons r rr =>
    cases rr with
    | cons r' rr =>
      cases rr
      cases r
      cases r'
      have fresh5 : ∀ c, c ∈ [s1.heap.objs.size + 4, s1.heap.objs.size + 2, s1.heap.objs.size + 3, s1.heap.objs.size, s1.heap.objs.size + 1] → FpOk X pins H1 c := fun c hcm => by
        have e' : c = s1.heap.objs.size + 4 ∨ c = s1.heap.objs.size + 2 ∨ c = s1.heap.objs.size + 3 ∨ c = s1.heap.objs.size ∨ c = s1.heap.objs.size + 1 := by simpa using hcm
        have hle : s1.heap.objs.size ≤ c := by
          rcases e' with z | z | z | z | z <;> rw [z]
          · exact Nat.le_add_right _ _
          · exact Nat.le_add_right _ _
          · exact Nat.le_add_right _ _
          · exact Nat.le_refl _
          · exact Nat.le_add_right _ _
        exact I1.fpOk hle (I1.hok.fresh hle)
      obtain ⟨its, rv, p1, _⟩ := I1.tuple (tupF_sq hqa)
      obtain ⟨its2, rv2, p2, _⟩ := I1.tuple (tupF_sq hqb)
      obtain ⟨o1, ho1, _⟩ := id p1
      obtain ⟨o2, ho2, _⟩ := id p2
      refine call_zipT (show s1.heap.IsTuple a its.toArray from p1) (show s1.heap.IsTuple b its2.toArray from p2) fun h' hz hTI hTO h1 h2 hsz hk => Calls.spliced_nil ?_
      have I2 : L2.Inv X pins σ H1 { s1 with heap := h' } := I1.kept (t' := s1.toks) hk
      exact call_list_zip (I1.ok.hd hc) (PySem.W.ktu_apart s1.heap.objs.size a b (Heap.lt_size ho1) (Heap.lt_size ho2)) I2 (tupF_sq hqa) (tupF_sq hqb) hTI h1 h2 hz ⟨_, _, hTO⟩ fresh5 hmin fun S s' H' vs hS I' e' p' x' => ⟨.ref S, H', I', rfl, q S H' vs hS x' e' (p'.f (inv_nk I'))⟩
end Sq
set_option Elab.async false
set_option linter.all false
set_option maxRecDepth 100000
set_option maxHeartbeats 2000000
namespace Sq
open PySem PySem.Spec PyProof.Rows L2 RZ
open PySem.AutoSeq1 (wpAny_loadPart')
theorem enumT_new (l : Addr) (items : Array Value) (n : Nat) (dct : Option Addr) (sl : Array (Option Value)) :
    Meets (Builtin.«enumerate.__new__» ⟨[.type "enumerate", .ref l], []⟩) (fun _ R s => s.heap.get? l = some { cls := .type "tuple", dict := dct, data := .seq items n, slots := sl } ∧
      R (.ok (.ret (.ref (s.heap.push { cls := .type "tuple_iterator", data := .fields #[.ref l, .int 0 0] }).objs.size)))
        { s with heap := (s.heap.push { cls := .type "tuple_iterator", data := .fields #[.ref l, .int 0 0] }).push { cls := .type "enumerate", data := .fields #[.none, .bool false, .ref s.heap.objs.size, rawInt 0, .none, .none] } }) :=
  .of_wp fun prog w A R s h => by
    obtain ⟨hp, g, d, tk, os⟩ := s; obtain ⟨hl, h⟩ := h
    have hsub := sub_enumerate
    have hL : Heap.IsTuple (Shared.heap ⟨hp, g, d, tk, os⟩) l items := ⟨_, hl, rfl, n, rfl⟩
    wp_walk using wpAny_loadPart' hl
    refine wpAny_stack_any fun st => wpAny_pure ?_
    split
    · rename_i c _ _ _ _ _
      cases (c == Value.type "enumerate")
      · wp_walk using wpAny_loadPart' hl, wpAny_pyIter_tuple hL
        exact ⟨_, rfl, h⟩
      · wp_walk using wpAny_loadPart' hl, wpAny_pyIter_tuple hL
        exact ⟨_, rfl, h⟩
    · wp_walk using wpAny_loadPart' hl, wpAny_pyIter_tuple hL
      exact ⟨_, rfl, h⟩

section
variable {prog : Program} {w : World} {A : Around} {E : Value → Shared → Prop} {s : Shared}
theorem call_enumT {l : Addr} {items : Array Value} {Q : Value → Shared → Prop} (hL : s.heap.IsTuple l items)
    (h : ∀ h', IsEnum h' (s.heap.objs.size + 1) s.heap.objs.size 0 .none → h'.IsTupleIter s.heap.objs.size l 0 → h'.objs.size = s.heap.objs.size + 2 →
      (∀ b o, s.heap.get? b = some o → h'.get? b = some o) → Q (.ref (s.heap.objs.size + 1)) { s with heap := h' }) :
    wpAny (model prog w) A (call (.type "enumerate") [.ref l]) Q E s := by
  obtain ⟨⟨c, dct, dt, sl⟩, hl, hc, n, hd⟩ := hL
  replace hc : c = .type "tuple" := hc
  replace hd : dt = .seq items n := hd
  subst hc hd
  refine callType_new F.called_enumerate (by decide) (F.typeCall_enumerate_1 _) (F.newCall_enumerate_1 _) (fun obj => F.args_object_init_2 obj _) F.entry_enumerate_new
    (enumT_new l items n dct sl) ⟨hl, ?_⟩
  have hz : (s.heap.push { cls := .type "tuple_iterator", data := .fields #[.ref l, .int 0 0] }).objs.size = s.heap.objs.size + 1 := Heap.size_push ..
  show _ ∧ _
  rw [hz]
  have he : IsEnum ((s.heap.push { cls := .type "tuple_iterator", data := .fields #[.ref l, .int 0 0] }).push
      { cls := .type "enumerate", data := .fields #[.none, .bool false, .ref s.heap.objs.size, rawInt 0, .none, .none] }) (s.heap.objs.size + 1) s.heap.objs.size 0 .none := by
    have := Heap.get?_push_size (s.heap.push { cls := .type "tuple_iterator", data := .fields #[.ref l, .int 0 0] })
      (o := { cls := .type "enumerate", data := .fields #[.none, .bool false, .ref s.heap.objs.size, rawInt 0, .none, .none] }) rfl
    rw [hz] at this; exact this
  refine ⟨⟨_, he, rfl⟩, h _ he ⟨_, Heap.get?_push_of_some _ (Heap.get?_push_size _ rfl), rfl, rfl⟩ (by rw [Heap.size_push, hz]) fun b o x => Heap.get?_push_of_some _ (Heap.get?_push_of_some _ x)⟩

end
theorem drawsT {prog : Program} {w : World} {A : Around} (hh : A.handled = none) (it l : Addr) (hne : l ≠ it) (items : Array Value) :
    Draws prog w A it [it, l] items.size (fun i v => items[i]? = some v) (fun i h => h.IsTupleIter it l i ∧ h.IsTuple l items) where
  live := fun _ _ st => let ⟨o, ho, _⟩ := st.1; ⟨o, ho⟩
  frame := fun _ _ _ st hk => ⟨st.1.at fun o e => hk it (by simp) o e, let ⟨o, e, r⟩ := st.2; ⟨o, hk l (by simp) o e, r⟩⟩
  item := fun i s Q E hi st hQ => by
    refine nextOf_tuple_item st.1 st.2 (x := items[i]) (by simp [hi]) fun h' hit' hs' => ?_
    exact hQ _ h' s.toks (by simp [hi]) ⟨hit', st.2.extBut hs'.extBut hne⟩ hs'
  done := fun s Q E st hE => nextOf_tuple_end hh st.1 st.2 (by simp) hE
theorem wpAny_pyNext_enum_endT {prog : Program} {w : World} {A : Around} {E : Value → Shared → Prop} {s : Shared} {e it l : Addr} {i : Nat} {items : Array Value} {old : Value} {Q : Option Value → Shared → Prop} (hh : A.handled = none)
    (he : IsEnum s.heap e it i old) (hit : s.heap.IsTupleIter it l i) (hl : s.heap.IsTuple l items) (hx : items[i]? = none)
    (hQ : ∀ h', Heap.ExtBut it s.heap h' → Q none { s with heap := h' }) : wpAny (model prog w) A (pyNext (.ref e)) Q E s := by
  have hT : s.TypeIs (.ref e) "enumerate" := ⟨_, he, rfl⟩
  unfold pyNext
  refine wpAny_bind (wpAny_attempt (wpAny_callSpecial?_slot (name := Str.ofString "__next__") hT F.slot_enumerate_next
    (wpAny_call_entry F.slot_enumerate_next hT F.entry_enumerate_next ?_ (F.args_enumerate_next_1 _))))
  show wpAny _ _ (field (.ref e) 2 >>= _) _ _ _
  refine wpAny_bind (wpAny_field he rfl (x := .ref it) rfl ?_)
  refine wpAny_bind (nextOf_tuple_end hh hit hl hx fun h' x he' hx' => ?_)
  obtain ⟨o, ho, hc⟩ := hx'
  refine wpAny_bind (wpAny_isInstance (T := "StopIteration") (b := true) ⟨o, ho, hc⟩ isSubtype_stop ?_)
  exact wpAny_pure (hQ _ he')
def IteT (K : PySem.W.Frag) (a : Addr) : It :=
  ⟨fun i H => ∃ (xs : List V) (x : V), SqT K H a xs ∧ xs[i]? = some x, fun i H v H' => ∃ T x, v = .ref T ∧ H T = none ∧ H' = upd H T (.tup [.int (i : Nat), x]) ∧ ∀ xs, SqT K H a xs → xs[i]? = some x, fun i H => ∃ xs : List V, SqT K H a xs ∧ xs.length ≤ i⟩
theorem turn_enumT {P : Program} {w : World} {K : PySem.W.Frag} {elts : List Expr} {kk : Nat} {tpos : Pos} (a e it : Addr) :
    Turn P w K (.Tuple elts kk tpos) (IteT K a) [e, it] e (fun i h => (∃ old, IsEnum h e it ((i : Nat) : Int) old) ∧ h.IsTupleIter it a i ∧ e ≠ it ∧ a ≠ it ∧ a ≠ e) where
  mem := by simp
  obj := fun i h st b hb => by
    obtain ⟨⟨old, he⟩, ⟨o, ho, hc, hd⟩, _⟩ := st
    have e' : b = e ∨ b = it := by simpa using hb
    rcases e' with z | z
    · rw [z]; exact ⟨_, he, fun v q => nomatch q⟩
    · rw [z]; exact ⟨o, ho, fun v q => by rw [hd] at q; cases q⟩
  keep := fun i h h' st k => let ⟨⟨old, he⟩, hi, hne⟩ := st; ⟨⟨old, k e (by simp) _ he⟩, hi.at fun o q => k it (by simp) o q, hne⟩
  item := by
    intro X hP hw hK hc i pins s σ H E I hf st hg
    subst hP hw hK
    obtain ⟨⟨old, he⟩, hit, hne⟩ := st
    obtain ⟨xs, x, hq, hx⟩ := hg
    obtain ⟨its, rv, p, hz⟩ := I.tuple hq
    obtain ⟨u, hu, ru⟩ := rv.get hx
    have hel : e < s.heap.objs.size := Heap.lt_size he
    have hil : it < s.heap.objs.size := by obtain ⟨_, q, _⟩ := hit; exact Heap.lt_size q
    have hn : i < its.toArray.size := by
      have := rv.length
      have := (List.getElem?_eq_some_iff.mp hx).1
      simp
      omega
    refine wpAny_pyNext_enum_itemD (drawsT (prog := X.prog) (w := X.w) (A := X.A.in1) (show X.A.in1.handled = none from I.ok.hd hc) it a hne.2.1 its.toArray) he ⟨hit, p⟩ hn hne.1 (by simp; exact ⟨hne.1, hne.2.2.symm⟩) fun u' h' tk hu' ho ⟨hit', _⟩ hT hsz hk => ?_
    have eu : u' = u := by
      have hu2 : its.toArray[i]? = some u := by simpa using hu
      rw [hu2] at hu'
      exact (Option.some.inj hu').symm
    subst eu
    refine ⟨_, rfl, wpAny_letOwnedTupleGo_enum (s := { s with heap := h', toks := tk + 1 }) ho fun h'' he' sb => ?_⟩
    have hT2 : h''.get? s.heap.objs.size = some { cls := .type "tuple", data := .seq #[.int i tk, u'] } := (sb.2 _ (Nat.ne_of_gt hel)).trans hT
    have new : ObjOk X.prog X.w (upd H s.heap.objs.size (.tup [.int (i : Nat), x])) h'' s.heap.objs.size (.tup [.int (i : Nat), x]) :=
      ⟨by show 2 ≤ sizeLine; decide, [.int i tk, u'], .cons ⟨_, rfl⟩ (.cons ru .nil), ⟨_, hT2, rfl, _, rfl⟩⟩
    have I1 : Inv X pins σ (upd H s.heap.objs.size (.tup [.int (i : Nat), x])) { s with heap := h'', toks := tk + 1 } :=
      I.turnedNew (ch := [e, it]) (fun b ob hb q => (sb.2 b (fun z => hb (by simp [z]))).trans (hk b ob (fun z => hb (by simp [z])) (fun z => hb (by simp [z])) q)) hf (Nat.le_refl _) new
    refine ⟨.ref s.heap.objs.size, _, I1, rfl, ⟨_, x, rfl, I.hok.fresh (Nat.le_refl _), rfl, fun ys hy => by rw [I.tuple_inj hy hq]; exact hx⟩, ⟨⟨u', ?_⟩, hit'.at fun o q => (sb.2 it (Ne.symm hne.1)).trans q, hne⟩, fun b hb => ?_⟩
    · have e1 : ((i + 1 : Nat) : Int) = (i : Int) + 1 := by omega
      rw [e1]; exact he'
    · have hb' : b < s.heap.objs.size := by
        have e' : b = e ∨ b = it := by simpa using hb
        rcases e' with z | z
        · rw [z]; exact hel
        · rw [z]; exact hil
      rw [upd_ne (Nat.ne_of_lt hb')]
      exact (hf b hb).1
  done := by
    intro X hP hw hK hc i pins s σ H E I hf st hg
    subst hP hw hK
    obtain ⟨⟨old, he⟩, hit, hne⟩ := st
    obtain ⟨xs, hq, hx⟩ := hg
    obtain ⟨its, rv, p, hz⟩ := I.tuple hq
    obtain ⟨f0, f1, f2, f3, f4, f5⟩ := hf it (by simp)
    have hl := rv.length
    have en : i = its.toArray.size ∨ i > its.toArray.size := by simp; omega
    exact wpAny_pyNext_enum_endT (I.ok.hd hc) he hit p (by simp; omega) fun h' eb => ⟨rfl, I.turned (t' := s.toks) (fun b o hb q => eb b o hb q) f0 f1 f3 f4 f5⟩
  self := fun A i s Q E st h => let ⟨⟨_, he⟩, _⟩ := st; wpAny_pyIter_enum he h
def iEnumF (K : PySem.W.Frag) (ta : TA) : TI := fun σ H R => ta σ H fun vs H1 => ∃ a xs, vs = [.ref a] ∧ tupF K H1 a = some xs ∧ R (IteT K a) H1
theorem pi_enumF {X : Cx} {e : Expr} {ta : TA} {p pos tpos : Pos} {elts : List Expr} {kk : Nat} (hg : Gl X "enumerate") (hm : X.mg "enumerate" = none) (ha : PA X [e] ta) (hs : starEach [e] X.env = [(false, eval e X.env)] := by rfl) :
    PI X (.Tuple elts kk tpos) (.Call (.Name "enumerate" p) [e] [] pos) (iEnumF X.K ta) := by
  refine ⟨fun pins s σ H R I h => ?_⟩
  refine Call_ (ld_blt I hg hm boot_enumerate (PyProof.Rows.callWith_type1 (thn (ha.run pos pins s σ H _ I h) fun us s1 ⟨vs, H1, I1, r1, q1⟩ => ?_) hs rfl))
  obtain ⟨a, xs, ex, hq, q⟩ := q1
  subst ex
  cases r1 with
  | cons r rr =>
    cases rr
    cases r
    obtain ⟨its, rv, p', hz⟩ := I1.tuple (tupF_sq hq)
    have hal : a < s1.heap.objs.size := by obtain ⟨o1, ho1, _⟩ := id p'; exact Heap.lt_size ho1
    refine call_enumT (show s1.heap.IsTuple a its.toArray from p') fun h' he hit hsz hk => wpAny_pyIter_enum he ?_
    have I2 : Inv X pins σ H1 { s1 with heap := h' } := I1.kept (t' := s1.toks) hk
    refine ⟨s1.heap.objs.size + 1, [s1.heap.objs.size + 1, s1.heap.objs.size], _, _, H1, rfl, I2, turn_enumT a (s1.heap.objs.size + 1) s1.heap.objs.size, ⟨⟨.none, he⟩, hit, Nat.succ_ne_self _, Nat.ne_of_lt hal, Nat.ne_of_lt (Nat.lt_succ_of_lt hal)⟩, fun b hb => ?_, q⟩
    have e' : b = s1.heap.objs.size + 1 ∨ b = s1.heap.objs.size := by simpa using hb
    have hle : s1.heap.objs.size ≤ b := by
      rcases e' with z | z
      · rw [z]; exact Nat.le_add_right _ _
      · rw [z]; exact Nat.le_refl _
    exact I1.fpOk hle (I1.hok.fresh hle)
theorem walk_enumT {K : PySem.W.Frag} {a : Addr} {xs : List V} : Walk (IteT K a) xs.length (fun H => SqT K H a xs) (YPair (fun i => some (.int (i : Nat))) (fun i => xs[i]?)) := by
  refine ⟨fun i _ hi q => ⟨xs, xs[i], q, by simp [hi]⟩, fun _ q => ⟨xs, q, Nat.le_refl _⟩, fun i H v H' _ q y => ?_⟩
  obtain ⟨T, x, h1, h2, h3, h4⟩ := y
  exact ⟨T, .int (i : Nat), x, h1, h2, h3, rfl, h4 xs q⟩
theorem walk_zipT {K : PySem.W.Frag} {a b : Addr} {xs ys : List V} {n : Nat} (hn : n = min xs.length ys.length) : Walk (ItzT K a b) n (fun H => SqT K H a xs ∧ SqT K H b ys) (YPair (fun i => xs[i]?) (fun i => ys[i]?)) := by
  subst hn
  refine ⟨fun i _ hi q => ?_, fun _ q => ⟨xs, ys, q.1, q.2, by omega⟩, fun i H v H' _ q y => ?_⟩
  · have h1 : i < xs.length := by omega
    have h2 : i < ys.length := by omega
    exact ⟨xs, ys, xs[i], ys[i], q.1, q.2, by simp [h1], by simp [h2]⟩
  · obtain ⟨T, x, z, h1, h2, h3, h4, h5⟩ := y
    exact ⟨T, x, z, h1, h2, h3, h4 xs q.1, h5 ys q.2⟩
end Sq
set_option Elab.async false
set_option linter.all false
set_option maxRecDepth 100000
set_option maxHeartbeats 2000000
namespace Sq
open PySem PySem.Spec PyProof.Rows L2
/-! ### dicts with texts as keys, as they are read -/
def dcO : Option HO → Option (List (Key × V))
  | some (.dK kvs) => some kvs
  | some (.frz _ (.dK kvs)) => some kvs
  | _ => none
def dctF (H : Hp) (a : Addr) : Option (List (Key × V)) := dcO (H a)
theorem dctF_dK {H : Hp} {a : Addr} {kvs : List (Key × V)} (h : H a = some (.dK kvs)) : dctF H a = some kvs := by unfold dctF; rw [h]; rfl
theorem dctF_frz {H : Hp} {a : Addr} {o : Obj} {kvs : List (Key × V)} (h : H a = some (.frz o (.dK kvs))) : dctF H a = some kvs := by unfold dctF; rw [h]; rfl
theorem dctF_rd {H : Hp} {a : Addr} {kvs : List (Key × V)} (h : dctF H a = some kvs) : Rd H a (.dK kvs) := by
  unfold dctF dcO at h
  split at h
  · rename_i e; cases h; exact .inl e
  · rename_i o _ e; cases h; exact .inr ⟨o, e⟩
  · cases h
theorem dctF_ext {S : List Addr} {H H' : Hp} {a : Addr} {kvs : List (Key × V)} (e : Ext S H H') (n : a ∉ S) (h : dctF H a = some kvs) : dctF H' a = some kvs := by
  rcases dctF_rd h with q | ⟨o, q⟩
  · exact dctF_dK (e.dK q n)
  · exact dctF_frz (e.frz _ _ _ q)
/-! ### locks -/
theorem Ext.lock {H : Hp} {d : Addr} {u : HO} {o : Obj} (e : H d = some u) (h1 : ∀ xs, u ≠ .tup xs) (h2 : ∀ o v, u ≠ .frz o v) (h3 : ∀ ps, u ≠ .tbl ps) : Ext [d] H (upd H d (.frz o u)) := Ext.set List.mem_cons_self e h1 h2 h3
theorem Ext.lockD {H : Hp} {d : Addr} {kvs : List (Key × V)} {o : Obj} (e : H d = some (.dK kvs)) : Ext [d] H (upd H d (.frz o (.dK kvs))) := Ext.lock e (fun _ z => by cases z) (fun _ _ z => by cases z) (fun _ z => by cases z)
theorem Ext.unlockD {S : List Addr} {H H' : Hp} {d : Addr} {kvs : List (Key × V)} {o : Obj} (e : H d = some (.dK kvs)) (h : Ext S (upd H d (.frz o (.dK kvs))) H') : Ext S H (upd H' d (.dK kvs)) := by
  have k : ∀ b u, H b = some u → b ≠ d → upd H d (.frz o (.dK kvs)) b = some u := fun b u q n => by rw [upd_ne n]; exact q
  have nd : ∀ b u, H b = some u → u ≠ .dK kvs → b ≠ d := fun b u q n z => n (by rw [z, e] at q; exact (Option.some.inj q).symm)
  have up : ∀ b u, b ≠ d → H' b = some u → upd H' d (.dK kvs) b = some u := fun b u n q => by rw [upd_ne n]; exact q
  refine ⟨fun b u q n m => ?_, fun b xs q => ?_, fun b u v q => ?_, fun P ⟨ps, q, t⟩ => ?_, fun P ps q m => ?_⟩
  · by_cases z : b = d
    · subst z
      rw [e] at q
      cases q
      exact upd_same
    · exact up b u z (h.keep b u (k b u q z) n m)
  · have z := nd b _ q fun x => by cases x
    exact up b _ z (h.tup b xs (k b _ q z))
  · have z := nd b _ q fun x => by cases x
    exact up b _ z (h.frz b u v (k b _ q z))
  · have z := nd P _ q fun x => by cases x
    obtain ⟨ps', q', t'⟩ := h.tab P ⟨ps, k P _ q z, t⟩
    exact ⟨ps', up P _ z q', t'⟩
  · have z := nd P _ q fun x => by cases x
    exact up P _ z (h.tbl P ps (k P _ q z) m)
def tLockD (t : TE) : TE := fun σ H Q => ∃ d kvs, H d = some (.dK kvs) ∧ ∀ o, t σ (upd H d (.frz o (.dK kvs))) fun v H' => H' d = some (.frz o (.dK kvs)) ∧ Q v (upd H' d (.dK kvs))
theorem pe_lockD {X : Cx} {e : Expr} {t : TE} (h : PE X e t) : PE X e (tLockD t) := ⟨fun pins s σ H Q I ⟨d, kvs, e, q⟩ => (pe_lock h).run pins s σ H Q I ⟨d, .dK kvs, e, True.intro, q⟩⟩
def tLockS (t : TS) : TS := fun D σ H => ∃ d kvs, H d = some (.dK kvs) ∧ ∀ od, t ⟨fun σ' H' => H' d = some (.frz od (.dK kvs)) ∧ D.nx σ' (upd H' d (.dK kvs)), fun v H' => H' d = some (.frz od (.dK kvs)) ∧ D.rt v (upd H' d (.dK kvs)), fun σ' H' => H' d = some (.frz od (.dK kvs)) ∧ D.bk σ' (upd H' d (.dK kvs)), fun σ' H' => H' d = some (.frz od (.dK kvs)) ∧ D.ct σ' (upd H' d (.dK kvs))⟩ σ (upd H d (.frz od (.dK kvs)))
theorem ps_lockD {X : Cx} {st : Stmt} {t : TS} (h : PS X st t) : PS X st (tLockS t) := ⟨fun pins s σ H D I ⟨d, kvs, e, q⟩ => (ps_lock h).run pins s σ H D I ⟨d, .dK kvs, e, True.intro, q⟩⟩
/-! ### rules -/
section
variable {X : Cx} {o i e f value : Expr} {apos cpos pos pos' : Pos} {td ty tx tv : TE}
def tDG2 (td ty tx : TE) : TE := fun σ H Q => td σ H fun x H1 => ∃ a kvs, x = .ref a ∧ dctF H1 a = some kvs ∧ ty σ H1 fun y H2 => tx σ H2 fun z H3 => ∃ n kvs, y = .str n ∧ dctF H3 a = some kvs ∧ Q ((valV kvs (.inr n)).getD z) H3
theorem pe_dget2F (hu : X.A.units + 1 < cLine) (ho : PE X o td) (he : PE X e ty) (hf : PE X f tx) (m : M2 X o "get" apos e f cpos) : PE X (.Call (.Attribute o "get" apos) [e, f] [] cpos) (tDG2 td ty tx) := by
  refine ⟨fun pins s σ H Q I h => ?_⟩
  refine wpAny_Call_method m.base m.few m.line PySem.F.plainAttrs_dict PySem.F.slot_dict_get PySem.F.type_dict_get (thn (ho.run pins s σ H _ I h) fun u s1 ⟨x, H1, I1, rx, a, kvs, ex, d, q1⟩ => ?_)
  subst ex
  obtain rfl : u = Value.ref a := rx
  obtain ⟨t1, t2, _⟩ := isD_at I1 (.inl ⟨kvs, dctF_rd d⟩)
  refine ⟨t1, t2, ?_⟩
  rw [m.trees]
  refine Calls.callWith_builtin rfl (Calls.evalArgs_plain (Calls.spliced_cons (thn (he.run pins s1 σ H1 _ I1 q1) fun iv s2 ⟨y, H2, I2, ry, q2⟩ => Calls.spliced_cons (thn (hf.run pins s2 σ H2 _ I2 q2) fun fv s3 ⟨z, H3, I3, rz, n, kvs', ey, g, q3⟩ => Calls.spliced_nil ?_))))
  subst ey
  exact d_get2 hu I3 (.inl ⟨kvs', .inr n, dctF_rd g, rfl, rfl⟩) ry rz fun w' s4 I4 rw' => ⟨_, H3, I4, rw', q3⟩
/-- d[y] -/
def tDGF (td ty : TE) : TE := fun σ H Q => td σ H fun x H1 => ty σ H1 fun y H2 => ∃ a n kvs v, x = .ref a ∧ y = .str n ∧ dctF H2 a = some kvs ∧ valV kvs (.inr n) = some v ∧ Q v H2
theorem pe_dgetF (hu : X.A.units + 1 < cLine) (ho : PE X o td) (hi : PE X i ty) (hs : NoSl i) : PE X (.Subscript o i pos) (tDGF td ty) := by
  refine ⟨fun pins s σ H Q I h => ?_⟩
  refine subD_of PySem.F.slot_dict_getitem.lookup hs (thn (ho.run pins s σ H _ I h) fun u s1 ⟨x, H1, I1, rx, q1⟩ => thn (hi.run pins s1 σ H1 _ I1 q1) fun iv s2 ⟨y, H2, I2, ry, a, n, kvs, v, ex, ey, g, l, q2⟩ => ?_)
  subst ex ey
  obtain rfl : u = Value.ref a := rx
  have g' : DGet H2 a (.str n) (some v) := .inl ⟨kvs, .inr n, dctF_rd g, rfl, l.symm⟩
  exact ⟨dict_typeIs I2 g', d_getItem hu I2 g' ry fun w' s3 I3 rw' => ⟨v, H2, I3, rw', q2⟩⟩
/-- y in d, y not in d -/
def tDInF (ty td : TE) : TE := fun σ H Q => ty σ H fun y H1 => td σ H1 fun x H2 => ∃ a n kvs, x = .ref a ∧ y = .str n ∧ dctF H2 a = some kvs ∧ Q (.bl (valV kvs (.inr n)).isSome) H2
def tDNInF (ty td : TE) : TE := fun σ H Q => ty σ H fun y H1 => td σ H1 fun x H2 => ∃ a n kvs, x = .ref a ∧ y = .str n ∧ dctF H2 a = some kvs ∧ Q (.bl (!(valV kvs (.inr n)).isSome)) H2
theorem pc_dinF (hu : X.A.units + 1 < cLine) (hi : PE X i ty) (ho : PE X o td) : PC X .In i o (tDInF ty td) := by
  refine ⟨fun pins s σ H Q I h => ?_⟩
  refine thn (hi.run pins s σ H _ I h) fun iv s1 ⟨y, H1, I1, ry, q1⟩ => thn (ho.run pins s1 σ H1 _ I1 q1) fun u s2 ⟨x, H2, I2, rx, a, n, kvs, ex, ey, g, q2⟩ => ?_
  subst ex ey
  obtain rfl : u = Value.ref a := rx
  exact d_in hu I2 (.inl ⟨kvs, .inr n, dctF_rd g, rfl, rfl⟩) ry fun s3 I3 => ⟨.bl _, H2, I3, rfl, q2⟩
theorem pc_dnotinF (hu : X.A.units + 1 < cLine) (hi : PE X i ty) (ho : PE X o td) : PC X .NotIn i o (tDNInF ty td) := by
  refine ⟨fun pins s σ H Q I h => ?_⟩
  refine thn (hi.run pins s σ H _ I h) fun iv s1 ⟨y, H1, I1, ry, q1⟩ => thn (ho.run pins s1 σ H1 _ I1 q1) fun u s2 ⟨x, H2, I2, rx, a, n, kvs, ex, ey, g, q2⟩ => ?_
  subst ex ey
  obtain rfl : u = Value.ref a := rx
  exact d_notIn hu I2 (.inl ⟨kvs, .inr n, dctF_rd g, rfl, rfl⟩) ry fun s3 I3 => ⟨.bl _, H2, I3, rfl, q2⟩
/-- d[y] = v -/
def sDPutF (td ty tv : TE) : TS := fun D σ H => tv σ H fun v H1 => td σ H1 fun x H2 => ty σ H2 fun y H3 => ∃ a n kvs, x = .ref a ∧ y = .str n ∧ H3 a = some (.dK kvs) ∧ kvs.length < sizeLine ∧ ∀ H4, Ext [a] H3 H4 → H4 a = some (.dK (putK kvs (.inr n) v)) → D.nx σ H4
theorem ps_dputF (hu : X.A.units + 1 < cLine) (ho : PE X o td) (hi : PE X i ty) (hv : PE X value tv) (hs : swapsWith value (some (.Subscript o i pos')) pos.line X.env = pure false) :
    PS X (.Assign [.Subscript o i pos'] value pos) (sDPutF td ty tv) := by
  refine ⟨fun pins s σ H D I h => ?_⟩
  refine wpAny_Assign_Subscript (thn (hv.run pins s σ H _ I h) fun r s1 ⟨v, H1, I1, rv, q1⟩ => thn (ho.run pins s1 σ H1 _ I1 q1) fun u s2 ⟨x, H2, I2, rx, q2⟩ => thn (hi.run pins s2 σ H2 _ I2 q2) fun iv s3 ⟨y, H3, I3, ry, a, n, kvs, ex, ey, g, hz, q3⟩ => ?_) hs
  subst ex ey
  obtain rfl : u = Value.ref a := rx
  exact d_setItem hu I3 (.inl ⟨kvs, .inr n, g, rfl, hz, rfl⟩) ry rv fun s4 I4 => ⟨σ, _, I4, q3 _ (Ext.setD List.mem_cons_self g) upd_same⟩
/-- {} -/
def tDNewF : TE := fun _ H Q => ∀ p H2, H p = none → Ext [] H H2 → H2 p = some (.dK []) → Q (.ref p) H2
theorem pe_dnewF : PE X (.Dict [] [] pos) tDNewF := ⟨fun pins s σ H Q I h => pe_dnewK.run pins s σ H Q I fun p hp => h p _ hp (Ext.new hp) upd_same⟩
/-- sorted(d) -/
def rSortD : List V → Hp → VK → Prop := fun xs H Q => ∃ (a : Addr) (kvs : List (Key × V)), xs = [.ref a] ∧ dctF H a = some kvs ∧ ∃ ks : List Str, kvs.map (·.1) = ks.map Sum.inr ∧ ks.length < 64 ∧ ∀ ys p H2, ys.Perm ks → sortedS ys = true → H p = none → Ext [] H H2 → H2 p = some (.lst (ys.map V.str)) → Q (.ref p) H2
theorem call_sortedF (hcalm : X.calm = true) : CallR X (.builtin "sorted") rSortD := fun pins s σ H xs us Q I r ⟨a, kvs, e, h, ks, hk, hl, q⟩ =>
  call_sortedD hcalm pins s σ H xs us Q I r ⟨a, kvs, ks, e, dctF_rd h, hk, hl, fun ys p h1 h2 h3 => q ys p _ h1 h2 h3 (Ext.new h3) upd_same⟩
end
/-! ### dict comprehensions -/
def DcB (J : It) (g : TG) (tt : TT) (tk tv : TE) (vs : List Nat) (σ : L2.St) (H1 : Hp) (Q : VK) : Prop := ∀ D, H1 D = none → ∃ W : Nat → Nat → Hp → Prop, (∃ m, W 0 m (upd H1 D (.dK []))) ∧ ∀ i m H, W i m H →
  (J.stop i H ∧ Q (.ref D) H) ∨ (J.go i H ∧ ∃ Nx : Hp → Prop, (∀ H', Nx H' → ∃ m', m' < m ∧ W (i + 1) m' H') ∧ ∀ x H', J.yld i H x H' → g x (wipe σ vs) H' fun σ2 H2 => wipe σ2 vs = wipe σ vs ∧ tt σ2 H2 fun b H3 =>
    if b = true then tk σ2 H3 fun y H4 => tv σ2 H4 fun z H5 => ∃ kvs k, y = kV k ∧ H5 D = some (.dK kvs) ∧ kvs.length < sizeLine ∧ Nx (upd H5 D (.dK (putK kvs k z))) else Nx H3)
def tDcF (wi : TI) (g : TG) (tt : TT) (tk tv : TE) (vs : List Nat) : TE := fun σ H Q => wi σ H fun J H1 => DcB J g tt tk tv vs σ H1 Q
theorem pe_dcF {X : Cx} {kx vx tg iter : Expr} {ifs : List Expr} {scope : Scope} {own : List (Str × Nat)} {pos : Pos} {wi : TI} {g : TG} {tt : TT} {tk tv : TE} (hc : X.calm = true) (hN : X.N.Nodup) (hi : PI X tg iter wi) (ok : BlkOk X.N X.env.scope scope own)
    (hg : ∀ (s : Shared) (H : Hp) (C : Addr) (cl : List (Str × Addr)) (fp : List Addr), PG (X.blk s H scope (compEnvC scope cl C X.env) fp) tg g) (ht : ∀ (s : Shared) (H : Hp) (C : Addr) (cl : List (Str × Addr)) (fp : List Addr), PTs (X.blk s H scope (compEnvC scope cl C X.env) fp) ifs tt)
    (hk : ∀ (s : Shared) (H : Hp) (C : Addr) (cl : List (Str × Addr)) (fp : List Addr), PE (X.blk s H scope (compEnvC scope cl C X.env) fp) kx tk)
    (he : ∀ (s : Shared) (H : Hp) (C : Addr) (cl : List (Str × Addr)) (fp : List Addr), PE (X.blk s H scope (compEnvC scope cl C X.env) fp) vx tv) (hs : ∀ x, foldedSetIterable iter X.env x = pure x := by intro _; rfl) :
    PE X (.DictComp kx vx [⟨tg, iter, ifs, 0⟩] scope pos) (tDcF wi g tt tk tv (own.map (·.2))) := pe_dc hc hN hi ok hg ht hk he hs
/-- the dict at D holds what was made so far -/
def DcN (D : Addr) (Pv : Nat → List (Key × V) → Hp → Prop) (i : Nat) (H : Hp) : Prop := ∃ ks, ks.length ≤ i ∧ H D = some (.dK ks) ∧ Pv i ks H
theorem dc_end {D : Addr} {Pv : Nat → List (Key × V) → Hp → Prop} {i : Nat} {ks : List (Key × V)} {k : Key} {y : V} {H : Hp} (hD : ∀ i ks H zs o, H D = some (.dK zs) → Pv i ks H → Pv i ks (upd H D (.dK o))) (hi : i < 100000) (hl : ks.length ≤ i) (h1 : H D = some (.dK ks)) (h2 : Pv (i + 1) (putK ks k y) H) :
    ∃ kvs k', kV k = kV k' ∧ H D = some (.dK kvs) ∧ kvs.length < sizeLine ∧ DcN D Pv (i + 1) (upd H D (.dK (putK kvs k' y))) :=
  ⟨ks, k, rfl, h1, Nat.lt_of_le_of_lt hl (Nat.lt_of_lt_of_le hi (by decide)), putK ks k y, by have := length_putK ks k y; omega, upd_same, hD _ _ _ _ _ h1 h2⟩
section
variable {g g1 : TG} {tt tt1 : TT} {tk tv : TE} {vs vs1 : List Nat} {σ : L2.St} {H1 : Hp} {Q : VK}
theorem dc_go {J : It} {n : Nat} {G : Hp → Prop} {Y : Nat → Hp → V → Hp → Prop} (w : Walk J n G Y) (Pv : Addr → Nat → List (Key × V) → Hp → Prop) (h0 : ∀ D, H1 D = none → Pv D 0 [] (upd H1 D (.dK [])))
    (hG : ∀ D i ks H, Pv D i ks H → G H)
    (hs : ∀ D i x ks H H', H1 D = none → i < n → Pv D i ks H → ks.length ≤ i → H D = some (.dK ks) → Y i H x H' → g x (wipe σ vs) H' fun σ2 H2 => wipe σ2 vs = wipe σ vs ∧ tt σ2 H2 fun b H3 =>
      if b = true then tk σ2 H3 fun y H4 => tv σ2 H4 fun z H5 => ∃ kvs k, y = kV k ∧ H5 D = some (.dK kvs) ∧ kvs.length < sizeLine ∧ DcN D (Pv D) (i + 1) (upd H5 D (.dK (putK kvs k z))) else DcN D (Pv D) (i + 1) H3)
    (hd : ∀ D ks H, H1 D = none → Pv D n ks H → H D = some (.dK ks) → ks.length ≤ n → Q (.ref D) H) : DcB J g tt tk tv vs σ H1 Q := fun D hD => by
  refine ⟨fun i m H => m = n - i ∧ i ≤ n ∧ DcN D (Pv D) i H, ⟨n, by simp, Nat.zero_le _, [], Nat.le_refl _, upd_same, h0 D hD⟩, ?_⟩
  rintro i m H ⟨rfl, hi, ks, hl, e, p⟩
  have q := hG D i ks H p
  by_cases hlt : i < n
  · exact .inr ⟨w.goes i H hlt q, DcN D (Pv D) (i + 1), fun H' p' => ⟨n - (i + 1), by omega, rfl, hlt, p'⟩, fun x H' y => hs D i x ks H H' hD hlt p hl e (w.yields i H x H' hlt q y)⟩
  · have e' : i = n := by omega
    subst e'
    exact .inl ⟨w.stops H q, hd D ks H hD p e hl⟩
end
/-! ### dict comprehensions with two clauses, no tests -/
def Dc2I (J1 : It) (g1 : TG) (tt1 : TT) (tk tv : TE) (vs1 : List Nat) (D : Addr) (Nx : Hp → Prop) (σ2 : L2.St) (H4 : Hp) : Prop := ∃ W1 : Nat → Nat → Hp → Prop, (∃ m, W1 0 m H4) ∧ ∀ j k H, W1 j k H →
  (J1.stop j H ∧ Nx H) ∨ (J1.go j H ∧ ∃ Nx1 : Hp → Prop, (∀ H', Nx1 H' → ∃ k', k' < k ∧ W1 (j + 1) k' H') ∧ ∀ x H', J1.yld j H x H' → g1 x (wipe σ2 vs1) H' fun σ3 H5 => wipe σ3 vs1 = wipe σ2 vs1 ∧ tt1 σ3 H5 fun b H6 =>
    if b = true then tk σ3 H6 fun y H7 => tv σ3 H7 fun z H8 => ∃ kvs k, y = kV k ∧ H8 D = some (.dK kvs) ∧ kvs.length < sizeLine ∧ Nx1 (upd H8 D (.dK (putK kvs k z))) else Nx1 H6)
def Dc2B (J : It) (g : TG) (tt : TT) (wi1 : TI) (g1 : TG) (tt1 : TT) (tk tv : TE) (vs vs1 : List Nat) (σ : L2.St) (H1 : Hp) (Q : VK) : Prop := ∀ D, H1 D = none → ∃ W : Nat → Nat → Hp → Prop, (∃ m, W 0 m (upd H1 D (.dK []))) ∧ ∀ i m H, W i m H →
  (J.stop i H ∧ Q (.ref D) H) ∨ (J.go i H ∧ ∃ Nx : Hp → Prop, (∀ H', Nx H' → ∃ m', m' < m ∧ W (i + 1) m' H') ∧ ∀ x H', J.yld i H x H' → g x (wipe σ vs) H' fun σ2 H2 => wipe σ2 vs = wipe σ vs ∧ tt σ2 H2 fun b H3 =>
    if b = true then wi1 σ2 H3 fun J1 H4 => Dc2I J1 g1 tt1 tk tv vs1 D Nx σ2 H4 else Nx H3)
def tDc2F (wi : TI) (g : TG) (tt : TT) (wi1 : TI) (g1 : TG) (tt1 : TT) (tk tv : TE) (vs vs1 : List Nat) : TE := fun σ H Q => wi σ H fun J H1 => Dc2B J g tt wi1 g1 tt1 tk tv vs vs1 σ H1 Q
theorem pe_dc2F {X : Cx} {kx vx tg iter tg1 iter1 : Expr} {ifs ifs1 : List Expr} {scope : Scope} {own : List (Str × Nat)} {vs1 : List Nat} {pos : Pos} {wi wi1 : TI} {g g1 : TG} {tt tt1 : TT} {tk tv : TE} (hc : X.calm = true) (hN : X.N.Nodup) (hi : PI X tg iter wi) (ok : BlkOk X.N X.env.scope scope own) (hv : ∀ i ∈ vs1, i ∈ own.map (·.2))
    (hg : ∀ (s : Shared) (H : Hp) (C : Addr) (cl : List (Str × Addr)) (fp : List Addr), PG (X.blk s H scope (compEnvC scope cl C X.env) fp) tg g) (ht : ∀ (s : Shared) (H : Hp) (C : Addr) (cl : List (Str × Addr)) (fp : List Addr), PTs (X.blk s H scope (compEnvC scope cl C X.env) fp) ifs tt)
    (hi1 : ∀ (s : Shared) (H : Hp) (C : Addr) (cl : List (Str × Addr)) (fp : List Addr), PI (X.blk s H scope (compEnvC scope cl C X.env) fp) tg1 iter1 wi1)
    (hg1 : ∀ (s : Shared) (H : Hp) (C : Addr) (cl : List (Str × Addr)) (fp : List Addr), PG (X.blk s H scope (compEnvC scope cl C X.env) fp) tg1 g1) (ht1 : ∀ (s : Shared) (H : Hp) (C : Addr) (cl : List (Str × Addr)) (fp : List Addr), PTs (X.blk s H scope (compEnvC scope cl C X.env) fp) ifs1 tt1)
    (hk : ∀ (s : Shared) (H : Hp) (C : Addr) (cl : List (Str × Addr)) (fp : List Addr), PE (X.blk s H scope (compEnvC scope cl C X.env) fp) kx tk)
    (he : ∀ (s : Shared) (H : Hp) (C : Addr) (cl : List (Str × Addr)) (fp : List Addr), PE (X.blk s H scope (compEnvC scope cl C X.env) fp) vx tv) (hs : ∀ x, foldedSetIterable iter X.env x = pure x := by intro _; rfl) (hs1 : ∀ env x, foldedSetIterable iter1 env x = pure x := by intro _ _; rfl) :
    PE X (.DictComp kx vx [⟨tg, iter, ifs, 0⟩, ⟨tg1, iter1, ifs1, 0⟩] scope pos) (tDc2F wi g tt wi1 g1 tt1 tk tv (own.map (·.2)) vs1) := pe_dc2 hc hN hi ok hv hg ht hi1 hg1 ht1 hk he hs hs1
theorem ps_setDc2F {X : Cx} {i : Nat} {y : Str} {py : Pos} {kx vx tg iter tg1 iter1 : Expr} {ifs ifs1 : List Expr} {scope : Scope} {own : List (Str × Nat)} {vs1 : List Nat} {pos spos : Pos} {wi wi1 : TI} {g g1 : TG} {tt tt1 : TT} {tk tv : TE} (hc : X.calm = true) (hN : X.N.Nodup) (hy : X.N[i]? = some y) (hyl : X.env.scope.names.lookup y = some .local)
    (hsw : swapsWith (.DictComp kx vx [⟨tg, iter, ifs, 0⟩, ⟨tg1, iter1, ifs1, 0⟩] scope pos) (some (.Name y py)) spos.line X.env = pure true) (hi : PI X tg iter wi) (ok : BlkOk X.N X.env.scope scope own) (hv : ∀ i ∈ vs1, i ∈ own.map (·.2))
    (hg : ∀ (s : Shared) (H : Hp) (C : Addr) (cl : List (Str × Addr)) (fp : List Addr), PG (X.blk s H scope (compEnvC scope cl C X.env) fp) tg g) (ht : ∀ (s : Shared) (H : Hp) (C : Addr) (cl : List (Str × Addr)) (fp : List Addr), PTs (X.blk s H scope (compEnvC scope cl C X.env) fp) ifs tt)
    (hi1 : ∀ (s : Shared) (H : Hp) (C : Addr) (cl : List (Str × Addr)) (fp : List Addr), PI (X.blk s H scope (compEnvC scope cl C X.env) fp) tg1 iter1 wi1)
    (hg1 : ∀ (s : Shared) (H : Hp) (C : Addr) (cl : List (Str × Addr)) (fp : List Addr), PG (X.blk s H scope (compEnvC scope cl C X.env) fp) tg1 g1) (ht1 : ∀ (s : Shared) (H : Hp) (C : Addr) (cl : List (Str × Addr)) (fp : List Addr), PTs (X.blk s H scope (compEnvC scope cl C X.env) fp) ifs1 tt1)
    (hk : ∀ (s : Shared) (H : Hp) (C : Addr) (cl : List (Str × Addr)) (fp : List Addr), PE (X.blk s H scope (compEnvC scope cl C X.env) fp) kx tk)
    (he : ∀ (s : Shared) (H : Hp) (C : Addr) (cl : List (Str × Addr)) (fp : List Addr), PE (X.blk s H scope (compEnvC scope cl C X.env) fp) vx tv) (hs : ∀ x, foldedSetIterable iter X.env x = pure x := by intro _; rfl) (hs1 : ∀ env x, foldedSetIterable iter1 env x = pure x := by intro _ _; rfl) :
    PS X (.Assign [.Name y py] (.DictComp kx vx [⟨tg, iter, ifs, 0⟩, ⟨tg1, iter1, ifs1, 0⟩] scope pos) spos) (tAsg (tDc2F wi g tt wi1 g1 tt1 tk tv (own.map (·.2)) vs1) (gName i)) := ps_setDc2 hc hN hy hyl hsw hi ok hv hg ht hi1 hg1 ht1 hk he hs hs1
theorem ps_setDcF {X : Cx} {i : Nat} {y : Str} {py : Pos} {kx vx tg iter : Expr} {ifs : List Expr} {scope : Scope} {own : List (Str × Nat)} {pos spos : Pos} {wi : TI} {g : TG} {tt : TT} {tk tv : TE} (hc : X.calm = true) (hN : X.N.Nodup) (hy : X.N[i]? = some y) (hyl : X.env.scope.names.lookup y = some .local)
    (hsw : swapsWith (.DictComp kx vx [⟨tg, iter, ifs, 0⟩] scope pos) (some (.Name y py)) spos.line X.env = pure true) (hi : PI X tg iter wi) (ok : BlkOk X.N X.env.scope scope own)
    (hg : ∀ (s : Shared) (H : Hp) (C : Addr) (cl : List (Str × Addr)) (fp : List Addr), PG (X.blk s H scope (compEnvC scope cl C X.env) fp) tg g) (ht : ∀ (s : Shared) (H : Hp) (C : Addr) (cl : List (Str × Addr)) (fp : List Addr), PTs (X.blk s H scope (compEnvC scope cl C X.env) fp) ifs tt)
    (hk : ∀ (s : Shared) (H : Hp) (C : Addr) (cl : List (Str × Addr)) (fp : List Addr), PE (X.blk s H scope (compEnvC scope cl C X.env) fp) kx tk)
    (he : ∀ (s : Shared) (H : Hp) (C : Addr) (cl : List (Str × Addr)) (fp : List Addr), PE (X.blk s H scope (compEnvC scope cl C X.env) fp) vx tv) (hs : ∀ x, foldedSetIterable iter X.env x = pure x := by intro _; rfl) :
    PS X (.Assign [.Name y py] (.DictComp kx vx [⟨tg, iter, ifs, 0⟩] scope pos) spos) (tAsg (tDcF wi g tt tk tv (own.map (·.2))) (gName i)) := ps_setDc hc hN hy hyl hsw hi ok hg ht hk he hs
section
variable {g g1 : TG} {tt tt1 : TT} {tk tv : TE} {wi1 : TI} {vs vs1 : List Nat} {σ : L2.St} {H1 H4 : Hp} {Q : VK}
theorem dc2_in {J : It} {n : Nat} {G : Hp → Prop} {Y : Nat → Hp → V → Hp → Prop} {D : Addr} {Nx : Hp → Prop} (w : Walk J n G Y) (Pv : Nat → Hp → Prop) (h0 : Pv 0 H4) (hG : ∀ j H, Pv j H → G H)
    (hs : ∀ j x H H', j < n → Pv j H → Y j H x H' → g1 x (wipe σ vs1) H' fun σ3 H5 => wipe σ3 vs1 = wipe σ vs1 ∧ tt1 σ3 H5 fun b H6 =>
      if b = true then tk σ3 H6 fun y H7 => tv σ3 H7 fun z H8 => ∃ kvs k, y = kV k ∧ H8 D = some (.dK kvs) ∧ kvs.length < sizeLine ∧ Pv (j + 1) (upd H8 D (.dK (putK kvs k z))) else Pv (j + 1) H6)
    (hd : ∀ H, Pv n H → Nx H) : Dc2I J g1 tt1 tk tv vs1 D Nx σ H4 := by
  refine ⟨fun i m H => m = n - i ∧ i ≤ n ∧ Pv i H, ⟨n, rfl, Nat.zero_le _, h0⟩, ?_⟩
  rintro i m H ⟨rfl, hi, p⟩
  have q := hG i H p
  by_cases hlt : i < n
  · exact .inr ⟨w.goes i H hlt q, Pv (i + 1), fun H' p' => ⟨n - (i + 1), by omega, rfl, hlt, p'⟩, fun x H' y => hs i x H H' hlt p (w.yields i H x H' hlt q y)⟩
  · have e' : i = n := by omega
    subst e'
    exact .inl ⟨w.stops H q, hd H p⟩
theorem dc2_go {J : It} {n : Nat} {G : Hp → Prop} {Y : Nat → Hp → V → Hp → Prop} (w : Walk J n G Y) (Pv : Addr → Nat → Hp → Prop) (h0 : ∀ D, H1 D = none → Pv D 0 (upd H1 D (.dK [])))
    (hG : ∀ D i H, Pv D i H → G H)
    (hs : ∀ D i x H H', H1 D = none → i < n → Pv D i H → Y i H x H' → g x (wipe σ vs) H' fun σ2 H2 => wipe σ2 vs = wipe σ vs ∧ tt σ2 H2 fun b H3 => if b = true then wi1 σ2 H3 fun J1 H4 => Dc2I J1 g1 tt1 tk tv vs1 D (Pv D (i + 1)) σ2 H4 else Pv D (i + 1) H3)
    (hd : ∀ D H, H1 D = none → Pv D n H → Q (.ref D) H) : Dc2B J g tt wi1 g1 tt1 tk tv vs vs1 σ H1 Q := fun D hD => by
  refine ⟨fun i m H => m = n - i ∧ i ≤ n ∧ Pv D i H, ⟨n, rfl, Nat.zero_le _, h0 D hD⟩, ?_⟩
  rintro i m H ⟨rfl, hi, p⟩
  have q := hG D i H p
  by_cases hlt : i < n
  · exact .inr ⟨w.goes i H hlt q, Pv D (i + 1), fun H' p' => ⟨n - (i + 1), by omega, rfl, hlt, p'⟩, fun x H' y => hs D i x H H' hD hlt p (w.yields i H x H' hlt q y)⟩
  · have e' : i = n := by omega
    subst e'
    exact .inl ⟨w.stops H q, hd D H hD p⟩
end
end Sq
set_option Elab.async false
set_option linter.all false
set_option maxRecDepth 100000
set_option maxHeartbeats 2000000
namespace Sq
open PySem PySem.Spec PyProof.Rows L2 RZ
/-! ### readings that are monotone -/
def upE (t : TE) : TE := fun σ H Q => ∃ Q0 : VK, (∀ v H', Q0 v H' → Q v H') ∧ t σ H Q0
def upA (t : TA) : TA := fun σ H Q => ∃ Q0 : List V → Hp → Prop, (∀ v H', Q0 v H' → Q v H') ∧ t σ H Q0
section
variable {X : Cx}
theorem PE.up {e : Expr} {t : TE} (h : PE X e t) : PE X e (upE t) := ⟨fun pins s σ H Q I ⟨Q0, m, q⟩ => thn (h.run pins s σ H Q0 I q) fun _ _ ⟨v, H', I', r, q⟩ => ⟨v, H', I', r, m _ _ q⟩⟩
theorem PA.up {es : List Expr} {t : TA} (h : PA X es t) : PA X es (upA t) := ⟨fun pos pins s σ H Q I ⟨Q0, m, q⟩ => thn (h.run pos pins s σ H Q0 I q) fun _ _ ⟨v, H', I', r, q⟩ => ⟨v, H', I', r, m _ _ q⟩⟩
/-- a reading that is not to be run yet -/
def hideS (t : TS) : TS := t
theorem PSs.hide {b : List Stmt} {t : TS} (h : PSs X b t) : PSs X b (hideS t) := h
/-- zip of two tuples -/
def iZipF (K : PySem.W.Frag) (ta : TA) : TI := fun σ H R => ta σ H fun vs H1 => ∃ a b xs ys, vs = [.ref a, .ref b] ∧ tupF K H1 a = some xs ∧ tupF K H1 b = some ys ∧ R (ItzT K a b) H1
theorem pi_zipF {e e2 : Expr} {ta : TA} {p pos tpos : Pos} {elts : List Expr} {kk : Nat} (hg : Gl X "zip") (hm : X.mg "zip" = none) (ha : PA X [e, e2] ta)
    (hs : starEach [e, e2] X.env = (false, eval e X.env) :: starEach [e2] X.env := by rfl) (hpl : (backTo pos (starEach [e2] X.env)).any (·.1) = false := by rfl) :
    PI X (.Tuple elts kk tpos) (.Call (.Name "zip" p) [e, e2] [] pos) (iZipF X.K ta) := by
  refine ⟨fun pins s σ H R I h => (pi_zipA hg hm (PA.up ha) hs hpl).run pins s σ H R I ⟨_, fun vs H1 q => ?_, h⟩⟩
  obtain ⟨a, b, xs, ys, e, h1, h2, r⟩ := q
  exact ⟨a, b, xs, ys, e, .inr ⟨tupF_sq h1, tupF_sq h2, r⟩⟩
/-- the keys of a locked dict -/
def iKeysF (td : TE) : TI := fun σ H R => td σ H fun x H1 => ∃ d o kvs, x = .ref d ∧ H1 d = some (.frz o (.dK kvs)) ∧ R (Itk d o kvs) H1
theorem pi_keysF {tg e : Expr} {td : TE} (he : PE X e td) : PI X tg e (iKeysF td) := by
  refine ⟨fun pins s σ H R I h => (pi_keys (PE.up he)).run pins s σ H R I ⟨_, fun v H1 q => ?_, h⟩⟩
  obtain ⟨d, o, kvs, e, h1, r⟩ := q
  exact ⟨d, o, e, .inl ⟨kvs, h1, r⟩⟩
/-- x in t, x not in t: data of tuples -/
def rInT (K : PySem.W.Frag) (neg : Bool) : R2 := fun x y H Q => ∃ d ds, Td K H x d ∧ Td K H y (.tuple ds) ∧ SeqAt.shaped d = true ∧ SeqAt.shaped (.tuple ds) = true ∧ Q (.bl (if neg then !ds.any fun z => PyData.eqv z d else ds.any fun z => PyData.eqv z d)) H
theorem room_in_sh {A : Around} {d : PyData} {ds : List PyData} (h : SeqAt.shaped d = true) (hu : A.units + 65 < cLine) : A.units + 1 + min (PyData.depthAll ds) d.depth < cLine := by
  have h1 := SeqAt.depth_of_shaped h
  have h2 : min (PyData.depthAll ds) d.depth ≤ d.depth := Nat.min_le_right _ _
  omega
theorem op_inT (hu : X.A.units + 65 < cLine) : OpR X (compareOp .In) (rInT X.K false) := by
  intro pins s σ H x y v u Q I rx ry h
  obtain ⟨d, ds, hd, he, sd, se, q⟩ := h
  obtain ⟨as, r1⟩ := Dp.reads I d x v hd.dp rx
  obtain ⟨bs, r2⟩ := Dp.reads I (.tuple ds) y u he.dp ry
  exact SeqAt.in_tuple_reads r2 r1 (SeqAt.canLay_of_shaped se) (SeqAt.canLay_of_shaped sd) (room_in_sh sd hu) ⟨.bl _, H, I, rfl, q⟩
theorem op_ninT (hu : X.A.units + 65 < cLine) : OpR X (compareOp .NotIn) (rInT X.K true) := by
  intro pins s σ H x y v u Q I rx ry h
  obtain ⟨d, ds, hd, he, sd, se, q⟩ := h
  obtain ⟨as, r1⟩ := Dp.reads I d x v hd.dp rx
  obtain ⟨bs, r2⟩ := Dp.reads I (.tuple ds) y u he.dp ry
  exact SeqAt.notIn_tuple_reads r2 r1 (SeqAt.canLay_of_shaped se) (SeqAt.canLay_of_shaped sd) (room_in_sh sd hu) ⟨.bl _, H, I, rfl, q⟩
/-- x in t: texts -/
def rInS (K : PySem.W.Frag) (neg : Bool) : R2 := fun x y H Q => ∃ (n : Str) (p : Addr) (ns : List Str), x = .str n ∧ y = .ref p ∧ tupF K H p = some (ns.map V.str) ∧ Q (.bl (if neg then !decide (n ∈ ns) else decide (n ∈ ns))) H
theorem inV_strs (n : Str) : ∀ ns : List Str, inV (.str n) (ns.map V.str) = decide (n ∈ ns)
  | [] => by simp [inV]
  | x :: ns => by
    have ih := inV_strs n ns
    unfold inV at ih ⊢
    rw [List.map_cons, List.any_cons, ih]
    have e : eqV (.str x) (.str n) = decide (n = x) := by
      by_cases h : n = x
      · subst h; simp [eqV]
      · simp [eqV, h, Ne.symm h]
    rw [e]
    by_cases h : n = x <;> simp [h]
theorem flat_strs : ∀ ns : List Str, (ns.map V.str).all flatV = true
  | [] => rfl
  | _ :: ns => by rw [List.map_cons, List.all_cons, flat_strs ns]; rfl
theorem op_inS : OpR X (compareOp .In) (rInS X.K false) := by
  intro pins s σ H x y v u Q I rx ry ⟨n, p, ns, e1, e2, h, q⟩
  subst e1 e2
  refine op_in_seq pins s σ H _ _ v u Q I rx ry ⟨p, ns.map V.str, rfl, .inr (tupF_sq h), rfl, flat_strs ns, ?_⟩
  rw [inV_strs]; exact q
/-- xs == ys, xs != ys of lists of data -/
def rEqLF (K : PySem.W.Frag) (neg : Bool) : R2 := fun x y H Q => ∃ a b xs ys, x = .ref a ∧ y = .ref b ∧ H a = some (.lst xs) ∧ H b = some (.lst ys) ∧ ∃ ds es, TdAll K H xs ds ∧ TdAll K H ys es ∧ SeqAt.shaped (.list ds) = true ∧ SeqAt.shaped (.list es) = true ∧ Q (.bl (if neg then !PyData.eqvAll ds es else PyData.eqvAll ds es)) H
theorem op_eqLF (hu : X.A.units + 64 < cLine) : OpR X (compareOp .Eq) (rEqLF X.K false) := fun pins s σ H x y v u Q I rx ry ⟨a, b, xs, ys, e1, e2, h1, h2, ds, es, t1, t2, h3, h4, q⟩ => by
  subst e1 e2
  refine op_eqD hu pins s σ H _ _ v u Q I rx ry ⟨.list ds, .list es, .lst (SqL.of h1) t1.dp, .lst (SqL.of h2) t2.dp, h3, h4, ?_⟩
  simpa [PyData.eqv] using q
theorem op_neLF (hu : X.A.units + 64 < cLine) : OpR X (compareOp .NotEq) (rEqLF X.K true) := fun pins s σ H x y v u Q I rx ry ⟨a, b, xs, ys, e1, e2, h1, h2, ds, es, t1, t2, h3, h4, q⟩ => by
  subst e1 e2
  refine op_neD hu pins s σ H _ _ v u Q I rx ry ⟨.list ds, .list es, .lst (SqL.of h1) t1.dp, .lst (SqL.of h2) t2.dp, h3, h4, ?_⟩
  simpa [PyData.eqv] using q
end
/-- l.index(x), texts -/
def rIndexS : V → List V → Hp → VK → Prop := fun x xs H Q => ∃ (a : Addr) (n : Str) (ns : List Str), x = .ref a ∧ xs = [.str n] ∧ H a = some (.lst (ns.map V.str)) ∧ ∃ j : Nat, ns[j]? = some n ∧ (∀ m, m < j → ns[m]? ≠ some n) ∧ Q (.int (j : Nat)) H
theorem eqV_str (x y : Str) : eqV (.str x) (.str y) = decide (y = x) := by
  by_cases h : y = x
  · subst h; simp [eqV]
  · simp [eqV, h, Ne.symm h]
theorem mt_indexS {X : Cx} : MtR X "list.index" rIndexS := fun pins s σ H x xs v us Q I rx rv ⟨a, n, ns, e1, e2, h, j, hj, hm, q⟩ => by
  subst e1 e2
  refine mt_index pins s σ H _ _ v us Q I rx rv ⟨a, ns.map V.str, .str n, j, .str n, rfl, rfl, SqL.of h, rfl, flat_strs ns, by rw [List.getElem?_map, hj]; rfl, by rw [eqV_str]; simp, fun m z hm' hz => ?_, q⟩
  rw [List.getElem?_map] at hz
  cases hk : ns[m]? with
  | none => rw [hk] at hz; cases hz
  | some y =>
    rw [hk] at hz
    cases hz
    rw [eqV_str]
    refine decide_eq_false fun e => hm m hm' ?_
    rw [hk, e]
/-! ### the same, the kit's code tables named -/
section
variable {X : Cx} (K : PySem.W.Frag)
theorem ix_tupK (hK : X.K = K := by rfl) : IxR X (rIxF K) := by subst hK; exact ix_tupF
theorem sl_tupK (hK : X.K = K := by rfl) : SlR X (rSlF K) := by subst hK; exact sl_tupF
theorem op_catK (hK : X.K = K := by rfl) : OpR X (binaryOp .Add) (rCatF K) := by subst hK; exact op_catF
theorem call_tupleK (hK : X.K = K := by rfl) : CallR X (.type "tuple") (rTupL K) := by subst hK; exact call_tupleL
theorem call_listK (hK : X.K = K := by rfl) : CallR X (.type "list") (rListT K) := by subst hK; exact call_listT
theorem call_lenK (hK : X.K = K := by rfl) : CallR X (.builtin "len") (rLenT K) := by subst hK; exact call_lenT
theorem op_eqK (hu : X.A.units + 64 < cLine) (hK : X.K = K := by rfl) : OpR X (compareOp .Eq) (rEqF K false) := by subst hK; exact op_eqF hu
theorem op_neK (hu : X.A.units + 64 < cLine) (hK : X.K = K := by rfl) : OpR X (compareOp .NotEq) (rEqF K true) := by subst hK; exact op_neF hu
theorem op_eqLK (hu : X.A.units + 64 < cLine) (hK : X.K = K := by rfl) : OpR X (compareOp .Eq) (rEqLF K false) := by subst hK; exact op_eqLF hu
theorem op_neLK (hu : X.A.units + 64 < cLine) (hK : X.K = K := by rfl) : OpR X (compareOp .NotEq) (rEqLF K true) := by subst hK; exact op_neLF hu
theorem op_inSK (hK : X.K = K := by rfl) : OpR X (compareOp .In) (rInS K false) := by subst hK; exact op_inS
theorem op_inTK (hu : X.A.units + 65 < cLine) (hK : X.K = K := by rfl) : OpR X (compareOp .In) (rInT K false) := by subst hK; exact op_inT hu
theorem op_ninTK (hu : X.A.units + 65 < cLine) (hK : X.K = K := by rfl) : OpR X (compareOp .NotIn) (rInT K true) := by subst hK; exact op_ninT hu
theorem pe_tupK {es : List Expr} {x1 : Nat} {pos : Pos} {t : TA} (h : PA X es t) (hK : X.K = K := by rfl) : PE X (.Tuple es x1 pos) (tTupF K t) := by subst hK; exact pe_tupF h
theorem pg_tupK {es : List Expr} {k : Nat} {pos : Pos} {t : TGs} {n : Nat} (hc : X.calm = true) (h : PGs X es t)
    (hn : (assignEach es X.env).length = n := by rfl) (hst : (assignEach es X.env).findIdx? (·.1) = none := by rfl) (hK : X.K = K := by rfl) : PG X (.Tuple es k pos) (gTupF K n t) := by subst hK; exact pg_tupF hc h hn hst
theorem pg_tupZ {es : List Expr} {k : Nat} {pos : Pos} {t : TGs} {n : Nat} (hc : X.calm = true) (h : PGs X es t)
    (hn : (assignEach es X.env).length = n := by rfl) (hst : (assignEach es X.env).findIdx? (·.1) = none := by rfl) (hK : X.K = K := by rfl) : PG X (.Tuple es k pos) (gTup K n t) := by subst hK; exact pg_tup hc h hn hst
theorem pi_tupK {tg l : Expr} {tl : TE} (hl : PE X l tl) (hK : X.K = K := by rfl) : PI X tg l (iTupF K tl) := by subst hK; exact pi_tupF hl
theorem pi_lstK {tg l : Expr} {tl : TE} (hl : PE X l tl) (hK : X.K = K := by rfl) : PI X tg l (iLstF tl K) := by subst hK; exact pi_lstF hl
theorem pi_enumK {e : Expr} {ta : TA} {p pos tpos : Pos} {elts : List Expr} {kk : Nat} (hg : Gl X "enumerate") (hm : X.mg "enumerate" = none) (ha : PA X [e] ta) (hs : starEach [e] X.env = [(false, eval e X.env)] := by rfl) (hK : X.K = K := by rfl) :
    PI X (.Tuple elts kk tpos) (.Call (.Name "enumerate" p) [e] [] pos) (iEnumF K ta) := by subst hK; exact pi_enumF hg hm ha hs
theorem pi_zipK {e e2 : Expr} {ta : TA} {p pos tpos : Pos} {elts : List Expr} {kk : Nat} (hg : Gl X "zip") (hm : X.mg "zip" = none) (ha : PA X [e, e2] ta)
    (hs : starEach [e, e2] X.env = (false, eval e X.env) :: starEach [e2] X.env := by rfl) (hpl : (backTo pos (starEach [e2] X.env)).any (·.1) = false := by rfl) (hK : X.K = K := by rfl) :
    PI X (.Tuple elts kk tpos) (.Call (.Name "zip" p) [e, e2] [] pos) (iZipF K ta) := by subst hK; exact pi_zipF hg hm ha hs hpl
theorem pe_lzipK {e e2 : Expr} {ta : TA} {p p2 pos pos2 : Pos} (hc : X.calm = true) (hg : Gl X "zip") (hm : X.mg "zip" = none) (hgl : Gl X "list") (hml : X.mg "list" = none) (ha : PA X [e, e2] ta)
    (hs : starEach [e, e2] X.env = (false, eval e X.env) :: starEach [e2] X.env := by rfl) (hpl : (backTo pos (starEach [e2] X.env)).any (·.1) = false := by rfl)
    (hs2 : starEach [.Call (.Name "zip" p) [e, e2] [] pos] X.env = [(false, eval (.Call (.Name "zip" p) [e, e2] [] pos) X.env)] := by rfl) (hK : X.K = K := by rfl) :
    PE X (.Call (.Name "list" p2) [.Call (.Name "zip" p) [e, e2] [] pos] [] pos2) (tLZip K ta) := by subst hK; exact pe_lzip hc hg hm hgl hml ha hs hpl hs2
end
end Sq
set_option Elab.async false
set_option linter.all false
set_option maxRecDepth 100000
set_option maxHeartbeats 2000000
namespace Sq
open PySem PySem.Spec PyProof.Rows L2
/-! ### trees of the laws on equations: names, two signs alone, one of one, one of two -/
inductive Tr
  | v (x : Str)
  | a
  | b
  | i (t : Tr)
  | m (t u : Tr)
deriving DecidableEq
namespace Tr
def data : Tr → PyData
  | v x => .tuple [.str "v", .str x]
  | a => .tuple [.str "a"]
  | b => .tuple [.str "b"]
  | i t => .tuple [.str "i", t.data]
  | m t u => .tuple [.str "m", t.data, u.data]
def dep : Tr → Nat
  | v _ => 1
  | a => 1
  | b => 1
  | i t => t.dep + 1
  | m t u => max t.dep u.dep + 1
def names : Tr → List Str
  | v x => [x]
  | a => []
  | b => []
  | i t => t.names
  | m t u => t.names ++ u.names
def isV : Tr → Bool
  | v _ => true
  | _ => false
def hd : Tr → Str
  | v _ => "v"
  | a => "a"
  | b => "b"
  | i _ => "i"
  | m _ _ => "m"
def args : Tr → List Tr
  | i t => [t]
  | m t u => [t, u]
  | _ => []
theorem dep_pos : ∀ t : Tr, 1 ≤ t.dep
  | v _ => Nat.le_refl _
  | a => Nat.le_refl _
  | b => Nat.le_refl _
  | i _ => Nat.le_add_left _ _
  | m _ _ => Nat.le_add_left _ _
theorem dep_arg {t u : Tr} (h : u ∈ t.args) : u.dep < t.dep := by
  cases t with
  | v x => cases h
  | a => cases h
  | b => cases h
  | i s =>
    have e : u = s := by simpa [args] using h
    subst e; simp [dep]
  | m s r =>
    have e : u = s ∨ u = r := by simpa [args] using h
    rcases e with e | e <;> (subst e; simp only [dep]; omega)
theorem names_arg {t u : Tr} (h : u ∈ t.args) {x : Str} (hx : x ∈ u.names) : x ∈ t.names := by
  cases t with
  | v x => cases h
  | a => cases h
  | b => cases h
  | i s =>
    have e : u = s := by simpa [args] using h
    subst e; exact hx
  | m s r =>
    have e : u = s ∨ u = r := by simpa [args] using h
    rcases e with e | e <;> subst e
    · exact List.mem_append_left _ hx
    · exact List.mem_append_right _ hx
theorem names_args {t : Tr} (h : t.isV = false) {x : Str} : x ∈ t.names ↔ ∃ u ∈ t.args, x ∈ u.names := by
  cases t with
  | v x => cases h
  | a => simp [names, args]
  | b => simp [names, args]
  | i s => simp [names, args]
  | m s r => simp [names, args]
theorem data_f {t : Tr} (h : t.isV = false) : t.data = .tuple (.str t.hd :: t.args.map data) := by
  cases t with
  | v x => cases h
  | a => rfl
  | b => rfl
  | i s => rfl
  | m s r => rfl
theorem hd_v {t : Tr} (h : t.isV = false) : t.hd ≠ "v" := by
  cases t with
  | v x => cases h
  | a => decide
  | b => decide
  | i s => show ("i" : Str) ≠ "v"; decide
  | m s r => show ("m" : Str) ≠ "v"; decide
theorem args_len (t : Tr) : t.args.length ≤ 2 := by cases t <;> simp [args]
theorem eqvAll_cons (x y : PyData) (xs ys : List PyData) : PyData.eqvAll (x :: xs) (y :: ys) = (PyData.eqv x y && PyData.eqvAll xs ys) := by rw [PyData.eqvAll]
theorem eqv_str (x y : Str) : PyData.eqv (.str x) (.str y) = (x == y) := by rw [PyData.eqv]
theorem eqv_tup (xs ys : List PyData) : PyData.eqv (.tuple xs) (.tuple ys) = PyData.eqvAll xs ys := by rw [PyData.eqv]
theorem eqvAll_nil : PyData.eqvAll [] [] = true := by rw [PyData.eqvAll]
theorem eqvAll_nc (x : PyData) (xs : List PyData) : PyData.eqvAll [] (x :: xs) = false := by rw [PyData.eqvAll]
theorem eqvAll_cn (x : PyData) (xs : List PyData) : PyData.eqvAll (x :: xs) [] = false := by rw [PyData.eqvAll]
theorem eqv_data : ∀ t u : Tr, PyData.eqv t.data u.data = decide (t = u)
  | v x, v y => by simp only [data, eqv_tup, eqvAll_cons, eqv_str, eqvAll_nil, beq_self_eq_true, Bool.true_and, Bool.and_true, v.injEq]; exact Bool.beq_eq_decide_eq _ _
  | v x, a => rfl
  | v x, b => rfl
  | v x, i u => by simp only [data, eqv_tup, eqvAll_cons, eqv_str, reduceCtorEq, decide_false]; rfl
  | v x, m u w => by simp only [data, eqv_tup, eqvAll_cons, eqv_str, reduceCtorEq, decide_false]; rfl
  | a, v y => by simp only [data, eqv_tup, eqvAll_cons, eqv_str, reduceCtorEq, decide_false]; rfl
  | a, a => rfl
  | a, b => rfl
  | a, i u => by simp only [data, eqv_tup, eqvAll_cons, eqv_str, reduceCtorEq, decide_false]; rfl
  | a, m u w => by simp only [data, eqv_tup, eqvAll_cons, eqv_str, reduceCtorEq, decide_false]; rfl
  | b, v y => by simp only [data, eqv_tup, eqvAll_cons, eqv_str, reduceCtorEq, decide_false]; rfl
  | b, a => rfl
  | b, b => rfl
  | b, i u => by simp only [data, eqv_tup, eqvAll_cons, eqv_str, reduceCtorEq, decide_false]; rfl
  | b, m u w => by simp only [data, eqv_tup, eqvAll_cons, eqv_str, reduceCtorEq, decide_false]; rfl
  | i t, v y => by simp only [data, eqv_tup, eqvAll_cons, eqv_str, reduceCtorEq, decide_false]; rfl
  | i t, a => by simp only [data, eqv_tup, eqvAll_cons, eqv_str, reduceCtorEq, decide_false]; rfl
  | i t, b => by simp only [data, eqv_tup, eqvAll_cons, eqv_str, reduceCtorEq, decide_false]; rfl
  | i t, i u => by simp only [data, eqv_tup, eqvAll_cons, eqv_str, eqv_data t u, eqvAll_nil, beq_self_eq_true, Bool.true_and, Bool.and_true, i.injEq]
  | i t, m u w => by simp only [data, eqv_tup, eqvAll_cons, eqv_str, reduceCtorEq, decide_false]; rfl
  | m s r, v y => by simp only [data, eqv_tup, eqvAll_cons, eqv_str, reduceCtorEq, decide_false]; rfl
  | m s r, a => by simp only [data, eqv_tup, eqvAll_cons, eqv_str, reduceCtorEq, decide_false]; rfl
  | m s r, b => by simp only [data, eqv_tup, eqvAll_cons, eqv_str, reduceCtorEq, decide_false]; rfl
  | m s r, i u => by simp only [data, eqv_tup, eqvAll_cons, eqv_str, reduceCtorEq, decide_false]; rfl
  | m s r, m u w => by simp only [data, eqv_tup, eqvAll_cons, eqv_str, eqv_data s u, eqv_data r w, eqvAll_nil, beq_self_eq_true, Bool.true_and, Bool.and_true, m.injEq, Bool.decide_and]
theorem depth_data : ∀ t : Tr, t.data.depth = t.dep
  | v x => rfl
  | a => rfl
  | b => rfl
  | i t => by simp [data, PyData.depth, PyData.depthAll, depth_data t, dep]
  | m t u => by simp [data, PyData.depth, PyData.depthAll, depth_data t, depth_data u, dep]
theorem lay_str (x : Str) : PyData.canLay0 (.str x) = PyData.strOk x := by rw [PyData.canLay0]
theorem lay_tup (xs : List PyData) : PyData.canLay0 (.tuple xs) = PyData.canLayAll0 xs := by rw [PyData.canLay0]
theorem lay_cons (x : PyData) (xs : List PyData) : PyData.canLayAll0 (x :: xs) = (PyData.canLay0 x && PyData.canLayAll0 xs) := by rw [PyData.canLayAll0]
theorem lay_nil : PyData.canLayAll0 [] = true := by rw [PyData.canLayAll0]
theorem ok_v : PyData.strOk "v" = true := by decide +kernel
theorem ok_a : PyData.strOk "a" = true := by decide +kernel
theorem ok_b : PyData.strOk "b" = true := by decide +kernel
theorem ok_i : PyData.strOk "i" = true := by decide +kernel
theorem ok_m : PyData.strOk "m" = true := by decide +kernel
theorem lay_data : ∀ t : Tr, (∀ x ∈ t.names, PyData.strOk x = true) → t.data.canLay0 = true
  | v x, h => by simp only [data, lay_tup, lay_cons, lay_str, lay_nil, ok_v, h x (by simp [names]), Bool.and_self]
  | a, _ => by simp only [data, lay_tup, lay_cons, lay_str, lay_nil, ok_a, Bool.and_self]
  | b, _ => by simp only [data, lay_tup, lay_cons, lay_str, lay_nil, ok_b, Bool.and_self]
  | i t, h => by simp only [data, lay_tup, lay_cons, lay_str, lay_nil, ok_i, lay_data t h, Bool.and_self]
  | m t u, h => by simp only [data, lay_tup, lay_cons, lay_str, lay_nil, ok_m, lay_data t (fun x q => h x (List.mem_append_left _ q)), lay_data u (fun x q => h x (List.mem_append_right _ q)), Bool.and_self]
end Tr
/-- names that are all right, fewer than 64 -/
structure NsOk (NS : List Str) : Prop where
  ok : ∀ x ∈ NS, PyData.strOk x = true
  few : NS.length < 64
theorem Tr.shaped {NS : List Str} (n : NsOk NS) {t : Tr} (h : ∀ x ∈ t.names, x ∈ NS) (hd : t.dep ≤ 64) : SeqAt.shaped t.data = true := by
  unfold SeqAt.shaped
  rw [Tr.lay_data t fun x q => n.ok x (h x q), Tr.depth_data, decide_eq_true hd]
  rfl
section
variable {K : PySem.W.Frag} {H : Hp}
theorem td_v {v : V} {x : Str} (h : Td K H v (Tr.v x).data) : ∃ p, v = .ref p ∧ tupF K H p = some [.str "v", .str x] := by
  cases h with
  | tup e r =>
    cases r with
    | cons h1 r =>
      cases r with
      | cons h2 r =>
        cases r
        cases h1
        cases h2
        exact ⟨_, rfl, e⟩
theorem td_f {v : V} {t : Tr} (hv : t.isV = false) (h : Td K H v t.data) : ∃ p ws, v = .ref p ∧ tupF K H p = some (.str t.hd :: ws) ∧ TdAll K H ws (t.args.map Tr.data) := by
  rw [Tr.data_f hv] at h
  cases h with
  | tup e r =>
    cases r with
    | cons h1 r =>
      cases h1
      exact ⟨_, _, rfl, e, r⟩
theorem td_hd {v : V} {t : Tr} (h : Td K H v t.data) : ∃ p ws, v = .ref p ∧ tupF K H p = some (.str t.hd :: ws) := by
  cases e : t.isV with
  | false => obtain ⟨p, ws, e, q, _⟩ := td_f e h; exact ⟨p, ws, e, q⟩
  | true =>
    cases t with
    | v x => obtain ⟨p, e, q⟩ := td_v h; exact ⟨p, _, e, q⟩
    | a => cases e
    | b => cases e
    | i s => cases e
    | m s r => cases e
theorem td_mk {p : Addr} {ws : List V} {t : Tr} (hv : t.isV = false) (h : tupF K H p = some (.str t.hd :: ws)) (r : TdAll K H ws (t.args.map Tr.data)) : Td K H (.ref p) t.data := by
  rw [Tr.data_f hv]
  exact .tup h (.cons (.str _) r)
theorem td_arg {ws : List V} {t : Tr} (r : TdAll K H ws (t.args.map Tr.data)) {j : Nat} {w : V} (h : ws[j]? = some w) : ∃ u, t.args[j]? = some u ∧ u ∈ t.args ∧ Td K H w u.data := by
  obtain ⟨d, e, q⟩ := r.get h
  rw [List.getElem?_map] at e
  cases e2 : t.args[j]? with
  | none => rw [e2] at e; cases e
  | some u =>
    rw [e2] at e
    cases e
    exact ⟨u, rfl, List.mem_of_getElem? e2, q⟩
end
theorem Ext.over {H H1 H2 : Hp} {D : Addr} (a : Ext [] H H1) (n : H D = none) (b : Ext [D] H1 H2) : Ext [] H H2 := by
  refine ⟨fun c o e _ m => ?_, fun c o e => b.tup c o (a.tup c o e), fun c o u e => b.frz c o u (a.frz c o u e), fun P h => b.tab P (a.tab P h), fun P ps h _ => b.tbl P ps (a.tbl P ps h (fun z => nomatch z)) fun z => by
    have z' : P = D := by simpa using z
    rw [z', n] at h
    cases h⟩
  refine b.keep c o (a.keep c o e (fun z => nomatch z) m) (fun z => ?_) m
  have z' : c = D := by simpa using z
  rw [z', n] at e
  cases e
/-! ### lists of texts as keys -/
def addK (ks : List Str) (x : Str) : List Str := if x ∈ ks then ks else ks ++ [x]
theorem mem_addK {ks : List Str} {x y : Str} : y ∈ addK ks x ↔ y ∈ ks ∨ y = x := by
  unfold addK
  split
  · constructor
    · exact .inl
    · rintro (h | h)
      · exact h
      · subst h; assumption
  · simp
theorem nodup_addK {ks : List Str} {x : Str} (h : ks.Nodup) : (addK ks x).Nodup := by
  unfold addK
  split
  · exact h
  · rename_i n
    exact List.nodup_append.mpr ⟨h, by simp, fun a ha b hb e => by
      have : b = x := by simpa using hb
      subst this; subst e; exact n ha⟩
theorem nodup_sub : ∀ {l m : List Str}, l.Nodup → (∀ x ∈ l, x ∈ m) → l.length ≤ m.length
  | [], _, _, _ => Nat.zero_le _
  | x :: l, m, h, s => by
    have hx : x ∈ m := s x List.mem_cons_self
    have h' := List.nodup_cons.mp h
    have := nodup_sub (l := l) (m := m.erase x) h'.2 fun y hy => (List.mem_erase_of_ne (fun e => h'.1 (by rw [← e]; exact hy))).mpr (s y (List.mem_cons_of_mem _ hy))
    rw [List.length_erase_of_mem hx] at this
    have : 0 < m.length := List.length_pos_of_mem hx
    rw [List.length_cons]; omega
def trueK (ks : List Str) : List (Key × V) := ks.map fun x => (Sum.inr x, V.bl true)
theorem put_true (ks : List Str) (x : Str) : putK (trueK ks) (Sum.inr x) (V.bl true) = trueK (addK ks x) := by
  have e : ((trueK ks).any fun kv => decide (kv.1 = Sum.inr x)) = decide (x ∈ ks) := by
    unfold trueK
    rw [List.any_map]
    induction ks with
    | nil => rfl
    | cons y ys ih =>
      rw [List.any_cons, ih]
      by_cases h : y = x
      · subst h; simp
      · have h' : ¬ x = y := fun z => h z.symm
        simp [h, h']
  unfold putK addK
  rw [e]
  by_cases h : x ∈ ks
  · rw [decide_eq_true h, if_pos rfl, if_pos h]
    unfold trueK
    rw [List.map_map]
    refine List.map_congr_left fun y _ => ?_
    simp only [Function.comp]
    split <;> simp_all
  · rw [decide_eq_false h, if_neg Bool.false_ne_true, if_neg h]
    unfold trueK
    rw [List.map_append]; rfl
theorem trueK_keys (ks : List Str) : (trueK ks).map (·.1) = ks.map Sum.inr := by unfold trueK; rw [List.map_map]; rfl
end Sq
set_option Elab.async false
set_option linter.all false
set_option maxRecDepth 100000
set_option maxHeartbeats 2000000
namespace Sq
open PySem PySem.Spec PyProof.Rows L2 RZ
theorem take_snoc {α : Type} {ds : List α} {j : Nat} {d : α} (h : ds[j]? = some d) : ds.take (j + 1) = ds.take j ++ [d] := by
  rw [List.take_add_one, h]; rfl
section
variable {K : PySem.W.Frag}
/-- a list of data, one for each item of a tuple -/
theorem lc_map {p : Addr} {ws : List V} {ds : List PyData} {te : TE} {vs : List Nat} {σ : L2.St} {H1 : Hp} {Q : VK} {i : Nat} (hp : tupF K H1 p = some ws) (hlen : ds.length = ws.length) (hsz : ws.length ≤ 100000)
    (hσ : ∀ x, wipe ((wipe σ vs).set i (some x)) vs = wipe σ vs)
    (hte : ∀ (j : Nat) (x : V) (d : PyData) (H' : Hp) (R : VK), ws[j]? = some x → ds[j]? = some d → Ext [] H1 H' → (∀ y H'', Ext [] H' H'' → Td K H'' y d → R y H'') → te ((wipe σ vs).set i (some x)) H' R)
    (hd : ∀ D ys H', H1 D = none → Ext [] H1 H' → H' D = some (.lst ys) → TdAll K H' ys ds → Q (.ref D) H') : LcB (Itt K p) (gName i) tYes te vs σ H1 Q := by
  refine lc_go walk_tup (fun D j ys H' => ys.length = j ∧ Ext [] H1 H' ∧ TdAll K H' ys (ds.take j)) (fun D hD => ⟨rfl, Ext.new hD, by rw [List.take_zero]; exact .nil⟩) (fun D j ys H' ⟨_, e, _⟩ => tupF_sq (tupF_ext e hp)) (fun D j x ys H' H'' hD hj ⟨hl, e, t⟩ _ hys y => ?_) fun D ys H' hD ⟨hl, e, t⟩ hys _ => ?_
  · obtain ⟨rfl, hx⟩ := y
    have hj' : j < ds.length := by omega
    have hdj : ds[j]? = some (ds[j]) := List.getElem?_eq_getElem hj'
    have hs1 : (100000 : Nat) < sizeLine := by decide
    refine ⟨hσ x, ?_⟩
    simp only [tYes, if_true]
    refine hte j x _ _ _ hx hdj e fun y H4 e4 hy => ⟨ys, e4.lst0 hys, by omega, ys ++ [y], by rw [List.length_append, hl]; exact Nat.le_refl _, upd_same, by rw [List.length_append, hl]; rfl, (e.trans e4).over hD (Ext.setL List.mem_cons_self (e4.lst0 hys)), ?_⟩
    rw [take_snoc hdj]
    have es : Ext [D] H4 (upd H4 D (.lst (ys ++ [y]))) := Ext.setL List.mem_cons_self (e4.lst0 hys)
    exact ((t.ext e4).ext es).snoc (hy.ext es)
  · refine hd D ys H' hD e hys ?_
    rw [← hlen, List.take_length] at t
    exact t
/-- a sum of ints, one for each item of a tuple -/
theorem gsum_map {P p : Addr} {ws : List V} {ns : List Int} {te : TE} {vs : List Nat} {σ : L2.St} {H1 : Hp} {Fin : Int → Hp → Prop} {i : Nat} (ht : GxR.TabG H1 P) (hp : tupF K H1 p = some ws) (hlen : ns.length = ws.length)
    (hσ : ∀ x, wipe ((wipe σ vs).set i (some x)) vs = wipe σ vs)
    (hb : ∀ j n, ns[j]? = some n → InLong n ∧ InLong ((ns.take j).sum + n))
    (hte : ∀ (j : Nat) (x : V) (n : Int) (H' : Hp) (R : VK), ws[j]? = some x → ns[j]? = some n → Ext [P] H1 H' → (∀ H'', Ext [P] H' H'' → R (.int n) H'') → te ((wipe σ vs).set i (some x)) H' R)
    (hd : ∀ H', Ext [P] H1 H' → Fin ns.sum H') : GB P (Itt K p) (gName i) tYes te vs (0 : Int) (fun t y H N => ∃ j, y = .int j ∧ (InLong j ∧ InLong (t + j)) ∧ N (t + j) H) Fin σ H1 := by
  refine gen_go walk_tup ht (fun j t H' => t = (ns.take j).sum ∧ Ext [P] H1 H') (fun H2 e => ⟨by rw [List.take_zero]; rfl, e⟩) (fun j t H' _ ⟨_, e⟩ => tupF_sq (tupF_ext e hp)) (fun j x t H' H'' hj ⟨hs, e⟩ y => ?_) fun t H' ⟨hs, e⟩ => ?_
  · obtain ⟨rfl, hx⟩ := y
    have hj' : j < ns.length := by omega
    have hnj : ns[j]? = some (ns[j]) := List.getElem?_eq_getElem hj'
    refine ⟨hσ x, ?_⟩
    simp only [tYes, if_true]
    obtain ⟨b1, b2⟩ := hb j _ hnj
    refine hte j x _ _ _ hx hnj e fun H4 e4 => ⟨_, rfl, ⟨b1, by rw [hs]; exact b2⟩, ?_, e.trans e4⟩
    rw [take_snoc hnj, hs, List.sum_append]
    simp
  · rw [← hlen, List.take_length] at hs
    rw [hs]
    exact hd H' e
theorem two_long {ns : List Int} (hl : ns.length ≤ 2) (hb : ∀ n ∈ ns, 0 ≤ n ∧ n ≤ 4194304) : ∀ j n, ns[j]? = some n → InLong n ∧ InLong ((ns.take j).sum + n) := by
  intro j n h
  have lo : ∀ x : Int, 0 ≤ x → x ≤ 8388608 → InLong x := fun x h1 h2 => by unfold InLong; omega
  match ns, hl, hb, j, h with
  | [x], _, hb, 0, h => cases h; have := hb n (by simp); exact ⟨lo _ (by omega) (by omega), lo _ (by simp; omega) (by simp; omega)⟩
  | [x, y], _, hb, 0, h => cases h; have := hb n (by simp); exact ⟨lo _ (by omega) (by omega), lo _ (by simp; omega) (by simp; omega)⟩
  | [x, y], _, hb, 1, h => cases h; have := hb n (by simp); have := hb x (by simp); exact ⟨lo _ (by omega) (by omega), lo _ (by simp; omega) (by simp; omega)⟩
theorem td_ints {H : Hp} : ∀ {ys : List V} {ns : List Int}, TdAll K H ys (ns.map PyData.int) → ys = ns.map V.int
  | _, [], .nil => rfl
  | _, _ :: _, .cons (.int _) r => by rw [td_ints r]; rfl
/-- any over the keys of a locked dict -/
theorem gany_keys {P d : Addr} {o : Obj} {kvs : List (Key × V)} {te : TE} {vs : List Nat} {σ : L2.St} {H1 : Hp} {Qt Qf : Hp → Prop} {i : Nat} (r : Nat → Bool) (ht : GxR.TabG H1 P) (hd : H1 d = some (.frz o (.dK kvs)))
    (hσ : ∀ x, wipe ((wipe σ vs).set i (some x)) vs = wipe σ vs)
    (hte : ∀ (j : Nat) (k : Key) (v : V) (H' : Hp) (R : VK), kvs[j]? = some (k, v) → Ext [P] H1 H' → (∀ H'', Ext [P] H' H'' → R (.bl (r j)) H'') → te ((wipe σ vs).set i (some (kV k))) H' R)
    (hT : ∀ H' j, j < kvs.length → r j = true → Ext [P] H1 H' → Qt H') (hF : ∀ H', (∀ j, j < kvs.length → r j = false) → Ext [P] H1 H' → Qf H') :
    GB P (Itk d o kvs) (gName i) tYes te vs () (fun _ y H N => ∃ b, y = .bl b ∧ if b = true then Qt H else N () H) (fun _ H => Qf H) σ H1 := by
  refine gen_go walk_keys ht (fun j _ H' => (∀ m, m < j → r m = false) ∧ Ext [P] H1 H') (fun H2 e => ⟨fun m hm => absurd hm (Nat.not_lt_zero _), e⟩) (fun j t H' _ ⟨_, e⟩ => e.frz _ _ _ hd) (fun j x t H' H'' hj ⟨hs, e⟩ y => ?_) fun t H' ⟨hs, e⟩ => hF H' hs e
  obtain ⟨rfl, k, v, hk, rfl⟩ := y
  refine ⟨hσ _, ?_⟩
  simp only [tYes, if_true]
  refine hte j k v _ _ hk e fun H4 e4 => ⟨_, rfl, ?_⟩
  cases hr : r j with
  | true => simp only [if_true]; exact hT H4 j hj hr (e.trans e4)
  | false =>
    simp only [Bool.false_eq_true, if_false]
    refine ⟨fun m hm => ?_, e.trans e4⟩
    by_cases q : m = j
    · rw [q]; exact hr
    · exact hs m (by omega)
theorem dctF_lock {H : Hp} {d p : Addr} {o : Obj} {k1 k2 : List (Key × V)} (h : dctF H p = some k1) (hd : H d = some (.dK k2)) : dctF (upd H d (.frz o (.dK k2))) p = some k1 := by
  by_cases e : p = d
  · subst e
    rw [dctF_dK hd] at h
    cases h
    exact dctF_frz upd_same
  · unfold dctF
    rw [upd_ne e]
    exact h
theorem valV_at : ∀ {kvs : List (Key × V)} {j : Nat} {k : Key} {v : V}, kvs[j]? = some (k, v) → ∃ v', valV kvs k = some v'
  | p :: r, 0, k, v, h => by cases h; exact ⟨v, valV_pos rfl⟩
  | p :: r, j + 1, k, v, h => by
    by_cases e : p.1 = k
    · exact ⟨_, valV_pos e⟩
    · rw [valV_neg e]; exact valV_at (by simpa using h)
theorem at_valV {kvs : List (Key × V)} {k : Key} {v : V} (h : valV kvs k = some v) : ∃ j : Nat, kvs[j]? = some (k, v) := by
  induction kvs with
  | nil => cases h
  | cons p r ih =>
    by_cases e : p.1 = k
    · rw [valV_pos e] at h
      cases h
      exact ⟨0, by rw [← e]; rfl⟩
    · rw [valV_neg e] at h
      obtain ⟨j, hj⟩ := ih h
      exact ⟨j + 1, by simpa using hj⟩
end
end Sq
set_option Elab.async false
set_option linter.all false
set_option maxRecDepth 100000
set_option maxHeartbeats 2000000
namespace Sq
open PySem PySem.Spec PyProof.Rows L2 RZ
/-! ### the text of a tuple of data, where nothing is being told -/
def rStrT (K : PySem.W.Frag) : List V → Hp → VK → Prop := fun xs H Q => ∃ (v : V) (ds : List PyData), xs = [v] ∧ Td K H v (.tuple ds) ∧ SeqAt.shaped (.tuple ds) = true ∧ (PyData.tuple ds).showable = true ∧ (PyData.tuple ds).shown.length ≤ sizeLine ∧ Q (.str (PyData.tuple ds).shown) H
theorem call_strT {X : Cx} (K : PySem.W.Frag) (hg : X.A.guards = some []) (hu : X.A.units + 90 < cLine) (hK : X.K = K := by rfl) : CallR X (.type "str") (rStrT K) := by
  subst hK
  intro pins s σ H xs us Q I r h
  obtain ⟨v, ds, rfl, hd, sh, sw, sz, q⟩ := h
  obtain ⟨u, rfl, rx⟩ := vals1 r
  obtain ⟨as, r1⟩ := Dp.reads I _ v u hd.dp rx
  cases hd with
  | tup h1 h2 =>
    cases rx
    have hdep := SeqAt.depth_of_shaped sh
    have hlay := SeqAt.canLay_of_shaped sh
    refine str_of_reads r1 sw (PyData.noDict_hsm (PyData.hasDict_of_canLay _ hlay)) hg (by omega) (fun b o e => e) (fun h' u tk hk => ⟨.str _, H, I.kept hk, ⟨_, rfl⟩, q⟩) sz
/-! ### isinstance -/
def isTupD : PyData → Bool | .tuple _ => true | _ => false
def isStrD : PyData → Bool | .str _ => true | _ => false
theorem td_tyx {K : PySem.W.Frag} {H : Hp} {v : V} {d : PyData} (h : Td K H v d) : ∃ n, TyX K H v (.type n) ∧ PySem.W.kitOne K (.type n) (.type "tuple") = some (isTupD d) ∧ PySem.W.kitOne K (.type n) (.type "str") = some (isStrD d) := by
  cases h with
  | non => exact ⟨_, .base .non, kit_ty (by decide +kernel), kit_ty (by decide +kernel)⟩
  | bl b => exact ⟨_, .base (.bl b), kit_ty (by show kitB "bool" "tuple" = some false; decide +kernel), kit_ty (by show kitB "bool" "str" = some false; decide +kernel)⟩
  | int i => exact ⟨_, .base (.int i), kit_ty (by show kitB "int" "tuple" = some false; decide +kernel), kit_ty (by show kitB "int" "str" = some false; decide +kernel)⟩
  | str x => exact ⟨_, .base (.str x), kit_ty (by show kitB "str" "tuple" = some false; decide +kernel), kit_ty (by show kitB "str" "str" = some true; decide +kernel)⟩
  | tup e r =>
    refine ⟨"tuple", ?_, kit_ty (by show kitB "tuple" "tuple" = some true; decide +kernel), kit_ty (by show kitB "tuple" "str" = some false; decide +kernel)⟩
    rcases tupF_sq e with (e | ⟨o, e⟩) | ⟨o, its, n, e, c, _⟩
    · exact .base (.tup e)
    · exact .fTuple e
    · exact .kTuple e c
/-- isinstance(x, tuple): data of tuples, or a list -/
def rIsTup (K : PySem.W.Frag) : List V → Hp → VK → Prop := fun xs H Q => ∃ v : V, xs = [v, .ty "tuple"] ∧ ((∃ d, Td K H v d ∧ Q (.bl (isTupD d)) H) ∨ ∃ a ys, v = .ref a ∧ H a = some (.lst ys) ∧ Q (.bl false) H)
def rIsStr (K : PySem.W.Frag) : List V → Hp → VK → Prop := fun xs H Q => ∃ (v : V) (d : PyData), xs = [v, .ty "str"] ∧ Td K H v d ∧ Q (.bl (isStrD d)) H
theorem call_isTup {X : Cx} (K : PySem.W.Frag) (hK : X.K = K := by rfl) : CallR X (.builtin "isinstance") (rIsTup K) := by
  subst hK
  intro pins s σ H xs us Q I r ⟨v, e, h⟩
  subst e
  rcases h with ⟨d, hd, q⟩ | ⟨a, ys, rfl, ha, q⟩
  · obtain ⟨n, ty, k1, _⟩ := td_tyx hd
    exact call_isi pins s σ H _ us Q I r ⟨v, _, _, _, _, rfl, .ty "tuple", ty, k1, q⟩
  · exact call_isi pins s σ H _ us Q I r ⟨.ref a, _, .type "list", _, _, rfl, .ty "tuple", .base (.lst ha), kit_ty (by decide +kernel), q⟩
theorem call_isStr {X : Cx} (K : PySem.W.Frag) (hK : X.K = K := by rfl) : CallR X (.builtin "isinstance") (rIsStr K) := by
  subst hK
  intro pins s σ H xs us Q I r ⟨v, d, e, hd, q⟩
  subst e
  obtain ⟨n, ty, _, k1⟩ := td_tyx hd
  exact call_isi pins s σ H _ us Q I r ⟨v, _, _, _, _, rfl, .ty "str", ty, k1, q⟩
/-! ### lists of data: in, not in, index -/
def rInL (K : PySem.W.Frag) (neg : Bool) : R2 := fun x y H Q => ∃ d a ws ds, Td K H x d ∧ y = .ref a ∧ H a = some (.lst ws) ∧ TdAll K H ws ds ∧ SeqAt.shaped d = true ∧ SeqAt.shaped (.list ds) = true ∧ Q (.bl (if neg then !ds.any fun z => PyData.eqv z d else ds.any fun z => PyData.eqv z d)) H
theorem op_inLK {X : Cx} (K : PySem.W.Frag) (hu : X.A.units + 65 < cLine) (hK : X.K = K := by rfl) : OpR X (compareOp .In) (rInL K false) := by
  subst hK
  intro pins s σ H x y v u Q I rx ry ⟨d, a, ws, ds, hd, e, ha, t, s1, s2, q⟩
  subst e
  exact op_inD hu pins s σ H x _ v u Q I rx ry ⟨d, ds, hd.dp, .lst (SqL.of ha) t.dp, s1, s2, q⟩
theorem op_ninLK {X : Cx} (K : PySem.W.Frag) (hu : X.A.units + 65 < cLine) (hK : X.K = K := by rfl) : OpR X (compareOp .NotIn) (rInL K true) := by
  subst hK
  intro pins s σ H x y v u Q I rx ry ⟨d, a, ws, ds, hd, e, ha, t, s1, s2, q⟩
  subst e
  exact op_notInD hu pins s σ H x _ v u Q I rx ry ⟨d, ds, hd.dp, .lst (SqL.of ha) t.dp, s1, s2, q⟩
def rIndexL (K : PySem.W.Frag) : V → List V → Hp → VK → Prop := fun x xs H Q => ∃ (a : Addr) (y : V) (d : PyData) (ws : List V) (ds : List PyData) (j : Nat) (z : PyData), x = .ref a ∧ xs = [y] ∧ H a = some (.lst ws) ∧ TdAll K H ws ds ∧ Td K H y d ∧ SeqAt.shaped (.list ds) = true ∧ SeqAt.shaped d = true ∧ ds[j]? = some z ∧ PyData.eqv z d = true ∧
  (∀ (m : Nat) (z' : PyData), m < j → ds[m]? = some z' → PyData.eqv z' d = false) ∧ Q (.int (j : Nat)) H
theorem mt_indexLK {X : Cx} (K : PySem.W.Frag) (hu : X.A.units + 65 < cLine) (hK : X.K = K := by rfl) : MtR X "list.index" (rIndexL K) := by
  subst hK
  intro pins s σ H x xs v us Q I rx rv ⟨a, y, d, ws, ds, j, z, e1, e2, ha, t, hy, s1, s2, hz, h1, h2, q⟩
  subst e1 e2
  exact mt_indexD hu pins s σ H _ _ v us Q I rx rv ⟨a, y, d, ds, j, z, rfl, rfl, .lst (SqL.of ha) t.dp, hy.dp, s1, s2, hz, h1, h2, q⟩
end Sq
set_option Elab.async false
set_option linter.all false
set_option maxRecDepth 100000
set_option maxHeartbeats 2000000
namespace Sq
open PySem PySem.Spec PyProof.Rows L2
/-! ### formulas: names, two constants, three joins -/
inductive Jn
  | to
  | both
  | either
deriving DecidableEq
def Jn.str : Jn → Str
  | to => "to"
  | both => "both"
  | either => "either"
theorem Jn.inj {j k : Jn} (h : j.str = k.str) : j = k := by
  revert h
  cases j <;> cases k <;> decide
inductive Fm
  | name (x : Str)
  | one
  | none
  | bin (j : Jn) (s t : Fm)
deriving DecidableEq
namespace Fm
def data : Fm → PyData
  | name x => .tuple [.str "name", .str x]
  | one => .tuple [.str "one"]
  | none => .tuple [.str "none"]
  | bin j t u => .tuple [.str j.str, t.data, u.data]
def dep : Fm → Nat
  | bin _ t u => max t.dep u.dep + 1
  | _ => 1
def sz : Fm → Nat
  | bin _ t u => t.sz + u.sz + 1
  | _ => 1
def names : Fm → List Str
  | name x => [x]
  | bin _ t u => t.names ++ u.names
  | _ => []
def isN : Fm → Bool
  | name _ => true
  | _ => false
def hd : Fm → Str
  | name _ => "name"
  | one => "one"
  | none => "none"
  | bin j _ _ => j.str
def args : Fm → List Fm
  | bin _ t u => [t, u]
  | _ => []
theorem dep_pos : ∀ t : Fm, 1 ≤ t.dep := fun t => by cases t <;> simp [dep]
theorem sz_pos : ∀ t : Fm, 1 ≤ t.sz := fun t => by cases t <;> simp [sz]
theorem arg_cases {t u : Fm} (h : u ∈ t.args) : ∃ j s r, t = bin j s r ∧ (u = s ∨ u = r) := by
  cases t with
  | bin j s r => exact ⟨j, s, r, rfl, by simpa [args] using h⟩
  | _ => cases h
theorem dep_arg {t u : Fm} (h : u ∈ t.args) : u.dep < t.dep := by
  obtain ⟨j, s, r, rfl, e | e⟩ := arg_cases h <;> (subst e; simp only [dep]; omega)
theorem sz_arg {t u : Fm} (h : u ∈ t.args) : u.sz < t.sz := by
  obtain ⟨j, s, r, rfl, e | e⟩ := arg_cases h <;> (subst e; simp only [sz]; omega)
theorem names_arg {t u : Fm} (h : u ∈ t.args) {x : Str} (hx : x ∈ u.names) : x ∈ t.names := by
  obtain ⟨j, s, r, rfl, e | e⟩ := arg_cases h <;> subst e
  · exact List.mem_append_left _ hx
  · exact List.mem_append_right _ hx
theorem names_args {t : Fm} (h : t.isN = false) {x : Str} : x ∈ t.names ↔ ∃ u ∈ t.args, x ∈ u.names := by
  cases t with
  | name x => cases h
  | one => simp [names, args]
  | none => simp [names, args]
  | bin j s r => simp [names, args]
theorem data_f {t : Fm} (h : t.isN = false) : t.data = .tuple (.str t.hd :: t.args.map data) := by
  cases t with
  | name x => cases h
  | _ => rfl
theorem hd_v {t : Fm} (h : t.isN = false) : t.hd ≠ "name" := by
  cases t with
  | name x => cases h
  | one => show ("one" : Str) ≠ "name"; decide
  | none => show ("none" : Str) ≠ "name"; decide
  | bin j s r => cases j <;> (simp only [hd, Jn.str]; decide)
theorem hd_iff {t : Fm} : t.hd = "name" ↔ t.isN = true := by
  cases e : t.isN with
  | true => cases t <;> first | (cases e; done) | simp [hd]
  | false => simpa using hd_v e
def isB : Fm → Bool
  | bin _ _ _ => true
  | _ => false
theorem hd_b {t : Fm} : (t.hd = "to" ∨ t.hd = "both" ∨ t.hd = "either") ↔ t.isB = true := by
  cases t with
  | name x => simp only [hd, isB]; exact ⟨fun h => by rcases h with h | h | h <;> exact absurd h (by decide), fun h => by cases h⟩
  | one => simp only [hd, isB]; exact ⟨fun h => by rcases h with h | h | h <;> exact absurd h (by decide), fun h => by cases h⟩
  | none => simp only [hd, isB]; exact ⟨fun h => by rcases h with h | h | h <;> exact absurd h (by decide), fun h => by cases h⟩
  | bin j s r => cases j <;> simp [hd, isB, Jn.str]
theorem eq_hd {s t : Fm} (hs : s.isN = false) (ht : t.isN = false) (h1 : s.hd = t.hd) (h2 : s.args = t.args) : s = t := by
  cases s with
  | name x => cases hs
  | one => cases t with
    | name x => cases ht
    | one => rfl
    | none => exact absurd h1 (by simp only [hd]; decide)
    | bin j a b => simp [args] at h2
  | none => cases t with
    | name x => cases ht
    | none => rfl
    | one => exact absurd h1 (by simp only [hd]; decide)
    | bin j a b => simp [args] at h2
  | bin j a b => cases t with
    | bin k c d =>
      simp [args] at h2
      rw [Jn.inj h1, h2.1, h2.2]
    | _ => simp [args] at h2
theorem args_eq {s t : Fm} (hs : s.isN = false) (ht : t.isN = false) (h1 : s.hd = t.hd) : s.args.length = t.args.length := by
  have key : ∀ {a b : Fm}, a.hd = b.hd → a.isB = b.isB := fun {a b} h => by
    have h1 := hd_b (t := a)
    have h2 := hd_b (t := b)
    rw [h] at h1
    cases ea : a.isB <;> cases eb : b.isB <;> simp_all
  have := key h1
  cases s <;> cases t <;> first | rfl | (cases this; done) | (cases hs; done) | (cases ht; done)
theorem args_len (t : Fm) : t.args.length ≤ 2 := by cases t <;> simp [args]
theorem eqvAll_cons (x y : PyData) (xs ys : List PyData) : PyData.eqvAll (x :: xs) (y :: ys) = (PyData.eqv x y && PyData.eqvAll xs ys) := by rw [PyData.eqvAll]
theorem eqv_str (x y : Str) : PyData.eqv (.str x) (.str y) = (x == y) := by rw [PyData.eqv]
theorem eqv_tup (xs ys : List PyData) : PyData.eqv (.tuple xs) (.tuple ys) = PyData.eqvAll xs ys := by rw [PyData.eqv]
theorem eqvAll_nil : PyData.eqvAll [] [] = true := by rw [PyData.eqvAll]
theorem eqvAll_nc (x : PyData) (xs : List PyData) : PyData.eqvAll [] (x :: xs) = false := by rw [PyData.eqvAll]
theorem eqvAll_cn (x : PyData) (xs : List PyData) : PyData.eqvAll (x :: xs) [] = false := by rw [PyData.eqvAll]
theorem eqv_data : ∀ t u : Fm, PyData.eqv t.data u.data = decide (t = u)
  | name x, name y => by simp only [data, eqv_tup, eqvAll_cons, eqv_str, eqvAll_nil, beq_self_eq_true, Bool.true_and, Bool.and_true, name.injEq]; exact Bool.beq_eq_decide_eq _ _
  | name x, one => rfl
  | name x, none => rfl
  | name x, bin j u w => by cases j <;> (simp only [data, Jn.str, eqv_tup, eqvAll_cons, eqv_str, reduceCtorEq, decide_false]; rfl)
  | one, name y => rfl
  | one, one => rfl
  | one, none => rfl
  | one, bin j u w => by cases j <;> rfl
  | none, name y => rfl
  | none, one => rfl
  | none, none => rfl
  | none, bin j u w => by cases j <;> rfl
  | bin j t u, name y => by cases j <;> (simp only [data, Jn.str, eqv_tup, eqvAll_cons, eqv_str, reduceCtorEq, decide_false]; rfl)
  | bin j t u, one => by cases j <;> rfl
  | bin j t u, none => by cases j <;> rfl
  | bin j s r, bin k u w => by
    simp only [data, eqv_tup, eqvAll_cons, eqv_str, eqv_data s u, eqv_data r w, eqvAll_nil, Bool.and_true, bin.injEq, Bool.decide_and]
    congr 1
    cases j <;> cases k <;> decide
theorem depth_data : ∀ t : Fm, t.data.depth = t.dep
  | name x => rfl
  | one => rfl
  | none => rfl
  | bin j t u => by simp [data, PyData.depth, PyData.depthAll, depth_data t, depth_data u, dep]
theorem lay_str (x : Str) : PyData.canLay0 (.str x) = PyData.strOk x := by rw [PyData.canLay0]
theorem lay_tup (xs : List PyData) : PyData.canLay0 (.tuple xs) = PyData.canLayAll0 xs := by rw [PyData.canLay0]
theorem lay_cons (x : PyData) (xs : List PyData) : PyData.canLayAll0 (x :: xs) = (PyData.canLay0 x && PyData.canLayAll0 xs) := by rw [PyData.canLayAll0]
theorem lay_nil : PyData.canLayAll0 [] = true := by rw [PyData.canLayAll0]
theorem ok_n : PyData.strOk "name" = true := by decide +kernel
theorem ok_o : PyData.strOk "one" = true := by decide +kernel
theorem ok_z : PyData.strOk "none" = true := by decide +kernel
theorem ok_j (j : Jn) : PyData.strOk j.str = true := by cases j <;> decide +kernel
theorem lay_data : ∀ t : Fm, (∀ x ∈ t.names, PyData.strOk x = true) → t.data.canLay0 = true
  | name x, h => by simp only [data, lay_tup, lay_cons, lay_str, lay_nil, ok_n, h x (by simp [names]), Bool.and_self]
  | one, _ => by simp only [data, lay_tup, lay_cons, lay_str, lay_nil, ok_o, Bool.and_self]
  | none, _ => by simp only [data, lay_tup, lay_cons, lay_str, lay_nil, ok_z, Bool.and_self]
  | bin j t u, h => by simp only [data, lay_tup, lay_cons, lay_str, lay_nil, ok_j, lay_data t (fun x q => h x (List.mem_append_left _ q)), lay_data u (fun x q => h x (List.mem_append_right _ q)), Bool.and_self]
theorem args_sz : ∀ t : Fm, (t.args.map sz).sum < t.sz
  | name _ => Nat.zero_lt_one
  | one => Nat.zero_lt_one
  | none => Nat.zero_lt_one
  | bin _ t u => by simp [args, sz]
theorem sz_le : ∀ t : Fm, t.sz + 1 ≤ 2 ^ t.dep
  | name _ => by simp [sz, dep]
  | one => by simp [sz, dep]
  | none => by simp [sz, dep]
  | bin _ t u => by
    have h1 := sz_le t
    have h2 := sz_le u
    have h3 : 2 ^ t.dep ≤ 2 ^ max t.dep u.dep := Nat.pow_le_pow_right (by omega) (Nat.le_max_left _ _)
    have h4 : 2 ^ u.dep ≤ 2 ^ max t.dep u.dep := Nat.pow_le_pow_right (by omega) (Nat.le_max_right _ _)
    simp only [sz, dep, Nat.pow_succ]; omega
end Fm
theorem Fm.shaped {NS : List Str} (n : NsOk NS) {t : Fm} (h : ∀ x ∈ t.names, x ∈ NS) (hd : t.dep ≤ 64) : SeqAt.shaped t.data = true := by
  unfold SeqAt.shaped
  rw [Fm.lay_data t fun x q => n.ok x (h x q), Fm.depth_data, decide_eq_true hd]
  rfl
section
variable {K : PySem.W.Frag} {H : Hp}
theorem fd_v {v : V} {x : Str} (h : Td K H v (Fm.name x).data) : ∃ p, v = .ref p ∧ tupF K H p = some [.str "name", .str x] := by
  cases h with
  | tup e r =>
    cases r with
    | cons h1 r =>
      cases r with
      | cons h2 r =>
        cases r
        cases h1
        cases h2
        exact ⟨_, rfl, e⟩
theorem fd_f {v : V} {t : Fm} (hv : t.isN = false) (h : Td K H v t.data) : ∃ p ws, v = .ref p ∧ tupF K H p = some (.str t.hd :: ws) ∧ TdAll K H ws (t.args.map Fm.data) := by
  rw [Fm.data_f hv] at h
  cases h with
  | tup e r =>
    cases r with
    | cons h1 r =>
      cases h1
      exact ⟨_, _, rfl, e, r⟩
theorem fd_hd {v : V} {t : Fm} (h : Td K H v t.data) : ∃ p ws, v = .ref p ∧ tupF K H p = some (.str t.hd :: ws) := by
  cases e : t.isN with
  | false => obtain ⟨p, ws, e, q, _⟩ := fd_f e h; exact ⟨p, ws, e, q⟩
  | true =>
    cases t with
    | name x => obtain ⟨p, e, q⟩ := fd_v h; exact ⟨p, _, e, q⟩
    | _ => cases e
theorem fd_b {v : V} {j : Jn} {s t : Fm} (h : Td K H v (Fm.bin j s t).data) : ∃ p x y, v = .ref p ∧ tupF K H p = some [.str j.str, x, y] ∧ Td K H x s.data ∧ Td K H y t.data := by
  cases h with
  | tup e r =>
    cases r with
    | cons h1 r =>
      cases r with
      | cons h2 r =>
        cases r with
        | cons h3 r =>
          cases r
          cases h1
          exact ⟨_, _, _, rfl, e, h2, h3⟩
theorem fd_arg {ws : List V} {t : Fm} (r : TdAll K H ws (t.args.map Fm.data)) {j : Nat} {w : V} (h : ws[j]? = some w) : ∃ u, t.args[j]? = some u ∧ u ∈ t.args ∧ Td K H w u.data := by
  obtain ⟨d, e, q⟩ := r.get h
  rw [List.getElem?_map] at e
  cases e2 : t.args[j]? with
  | none => rw [e2] at e; cases e
  | some u =>
    rw [e2] at e
    cases e
    exact ⟨u, rfl, List.mem_of_getElem? e2, q⟩
end
end Sq
set_option Elab.async false
set_option linter.all false
set_option maxRecDepth 100000
set_option maxHeartbeats 2000000
namespace Sq
open PySem PySem.Spec PyProof.Rows L2
/-! ### terms -/
inductive Tm
  | var (n : Str)
  | fn (n : Str) (f : Fm) (t : Tm)
  | app (t u : Tm)
  | pair (t u : Tm)
  | fst (t : Tm)
  | snd (t : Tm)
  | lft (t : Tm) (f : Fm)
  | rgt (f : Fm) (t : Tm)
  | cs (t : Tm) (n : Str) (u : Tm) (m : Str) (v : Tm)
  | unit
  | absd (t : Tm) (f : Fm)
deriving DecidableEq
/-- a part of a term: a name, a formula, a term -/
inductive Pt
  | n (s : Str)
  | f (g : Fm)
  | t (u : Tm)
namespace Tm
def kind : Tm → Str
  | var _ => "var"
  | fn _ _ _ => "fun"
  | app _ _ => "app"
  | pair _ _ => "pair"
  | fst _ => "first"
  | snd _ => "second"
  | lft _ _ => "left"
  | rgt _ _ => "right"
  | cs _ _ _ _ _ => "case"
  | unit => "unit"
  | absd _ _ => "absurd"
def parts : Tm → List Pt
  | var s => [.n s]
  | fn s f t => [.n s, .f f, .t t]
  | app t u => [.t t, .t u]
  | pair t u => [.t t, .t u]
  | fst t => [.t t]
  | snd t => [.t t]
  | lft t f => [.t t, .f f]
  | rgt f t => [.f f, .t t]
  | cs t s u r v => [.t t, .n s, .t u, .n r, .t v]
  | unit => []
  | absd t f => [.t t, .f f]
def data : Tm → PyData
  | var s => .tuple [.str "var", .str s]
  | fn s f t => .tuple [.str "fun", .str s, f.data, t.data]
  | app t u => .tuple [.str "app", t.data, u.data]
  | pair t u => .tuple [.str "pair", t.data, u.data]
  | fst t => .tuple [.str "first", t.data]
  | snd t => .tuple [.str "second", t.data]
  | lft t f => .tuple [.str "left", t.data, f.data]
  | rgt f t => .tuple [.str "right", f.data, t.data]
  | cs t s u r v => .tuple [.str "case", t.data, .str s, u.data, .str r, v.data]
  | unit => .tuple [.str "unit"]
  | absd t f => .tuple [.str "absurd", t.data, f.data]
def dep : Tm → Nat
  | var _ => 1
  | fn _ f t => max f.dep t.dep + 1
  | app t u => max t.dep u.dep + 1
  | pair t u => max t.dep u.dep + 1
  | fst t => t.dep + 1
  | snd t => t.dep + 1
  | lft t f => max t.dep f.dep + 1
  | rgt f t => max f.dep t.dep + 1
  | cs t _ u _ v => max t.dep (max u.dep v.dep) + 1
  | unit => 1
  | absd t f => max t.dep f.dep + 1
def sz : Tm → Nat
  | var _ => 1
  | fn _ _ t => t.sz + 1
  | app t u => t.sz + u.sz + 1
  | pair t u => t.sz + u.sz + 1
  | fst t => t.sz + 1
  | snd t => t.sz + 1
  | lft t _ => t.sz + 1
  | rgt _ t => t.sz + 1
  | cs t _ u _ v => t.sz + u.sz + v.sz + 1
  | unit => 1
  | absd t _ => t.sz + 1
/-- the terms within, one step down -/
def subs : Tm → List Tm
  | var _ => []
  | fn _ _ t => [t]
  | app t u => [t, u]
  | pair t u => [t, u]
  | fst t => [t]
  | snd t => [t]
  | lft t _ => [t]
  | rgt _ t => [t]
  | cs t _ u _ v => [t, u, v]
  | unit => []
  | absd t _ => [t]
/-- the names that bind in them -/
def bnds : Tm → List (List Str)
  | fn s _ _ => [[s]]
  | cs _ s _ r _ => [[], [s], [r]]
  | t => t.subs.map fun _ => []
/-- all names in it -/
def nms : Tm → List Str
  | var s => [s]
  | fn s _ t => s :: t.nms
  | app t u => t.nms ++ u.nms
  | pair t u => t.nms ++ u.nms
  | fst t => t.nms
  | snd t => t.nms
  | lft t _ => t.nms
  | rgt _ t => t.nms
  | cs t s u r v => t.nms ++ (s :: u.nms) ++ (r :: v.nms)
  | unit => []
  | absd t _ => t.nms
/-- all formulas in it -/
def fms : Tm → List Fm
  | var _ => []
  | fn _ f t => f :: t.fms
  | app t u => t.fms ++ u.fms
  | pair t u => t.fms ++ u.fms
  | fst t => t.fms
  | snd t => t.fms
  | lft t f => f :: t.fms
  | rgt f t => f :: t.fms
  | cs t _ u _ v => t.fms ++ u.fms ++ v.fms
  | unit => []
  | absd t f => f :: t.fms
theorem dep_pos : ∀ t : Tm, 1 ≤ t.dep := fun t => by cases t <;> simp [dep]
theorem sz_pos : ∀ t : Tm, 1 ≤ t.sz := fun t => by cases t <;> simp [sz]
theorem dep_sub {t u : Tm} (h : u ∈ t.subs) : u.dep < t.dep := by
  cases t <;> simp only [subs, List.mem_cons, List.not_mem_nil, or_false] at h <;> (try exact h.elim)
  all_goals (simp only [dep]; first | (subst h; omega) | (rcases h with h | h <;> subst h <;> omega) | (rcases h with h | h | h <;> subst h <;> omega))
theorem sz_subs : ∀ t : Tm, t.sz = (t.subs.map sz).sum + 1 := fun t => by cases t <;> simp [sz, subs]; omega
theorem nms_sub {t u : Tm} (h : u ∈ t.subs) {x : Str} (hx : x ∈ u.nms) : x ∈ t.nms := by
  cases t <;> simp only [subs, List.mem_cons, List.not_mem_nil, or_false] at h <;> (try exact h.elim)
  all_goals (simp only [nms, List.mem_append, List.mem_cons]; first | (subst h; simp [hx]) | (rcases h with h | h <;> subst h <;> simp [hx]) | (rcases h with h | h | h <;> subst h <;> simp [hx]))
theorem fms_sub {t u : Tm} (h : u ∈ t.subs) {f : Fm} (hf : f ∈ u.fms) : f ∈ t.fms := by
  cases t <;> simp only [subs, List.mem_cons, List.not_mem_nil, or_false] at h <;> (try exact h.elim)
  all_goals (simp only [fms, List.mem_append, List.mem_cons]; first | (subst h; simp [hf]) | (rcases h with h | h <;> subst h <;> simp [hf]) | (rcases h with h | h | h <;> subst h <;> simp [hf]))
theorem bnds_len (t : Tm) : t.bnds.length = t.subs.length := by cases t <;> rfl
theorem data_k (t : Tm) : ∃ ds, t.data = .tuple (.str t.kind :: ds) := by cases t <;> exact ⟨_, rfl⟩
theorem depth_data : ∀ t : Tm, t.data.depth = t.dep
  | var _ => rfl
  | fn _ f t => by simp [data, PyData.depth, PyData.depthAll, depth_data t, Fm.depth_data f, dep]
  | app t u => by simp [data, PyData.depth, PyData.depthAll, depth_data t, depth_data u, dep]
  | pair t u => by simp [data, PyData.depth, PyData.depthAll, depth_data t, depth_data u, dep]
  | fst t => by simp [data, PyData.depth, PyData.depthAll, depth_data t, dep]
  | snd t => by simp [data, PyData.depth, PyData.depthAll, depth_data t, dep]
  | lft t f => by simp [data, PyData.depth, PyData.depthAll, depth_data t, Fm.depth_data f, dep]
  | rgt f t => by simp [data, PyData.depth, PyData.depthAll, depth_data t, Fm.depth_data f, dep]
  | cs t _ u _ v => by simp [data, PyData.depth, PyData.depthAll, depth_data t, depth_data u, depth_data v, dep]
  | unit => rfl
  | absd t f => by simp [data, PyData.depth, PyData.depthAll, depth_data t, Fm.depth_data f, dep]
theorem ok_kind (t : Tm) : PyData.strOk t.kind = true := by cases t <;> (simp only [kind]; decide +kernel)
theorem lay_data : ∀ t : Tm, (∀ x ∈ t.nms, PyData.strOk x = true) → (∀ f ∈ t.fms, f.data.canLay0 = true) → t.data.canLay0 = true
  | var s, h, _ => by have := ok_kind (var s); simp only [kind] at this; simp only [data, Fm.lay_tup, Fm.lay_cons, Fm.lay_str, Fm.lay_nil, this, h s (by simp [nms]), Bool.and_self]
  | fn s f t, h, k => by have := ok_kind (fn s f t); simp only [kind] at this; simp only [data, Fm.lay_tup, Fm.lay_cons, Fm.lay_str, Fm.lay_nil, this, h s (by simp [nms]), k f (by simp [fms]), lay_data t (fun x q => h x (by simp [nms, q])) (fun g q => k g (by simp [fms, q])), Bool.and_self]
  | app t u, h, k => by have := ok_kind (app t u); simp only [kind] at this; simp only [data, Fm.lay_tup, Fm.lay_cons, Fm.lay_str, Fm.lay_nil, this, lay_data t (fun x q => h x (by simp [nms, q])) (fun g q => k g (by simp [fms, q])), lay_data u (fun x q => h x (by simp [nms, q])) (fun g q => k g (by simp [fms, q])), Bool.and_self]
  | pair t u, h, k => by have := ok_kind (pair t u); simp only [kind] at this; simp only [data, Fm.lay_tup, Fm.lay_cons, Fm.lay_str, Fm.lay_nil, this, lay_data t (fun x q => h x (by simp [nms, q])) (fun g q => k g (by simp [fms, q])), lay_data u (fun x q => h x (by simp [nms, q])) (fun g q => k g (by simp [fms, q])), Bool.and_self]
  | fst t, h, k => by have := ok_kind (fst t); simp only [kind] at this; simp only [data, Fm.lay_tup, Fm.lay_cons, Fm.lay_str, Fm.lay_nil, this, lay_data t (fun x q => h x (by simp [nms, q])) (fun g q => k g (by simp [fms, q])), Bool.and_self]
  | snd t, h, k => by have := ok_kind (snd t); simp only [kind] at this; simp only [data, Fm.lay_tup, Fm.lay_cons, Fm.lay_str, Fm.lay_nil, this, lay_data t (fun x q => h x (by simp [nms, q])) (fun g q => k g (by simp [fms, q])), Bool.and_self]
  | lft t f, h, k => by have := ok_kind (lft t f); simp only [kind] at this; simp only [data, Fm.lay_tup, Fm.lay_cons, Fm.lay_str, Fm.lay_nil, this, k f (by simp [fms]), lay_data t (fun x q => h x (by simp [nms, q])) (fun g q => k g (by simp [fms, q])), Bool.and_self]
  | rgt f t, h, k => by have := ok_kind (rgt f t); simp only [kind] at this; simp only [data, Fm.lay_tup, Fm.lay_cons, Fm.lay_str, Fm.lay_nil, this, k f (by simp [fms]), lay_data t (fun x q => h x (by simp [nms, q])) (fun g q => k g (by simp [fms, q])), Bool.and_self]
  | cs t s u r v, h, k => by have := ok_kind (cs t s u r v); simp only [kind] at this; simp only [data, Fm.lay_tup, Fm.lay_cons, Fm.lay_str, Fm.lay_nil, this, h s (by simp [nms]), h r (by simp [nms]), lay_data t (fun x q => h x (by simp [nms, q])) (fun g q => k g (by simp [fms, q])), lay_data u (fun x q => h x (by simp [nms, q])) (fun g q => k g (by simp [fms, q])), lay_data v (fun x q => h x (by simp [nms, q])) (fun g q => k g (by simp [fms, q])), Bool.and_self]
  | unit, _, _ => by have := ok_kind unit; simp only [kind] at this; simp only [data, Fm.lay_tup, Fm.lay_cons, Fm.lay_str, Fm.lay_nil, this, Bool.and_self]
  | absd t f, h, k => by have := ok_kind (absd t f); simp only [kind] at this; simp only [data, Fm.lay_tup, Fm.lay_cons, Fm.lay_str, Fm.lay_nil, this, k f (by simp [fms]), lay_data t (fun x q => h x (by simp [nms, q])) (fun g q => k g (by simp [fms, q])), Bool.and_self]
end Tm
end Sq
set_option Elab.async false
set_option linter.all false
set_option maxRecDepth 100000
set_option maxHeartbeats 2000000
namespace Sq
open PySem PySem.Spec PyProof.Rows L2
/-! ### data of texts and tuples alone: == tells whether it is one -/
mutual
inductive Pl : PyData → Prop
  | str (x : Str) : Pl (.str x)
  | tup {ds : List PyData} : PlAll ds → Pl (.tuple ds)
inductive PlAll : List PyData → Prop
  | nil : PlAll []
  | cons {d : PyData} {ds : List PyData} : Pl d → PlAll ds → PlAll (d :: ds)
end
mutual
theorem eqv_pl : ∀ {x y : PyData}, Pl x → Pl y → (PyData.eqv x y = true ↔ x = y)
  | _, _, .str a, .str b => by rw [Fm.eqv_str]; simp
  | _, _, .str a, .tup _ => ⟨fun h => by rw [PyData.eqv] at h <;> simp at h, fun h => by cases h⟩
  | _, _, .tup _, .str b => ⟨fun h => by rw [PyData.eqv] at h <;> simp at h, fun h => by cases h⟩
  | _, _, .tup h, .tup k => by
    rw [Fm.eqv_tup, eqv_plAll h k]
    exact ⟨fun e => by rw [e], fun e => by cases e; rfl⟩
theorem eqv_plAll : ∀ {xs ys : List PyData}, PlAll xs → PlAll ys → (PyData.eqvAll xs ys = true ↔ xs = ys)
  | _, _, .nil, .nil => by rw [Fm.eqvAll_nil]; simp
  | _, _, .nil, .cons _ _ => by rw [Fm.eqvAll_nc]; simp
  | _, _, .cons _ _, .nil => by rw [Fm.eqvAll_cn]; simp
  | _, _, .cons h r, .cons k q => by
    rw [Fm.eqvAll_cons, Bool.and_eq_true, eqv_pl h k, eqv_plAll r q]
    exact ⟨fun e => by rw [e.1, e.2], fun e => by cases e; exact ⟨rfl, rfl⟩⟩
end
theorem Fm.pl_data : ∀ f : Fm, Pl f.data
  | .name x => .tup (.cons (.str _) (.cons (.str _) .nil))
  | .one => .tup (.cons (.str _) .nil)
  | .none => .tup (.cons (.str _) .nil)
  | .bin j s t => .tup (.cons (.str _) (.cons (Fm.pl_data s) (.cons (Fm.pl_data t) .nil)))
theorem Fm.data_inj {f g : Fm} (h : f.data = g.data) : f = g := by
  have := Fm.eqv_data f g
  rw [(eqv_pl f.pl_data g.pl_data).mpr h] at this
  exact of_decide_eq_true this.symm
namespace Tm
theorem pl_data : ∀ t : Tm, Pl t.data
  | var _ => .tup (.cons (.str _) (.cons (.str _) .nil))
  | fn _ f t => .tup (.cons (.str _) (.cons (.str _) (.cons f.pl_data (.cons (pl_data t) .nil))))
  | app t u => .tup (.cons (.str _) (.cons (pl_data t) (.cons (pl_data u) .nil)))
  | pair t u => .tup (.cons (.str _) (.cons (pl_data t) (.cons (pl_data u) .nil)))
  | fst t => .tup (.cons (.str _) (.cons (pl_data t) .nil))
  | snd t => .tup (.cons (.str _) (.cons (pl_data t) .nil))
  | lft t f => .tup (.cons (.str _) (.cons (pl_data t) (.cons f.pl_data .nil)))
  | rgt f t => .tup (.cons (.str _) (.cons f.pl_data (.cons (pl_data t) .nil)))
  | cs t _ u _ v => .tup (.cons (.str _) (.cons (pl_data t) (.cons (.str _) (.cons (pl_data u) (.cons (.str _) (.cons (pl_data v) .nil))))))
  | unit => .tup (.cons (.str _) .nil)
  | absd t f => .tup (.cons (.str _) (.cons (pl_data t) (.cons f.pl_data .nil)))
theorem kind_tag {t u : Tm} (h : t.data = u.data) : t.kind = u.kind := by
  obtain ⟨a, ha⟩ := data_k t
  obtain ⟨b, hb⟩ := data_k u
  rw [ha, hb] at h
  injection h with h
  injection h with h _
  injection h
theorem tup_inj {a b : List PyData} (h : PyData.tuple a = .tuple b) : a = b := by injection h
theorem data_inj : ∀ {t u : Tm}, t.data = u.data → t = u
  | var s, u, h => by cases u <;> first | (simp only [data, PyData.tuple.injEq, List.cons.injEq, PyData.str.injEq] at h; rw [h.2.1]; done) | exact absurd (kind_tag h) (by simp only [kind]; decide)
  | fn s f t, u, h => by cases u <;> first | exact absurd (kind_tag h) (by simp only [kind]; decide) | (simp only [data, PyData.tuple.injEq, List.cons.injEq, PyData.str.injEq] at h; rw [h.2.1, Fm.data_inj h.2.2.1, data_inj h.2.2.2.1])
  | app t u, w, h => by cases w <;> first | exact absurd (kind_tag h) (by simp only [kind]; decide) | (simp only [data, PyData.tuple.injEq, List.cons.injEq, PyData.str.injEq] at h; rw [data_inj h.2.1, data_inj h.2.2.1])
  | pair t u, w, h => by cases w <;> first | exact absurd (kind_tag h) (by simp only [kind]; decide) | (simp only [data, PyData.tuple.injEq, List.cons.injEq, PyData.str.injEq] at h; rw [data_inj h.2.1, data_inj h.2.2.1])
  | fst t, w, h => by cases w <;> first | exact absurd (kind_tag h) (by simp only [kind]; decide) | (simp only [data, PyData.tuple.injEq, List.cons.injEq, PyData.str.injEq] at h; rw [data_inj h.2.1])
  | snd t, w, h => by cases w <;> first | exact absurd (kind_tag h) (by simp only [kind]; decide) | (simp only [data, PyData.tuple.injEq, List.cons.injEq, PyData.str.injEq] at h; rw [data_inj h.2.1])
  | lft t f, w, h => by cases w <;> first | exact absurd (kind_tag h) (by simp only [kind]; decide) | (simp only [data, PyData.tuple.injEq, List.cons.injEq, PyData.str.injEq] at h; rw [data_inj h.2.1, Fm.data_inj h.2.2.1])
  | rgt f t, w, h => by cases w <;> first | exact absurd (kind_tag h) (by simp only [kind]; decide) | (simp only [data, PyData.tuple.injEq, List.cons.injEq, PyData.str.injEq] at h; rw [Fm.data_inj h.2.1, data_inj h.2.2.1])
  | cs t s u r v, w, h => by cases w <;> first | exact absurd (kind_tag h) (by simp only [kind]; decide) | (simp only [data, PyData.tuple.injEq, List.cons.injEq, PyData.str.injEq] at h; rw [data_inj h.2.1, h.2.2.1, data_inj h.2.2.2.1, h.2.2.2.2.1, data_inj h.2.2.2.2.2.1])
  | unit, w, h => by cases w <;> first | rfl | exact absurd (kind_tag h) (by simp only [kind]; decide)
  | absd t f, w, h => by cases w <;> first | exact absurd (kind_tag h) (by simp only [kind]; decide) | (simp only [data, PyData.tuple.injEq, List.cons.injEq, PyData.str.injEq] at h; rw [data_inj h.2.1, Fm.data_inj h.2.2.1])
theorem eqv_data (t u : Tm) : PyData.eqv t.data u.data = decide (t = u) := by
  have := eqv_pl t.pl_data u.pl_data
  cases e : PyData.eqv t.data u.data with
  | true => exact (decide_eq_true (data_inj (this.mp e))).symm
  | false => exact (decide_eq_false fun z => by rw [z] at e; rw [(eqv_pl u.pl_data u.pl_data).mpr rfl] at e; cases e).symm
end Tm
end Sq
set_option Elab.async false
set_option linter.all false
set_option maxRecDepth 100000
set_option maxHeartbeats 2000000
namespace Sq
open PySem PySem.Spec PyProof.Rows L2
/-! ### the text of a formula, and how it is read -/
def Jn.lev : Jn → Nat
  | .to => 0
  | .either => 1
  | .both => 2
def Jn.sign : Jn → Nat
  | .to => 62
  | .either => 124
  | .both => 38
def Jn.ll : Jn → Nat
  | .to => 1
  | .either => 1
  | .both => 2
def Jn.rl : Jn → Nat
  | .to => 0
  | .either => 2
  | .both => 3
def Fm.tell : Nat → Fm → List Nat
  | _, .name x => x.cps.toList
  | _, .one => [49]
  | _, .none => [48]
  | l, .bin j s t => if j.lev < l then [40] ++ (Fm.tell j.ll s ++ ([j.sign] ++ (Fm.tell j.rl t ++ [41]))) else Fm.tell j.ll s ++ ([j.sign] ++ Fm.tell j.rl t)
/-- names that are one small letter -/
def Let (x : Str) : Prop := ∃ c, x = ⟨#[c]⟩ ∧ 97 ≤ c ∧ c ≤ 122
inductive Md
  | to
  | row (l : Nat)
  | one
  | loop (l : Nat) (f : Fm)
def opJ : Nat → Jn
  | 0 => .either
  | _ => .both
def nxM : Nat → Md
  | 0 => .row 1
  | _ => .one
/-- how a text is read: what is told, and what is left -/
inductive Rd : Md → List Nat → Fm × List Nat → Prop
  | to1 {ts r s : List Nat} {f g : Fm} : Rd (.row 0) ts (f, 62 :: r) → Rd .to r (g, s) → Rd .to ts (.bin .to f g, s)
  | to0 {ts r : List Nat} {f : Fm} : Rd (.row 0) ts (f, r) → r.head? ≠ some 62 → Rd .to ts (f, r)
  | row {l : Nat} {ts r : List Nat} {f : Fm} {x : Fm × List Nat} : Rd (nxM l) ts (f, r) → Rd (.loop l f) r x → Rd (.row l) ts x
  | loop1 {l : Nat} {r s : List Nat} {f g : Fm} {x : Fm × List Nat} : Rd (nxM l) r (g, s) → Rd (.loop l (.bin (opJ l) f g)) s x → Rd (.loop l f) ((opJ l).sign :: r) x
  | loop0 {l : Nat} {ts : List Nat} {f : Fm} : ts.head? ≠ some (opJ l).sign → Rd (.loop l f) ts (f, ts)
  | par {r s : List Nat} {f : Fm} : Rd .to r (f, 41 :: s) → Rd .one (40 :: r) (f, s)
  | one {r : List Nat} : Rd .one (49 :: r) (.one, r)
  | zero {r : List Nat} : Rd .one (48 :: r) (.none, r)
  | name {c : Nat} {r : List Nat} : 97 ≤ c → c ≤ 122 → Rd .one (c :: r) (.name ⟨#[c]⟩, r)
theorem Rd.det {m : Md} {ts : List Nat} {x : Fm × List Nat} (h : Rd m ts x) : ∀ {y : Fm × List Nat}, Rd m ts y → x = y := by
  induction h with
  | to1 _ _ ih1 ih2 =>
    intro y k
    cases k with
    | to1 k1 k2 =>
      have := ih1 k1
      simp only [Prod.mk.injEq, List.cons.injEq, true_and] at this
      obtain ⟨e1, e2⟩ := this
      subst e1 e2
      have := ih2 k2
      simp only [Prod.mk.injEq] at this
      rw [this.1, this.2]
    | to0 k1 k2 =>
      have := ih1 k1
      simp only [Prod.mk.injEq] at this
      rw [← this.2] at k2
      exact absurd rfl k2
  | to0 _ hn ih =>
    intro y k
    cases k with
    | to1 k1 k2 =>
      have := ih k1
      simp only [Prod.mk.injEq] at this
      rw [this.2] at hn
      exact absurd rfl hn
    | to0 k1 k2 => exact ih k1
  | row _ _ ih1 ih2 =>
    intro y k
    cases k with
    | row k1 k2 =>
      have := ih1 k1
      simp only [Prod.mk.injEq] at this
      obtain ⟨e1, e2⟩ := this
      subst e1 e2
      exact ih2 k2
  | loop1 _ _ ih1 ih2 =>
    intro y k
    cases k with
    | loop1 k1 k2 =>
      have := ih1 k1
      simp only [Prod.mk.injEq] at this
      obtain ⟨e1, e2⟩ := this
      subst e1 e2
      exact ih2 k2
    | loop0 k1 => exact absurd rfl k1
  | loop0 hn =>
    intro y k
    cases k with
    | loop1 k1 k2 => exact absurd rfl hn
    | loop0 _ => rfl
  | par _ ih =>
    intro y k
    cases k with
    | par k1 =>
      have := ih k1
      simp only [Prod.mk.injEq, List.cons.injEq, true_and] at this
      rw [this.1, this.2]
    | name a b => omega
  | one =>
    intro y k
    cases k with
    | one => rfl
    | name a b => omega
  | zero =>
    intro y k
    cases k with
    | zero => rfl
    | name a b => omega
  | name a b =>
    intro y k
    cases k with
    | par _ => omega
    | one => omega
    | zero => omega
    | name _ _ => rfl
theorem up1 {w r : List Nat} {f : Fm} {x : Fm × List Nat} (h : ∀ r x, Rd (.loop 1 f) r x → Rd (.row 1) (w ++ r) x) (hr : r.head? ≠ some 38) (k : Rd (.loop 0 f) r x) : Rd (.row 0) (w ++ r) x := .row (h r (f, r) (.loop0 hr)) k
theorem up0 {w r : List Nat} {f : Fm} (h : ∀ r x, r.head? ≠ some 38 → Rd (.loop 0 f) r x → Rd (.row 0) (w ++ r) x) (h1 : r.head? ≠ some 38) (h2 : r.head? ≠ some 124) (h3 : r.head? ≠ some 62) : Rd .to (w ++ r) (f, r) := .to0 (h r (f, r) h1 (.loop0 h2)) h3
/-- all four levels of a formula's text -/
structure TL4 (f : Fm) : Prop where
  l3 : ∀ r, Rd .one (f.tell 3 ++ r) (f, r)
  l2 : ∀ r x, Rd (.loop 1 f) r x → Rd (.row 1) (f.tell 2 ++ r) x
  l1 : ∀ r x, r.head? ≠ some 38 → Rd (.loop 0 f) r x → Rd (.row 0) (f.tell 1 ++ r) x
  l0 : ∀ r, r.head? ≠ some 38 → r.head? ≠ some 124 → r.head? ≠ some 62 → Rd .to (f.tell 0 ++ r) (f, r)
theorem tl_atom {f : Fm} (h : ∀ l, f.tell l = f.tell 3) (k : ∀ r, Rd .one (f.tell 3 ++ r) (f, r)) : TL4 f := by
  have a2 : ∀ r x, Rd (.loop 1 f) r x → Rd (.row 1) (f.tell 3 ++ r) x := fun r x q => .row (k r) q
  have a1 : ∀ r x, r.head? ≠ some 38 → Rd (.loop 0 f) r x → Rd (.row 0) (f.tell 3 ++ r) x := fun r x h1 q => up1 a2 h1 q
  exact ⟨k, by rw [h 2]; exact a2, by rw [h 1]; exact a1, by rw [h 0]; exact fun r h1 h2 h3 => up0 a1 h1 h2 h3⟩
theorem tl_par {f : Fm} {w : List Nat} (h0 : ∀ r, r.head? ≠ some 38 → r.head? ≠ some 124 → r.head? ≠ some 62 → Rd .to (w ++ r) (f, r)) (r : List Nat) : Rd .one (([40] ++ (w ++ [41])) ++ r) (f, r) := by
  have : ([40] ++ (w ++ [41])) ++ r = 40 :: (w ++ (41 :: r)) := by simp
  rw [this]
  exact .par (h0 (41 :: r) (by simp) (by simp) (by simp))
theorem tells : ∀ f : Fm, (∀ x ∈ f.names, Let x) → TL4 f
  | .name x, h => by
    obtain ⟨c, rfl, c1, c2⟩ := h x (by simp [Fm.names])
    exact tl_atom (fun l => by rw [Fm.tell, Fm.tell]) fun r => .name c1 c2
  | .one, _ => tl_atom (fun l => by rw [Fm.tell, Fm.tell]) fun r => .one
  | .none, _ => tl_atom (fun l => by rw [Fm.tell, Fm.tell]) fun r => .zero
  | .bin j s t, h => by
    have hs := tells s fun x hx => h x (List.mem_append_left _ hx)
    have ht := tells t fun x hx => h x (List.mem_append_right _ hx)
    cases j with
    | both =>
      have w2 : (Fm.bin .both s t).tell 2 = s.tell 2 ++ ([38] ++ t.tell 3) := by rw [Fm.tell, if_neg (by decide)]; rfl
      have w1 : (Fm.bin .both s t).tell 1 = s.tell 2 ++ ([38] ++ t.tell 3) := by rw [Fm.tell, if_neg (by decide)]; rfl
      have w0 : (Fm.bin .both s t).tell 0 = s.tell 2 ++ ([38] ++ t.tell 3) := by rw [Fm.tell, if_neg (by decide)]; rfl
      have w3 : (Fm.bin .both s t).tell 3 = [40] ++ ((s.tell 2 ++ ([38] ++ t.tell 3)) ++ [41]) := by rw [Fm.tell, if_pos (by decide)]; simp [Jn.ll, Jn.rl, Jn.sign]
      have a2 : ∀ r x, Rd (.loop 1 (.bin .both s t)) r x → Rd (.row 1) ((s.tell 2 ++ ([38] ++ t.tell 3)) ++ r) x := fun r x q => by
        have : (s.tell 2 ++ ([38] ++ t.tell 3)) ++ r = s.tell 2 ++ (38 :: (t.tell 3 ++ r)) := by simp
        rw [this]
        exact hs.l2 _ _ (.loop1 (l := 1) (ht.l3 r) q)
      have a1 : ∀ r x, r.head? ≠ some 38 → Rd (.loop 0 (.bin .both s t)) r x → Rd (.row 0) ((s.tell 2 ++ ([38] ++ t.tell 3)) ++ r) x := fun r x h1 q => up1 a2 h1 q
      have a0 := fun r h1 h2 h3 => up0 (r := r) a1 h1 h2 h3
      exact ⟨by rw [w3]; exact tl_par a0, by rw [w2]; exact a2, by rw [w1]; exact a1, by rw [w0]; exact a0⟩
    | either =>
      have w1 : (Fm.bin .either s t).tell 1 = s.tell 1 ++ ([124] ++ t.tell 2) := by rw [Fm.tell, if_neg (by decide)]; rfl
      have w0 : (Fm.bin .either s t).tell 0 = s.tell 1 ++ ([124] ++ t.tell 2) := by rw [Fm.tell, if_neg (by decide)]; rfl
      have w2 : (Fm.bin .either s t).tell 2 = [40] ++ ((s.tell 1 ++ ([124] ++ t.tell 2)) ++ [41]) := by rw [Fm.tell, if_pos (by decide)]; simp [Jn.ll, Jn.rl, Jn.sign]
      have w3 : (Fm.bin .either s t).tell 3 = [40] ++ ((s.tell 1 ++ ([124] ++ t.tell 2)) ++ [41]) := by rw [Fm.tell, if_pos (by decide)]; simp [Jn.ll, Jn.rl, Jn.sign]
      have a1 : ∀ r x, r.head? ≠ some 38 → Rd (.loop 0 (.bin .either s t)) r x → Rd (.row 0) ((s.tell 1 ++ ([124] ++ t.tell 2)) ++ r) x := fun r x h1 q => by
        have : (s.tell 1 ++ ([124] ++ t.tell 2)) ++ r = s.tell 1 ++ (124 :: (t.tell 2 ++ r)) := by simp
        rw [this]
        exact hs.l1 _ _ (by simp) (.loop1 (l := 0) (ht.l2 _ _ (.loop0 h1)) q)
      have a0 := fun r h1 h2 h3 => up0 (r := r) a1 h1 h2 h3
      have a3 := tl_par a0
      have a2 : ∀ r x, Rd (.loop 1 (.bin .either s t)) r x → Rd (.row 1) (([40] ++ ((s.tell 1 ++ ([124] ++ t.tell 2)) ++ [41])) ++ r) x := fun r x q => .row (a3 r) q
      exact ⟨by rw [w3]; exact a3, by rw [w2]; exact a2, by rw [w1]; exact a1, by rw [w0]; exact a0⟩
    | to =>
      have w0 : (Fm.bin .to s t).tell 0 = s.tell 1 ++ ([62] ++ t.tell 0) := by rw [Fm.tell, if_neg (by decide)]; rfl
      have w1 : (Fm.bin .to s t).tell 1 = [40] ++ ((s.tell 1 ++ ([62] ++ t.tell 0)) ++ [41]) := by rw [Fm.tell, if_pos (by decide)]; simp [Jn.ll, Jn.rl, Jn.sign]
      have w2 : (Fm.bin .to s t).tell 2 = [40] ++ ((s.tell 1 ++ ([62] ++ t.tell 0)) ++ [41]) := by rw [Fm.tell, if_pos (by decide)]; simp [Jn.ll, Jn.rl, Jn.sign]
      have w3 : (Fm.bin .to s t).tell 3 = [40] ++ ((s.tell 1 ++ ([62] ++ t.tell 0)) ++ [41]) := by rw [Fm.tell, if_pos (by decide)]; simp [Jn.ll, Jn.rl, Jn.sign]
      have a0 : ∀ r : List Nat, r.head? ≠ some 38 → r.head? ≠ some 124 → r.head? ≠ some 62 → Rd .to ((s.tell 1 ++ ([62] ++ t.tell 0)) ++ r) (.bin .to s t, r) := fun r h1 h2 h3 => by
        have : (s.tell 1 ++ ([62] ++ t.tell 0)) ++ r = s.tell 1 ++ (62 :: (t.tell 0 ++ r)) := by simp
        rw [this]
        exact .to1 (hs.l1 _ _ (by simp) (.loop0 (by simp [opJ, Jn.sign]))) (ht.l0 r h1 h2 h3)
      have a3 := tl_par a0
      have a2 : ∀ r x, Rd (.loop 1 (.bin .to s t)) r x → Rd (.row 1) (([40] ++ ((s.tell 1 ++ ([62] ++ t.tell 0)) ++ [41])) ++ r) x := fun r x q => .row (a3 r) q
      have a1 : ∀ r x, r.head? ≠ some 38 → Rd (.loop 0 (.bin .to s t)) r x → Rd (.row 0) (([40] ++ ((s.tell 1 ++ ([62] ++ t.tell 0)) ++ [41])) ++ r) x := fun r x h1 q => up1 a2 h1 q
      exact ⟨by rw [w3]; exact a3, by rw [w2]; exact a2, by rw [w1]; exact a1, by rw [w0]; exact a0⟩
/-- formulas' texts read apart -/
theorem tell_apart {f g : Fm} {r s : List Nat} (hf : ∀ x ∈ f.names, Let x) (hg : ∀ x ∈ g.names, Let x) (h1 : r.head? ≠ some 38 ∧ r.head? ≠ some 124 ∧ r.head? ≠ some 62) (h2 : s.head? ≠ some 38 ∧ s.head? ≠ some 124 ∧ s.head? ≠ some 62) (e : f.tell 0 ++ r = g.tell 0 ++ s) : f = g ∧ r = s := by
  have a := (tells f hf).l0 r h1.1 h1.2.1 h1.2.2
  have b := (tells g hg).l0 s h2.1 h2.2.1 h2.2.2
  rw [e] at a
  have := a.det b
  simpa using this
end Sq
set_option Elab.async false
set_option linter.all false
set_option maxRecDepth 100000
set_option maxHeartbeats 2000000
namespace Sq
open PySem PySem.Spec PyProof.Rows L2
namespace Tm
/-! ### places in terms -/
/-- other terms within, as many as there are -/
def withS : Tm → List Tm → Tm
  | fn s f _, [t] => fn s f t
  | app _ _, [t, u] => app t u
  | pair _ _, [t, u] => pair t u
  | fst _, [t] => fst t
  | snd _, [t] => snd t
  | lft _ f, [t] => lft t f
  | rgt f _, [t] => rgt f t
  | cs _ s _ r _, [t, u, v] => cs t s u r v
  | absd _ f, [t] => absd t f
  | t, _ => t
theorem withS_subs (t : Tm) : t.withS t.subs = t := by cases t <;> rfl
theorem subs_withS {t : Tm} {us : List Tm} (h : us.length = t.subs.length) : (t.withS us).subs = us := by
  cases t <;> simp only [subs, List.length_cons, List.length_nil] at h
  all_goals (first
    | (match us, h with | [], _ => rfl)
    | (match us, h with | [a], _ => rfl)
    | (match us, h with | [a, b], _ => rfl)
    | (match us, h with | [a, b, c], _ => rfl))
theorem subs_le (t : Tm) : t.subs.length ≤ 3 := by cases t <;> simp [subs]
def sub? (t : Tm) (k : Nat) : Option Tm := t.subs[k]?
def at? : Tm → List Nat → Option Tm
  | t, [] => some t
  | t, k :: p => match t.subs[k]? with
    | some u => at? u p
    | .none => none
def lay? : Tm → List Nat → Tm → Option Tm
  | _, [], o => some o
  | t, k :: p, o => match t.subs[k]? with
    | some u => (lay? u p o).map fun w => t.withS (t.subs.set k w)
    | .none => none
theorem at_app : ∀ (t : Tm) (p q : List Nat), at? t (p ++ q) = (at? t p).bind fun u => at? u q
  | t, [], q => rfl
  | t, k :: p, q => by
    show (match t.subs[k]? with | some u => at? u (p ++ q) | .none => none) = (match t.subs[k]? with | some u => at? u p | .none => none).bind _
    cases t.subs[k]? with
    | none => rfl
    | some u => exact at_app u p q
theorem lay_same : ∀ (t : Tm) (p : List Nat) (u : Tm), at? t p = some u → lay? t p u = some t
  | t, [], u, h => by cases h; rfl
  | t, k :: p, u, h => by
    have h : (match t.subs[k]? with | some w => at? w p | .none => none) = some u := h
    show (match t.subs[k]? with | some w => (lay? w p u).map fun w => t.withS (t.subs.set k w) | .none => none) = _
    cases e : t.subs[k]? with
    | none => rw [e] at h; cases h
    | some w =>
      rw [e] at h
      obtain ⟨hk, hw⟩ := List.getElem?_eq_some_iff.mp e
      show (lay? w p u).map _ = _
      rw [lay_same w p u h]
      have : t.subs.set k w = t.subs := by rw [← hw, List.set_getElem_self]
      show some (t.withS (t.subs.set k w)) = _
      rw [this, withS_subs]
theorem at_lay : ∀ (t : Tm) (p : List Nat) (o r : Tm), lay? t p o = some r → at? r p = some o
  | t, [], o, r, h => by cases h; rfl
  | t, k :: p, o, r, h => by
    have h : (match t.subs[k]? with | some w => (lay? w p o).map fun w => t.withS (t.subs.set k w) | .none => none) = some r := h
    cases e : t.subs[k]? with
    | none => rw [e] at h; cases h
    | some w =>
      rw [e] at h
      have h : (lay? w p o).map (fun w => t.withS (t.subs.set k w)) = some r := h
      cases e2 : lay? w p o with
      | none => rw [e2] at h; cases h
      | some w' =>
        rw [e2] at h
        cases h
        obtain ⟨hk, _⟩ := List.getElem?_eq_some_iff.mp e
        show (match (t.withS (t.subs.set k w')).subs[k]? with | some u => at? u p | .none => none) = _
        rw [subs_withS (by rw [List.length_set]), List.getElem?_set_self hk]
        exact at_lay w p o w' e2
theorem lay_some : ∀ (t : Tm) (p : List Nat) (u o : Tm), at? t p = some u → ∃ r, lay? t p o = some r
  | t, [], u, o, _ => ⟨o, rfl⟩
  | t, k :: p, u, o, h => by
    have h : (match t.subs[k]? with | some w => at? w p | .none => none) = some u := h
    show ∃ r, (match t.subs[k]? with | some w => (lay? w p o).map fun w => t.withS (t.subs.set k w) | .none => none) = some r
    cases e : t.subs[k]? with
    | none => rw [e] at h; cases h
    | some w =>
      rw [e] at h
      obtain ⟨r, hr⟩ := lay_some w p u o h
      exact ⟨_, by show (lay? w p o).map _ = _; rw [hr]; rfl⟩
end Tm
end Sq
set_option Elab.async false
set_option linter.all false
set_option maxRecDepth 100000
set_option maxHeartbeats 4000000
namespace Sq
open PySem PySem.Spec PyProof.Rows L2
/-! ### the text of a term; terms' texts read apart -/
/-- names: q, and x with a sign behind it -/
def NmX (n : Str) : Prop := n = ⟨#[113]⟩ ∨ ∃ d, n = ⟨#[120, d]⟩
namespace Tm
def text : Tm → List Nat
  | var n => n.cps.toList
  | fn n f t => 40 :: (n.cps.toList ++ 58 :: (f.tell 0 ++ 46 :: (text t ++ [41])))
  | app t u => 40 :: (text t ++ 32 :: (text u ++ [41]))
  | pair t u => 60 :: (text t ++ 44 :: (text u ++ [62]))
  | fst t => 102 :: 105 :: 114 :: 115 :: 116 :: 32 :: text t
  | snd t => 115 :: 101 :: 99 :: 111 :: 110 :: 100 :: 32 :: text t
  | lft t f => 108 :: 101 :: 102 :: 116 :: 91 :: (f.tell 0 ++ 93 :: 32 :: text t)
  | rgt f t => 114 :: 105 :: 103 :: 104 :: 116 :: 91 :: (f.tell 0 ++ 93 :: 32 :: text t)
  | cs t n u m v => 123 :: (text t ++ 124 :: (n.cps.toList ++ 46 :: (text u ++ 124 :: (m.cps.toList ++ 46 :: (text v ++ [125])))))
  | unit => [40, 41]
  | absd t f => 97 :: 98 :: 115 :: 117 :: 114 :: 100 :: 91 :: (f.tell 0 ++ 93 :: 32 :: text t)
/-- names and formulas are plain -/
structure Fine (t : Tm) : Prop where
  n : ∀ x ∈ t.nms, NmX x
  f : ∀ g ∈ t.fms, ∀ x ∈ g.names, Let x
theorem Fine.sub {t u : Tm} (h : t.Fine) (k : u ∈ t.subs) : u.Fine := ⟨fun x q => h.n x (nms_sub k q), fun g q => h.f g (fms_sub k q)⟩
theorem nm_apart {n m : Str} (hn : NmX n) (hm : NmX m) {r s : List Nat} (e : n.cps.toList ++ r = m.cps.toList ++ s) : n = m ∧ r = s := by
  rcases hn with rfl | ⟨d, rfl⟩ <;> rcases hm with rfl | ⟨c, rfl⟩
  · exact ⟨rfl, by simpa using e⟩
  · simp at e
  · simp at e
  · simp at e; exact ⟨by rw [e.1], e.2⟩
theorem nm_hd {n : Str} (hn : NmX n) : ∃ c l, n.cps.toList = c :: l ∧ (c = 113 ∨ c = 120) := by
  rcases hn with rfl | ⟨d, rfl⟩
  · exact ⟨113, [], rfl, .inl rfl⟩
  · exact ⟨120, [d], rfl, .inr rfl⟩
def sign : Tm → Nat
  | var _ => 113
  | fn _ _ _ => 40
  | app _ _ => 40
  | pair _ _ => 60
  | fst _ => 102
  | snd _ => 115
  | lft _ _ => 108
  | rgt _ _ => 114
  | cs _ _ _ _ _ => 123
  | unit => 40
  | absd _ _ => 97
/-- the first sign -/
theorem text_hd {t : Tm} (h : t.Fine) : ∃ c l, t.text = c :: l ∧ (c = t.sign ∨ c = 120 ∧ t.sign = 113) := by
  cases t with
  | var n =>
    obtain ⟨c, l, e, q⟩ := nm_hd (h.n n (by simp [nms]))
    exact ⟨c, l, e, q.imp id fun z => ⟨z, rfl⟩⟩
  | _ => exact ⟨_, _, rfl, .inl rfl⟩
theorem hd_apart {t u : Tm} (ht : t.Fine) (hu : u.Fine) {r s : List Nat} (e : t.text ++ r = u.text ++ s) : t.sign = u.sign := by
  obtain ⟨c, l, e1, q1⟩ := text_hd ht
  obtain ⟨d, m, e2, q2⟩ := text_hd hu
  rw [e1, e2] at e
  simp only [List.cons_append, List.cons.injEq] at e
  have e := e.1
  subst e
  have n1 : t.sign ≠ 120 := by cases t <;> simp [sign]
  have n2 : u.sign ≠ 120 := by cases u <;> simp [sign]
  omega
theorem f_apart {f g : Fm} {r s : List Nat} {c d : Nat} (hf : ∀ x ∈ f.names, Let x) (hg : ∀ x ∈ g.names, Let x) (hc : c = 46 ∨ c = 93) (hd : d = 46 ∨ d = 93) (e : f.tell 0 ++ c :: r = g.tell 0 ++ d :: s) : f = g ∧ r = s := by
  have h1 : (c :: r).head? ≠ some 38 ∧ (c :: r).head? ≠ some 124 ∧ (c :: r).head? ≠ some 62 := by rcases hc with rfl | rfl <;> simp
  have h2 : (d :: s).head? ≠ some 38 ∧ (d :: s).head? ≠ some 124 ∧ (d :: s).head? ≠ some 62 := by rcases hd with rfl | rfl <;> simp
  have := tell_apart hf hg h1 h2 e
  exact ⟨this.1, by simpa using (List.cons.inj this.2).2⟩
theorem text_apart : ∀ {t u : Tm} {r s : List Nat}, t.Fine → u.Fine → t.text ++ r = u.text ++ s → t = u ∧ r = s
  | var n, u, r, s, ht, hu, e => by
    have hs := hd_apart ht hu e
    cases u <;> simp only [sign] at hs <;> first | (exfalso; omega) | skip
    rename_i m
    have := nm_apart (ht.n n (by simp [nms])) (hu.n m (by simp [nms])) e
    exact ⟨by rw [this.1], this.2⟩
  | fn n f t, u, r, s, ht, hu, e => by
    have hs := hd_apart ht hu e
    have hn := ht.n n (by simp [nms])
    cases u <;> simp only [sign] at hs <;> first | (exfalso; omega) | skip
    case fn m g u =>
      simp only [text, List.cons_append, List.append_assoc, List.cons.injEq, true_and] at e
      have h1 := nm_apart hn (hu.n m (by simp [nms])) e
      have h2 := f_apart (ht.f f (by simp [fms])) (hu.f g (by simp [fms])) (.inl rfl) (.inl rfl) (List.cons.inj h1.2).2
      have h3 := text_apart (ht.sub (by simp [subs])) (hu.sub (by simp [subs])) h2.2
      exact ⟨by rw [h1.1, h2.1, h3.1], by simpa using h3.2⟩
    case app u v =>
      simp only [text, List.cons_append, List.append_assoc, List.cons.injEq, true_and] at e
      exfalso
      obtain ⟨c, l, e1, q1⟩ := text_hd (hu.sub (u := u) (by simp [subs]))
      obtain ⟨d, m, e2, q2⟩ := nm_hd hn
      cases u <;> simp only [sign] at q1
      case var k =>
        have := nm_apart hn (hu.n k (by simp [nms])) e
        simp at this
      all_goals
        rw [e1, e2] at e
        simp only [List.cons_append, List.cons.injEq] at e
        have := e.1
        omega
    case unit =>
      simp only [text, List.cons_append, List.append_assoc, List.cons.injEq, true_and] at e
      obtain ⟨d, m, e2, q2⟩ := nm_hd hn
      rw [e2] at e
      simp only [List.cons_append, List.cons.injEq] at e
      have := e.1
      omega
  | app t t2, u, r, s, ht, hu, e => by
    have hs := hd_apart ht hu e
    cases u <;> simp only [sign] at hs <;> first | (exfalso; omega) | skip
    case fn m g u =>
      simp only [text, List.cons_append, List.append_assoc, List.cons.injEq, true_and] at e
      exfalso
      have hm := hu.n m (by simp [nms])
      obtain ⟨c, l, e1, q1⟩ := text_hd (ht.sub (u := t) (by simp [subs]))
      obtain ⟨d, m', e2, q2⟩ := nm_hd hm
      cases t <;> simp only [sign] at q1
      case var k =>
        have := nm_apart (ht.n k (by simp [nms])) hm e
        simp at this
      all_goals
        rw [e1, e2] at e
        simp only [List.cons_append, List.cons.injEq] at e
        have := e.1
        omega
    case app u v =>
      simp only [text, List.cons_append, List.append_assoc, List.cons.injEq, true_and] at e
      have h1 := text_apart (ht.sub (by simp [subs])) (hu.sub (by simp [subs])) e
      have h2 := text_apart (ht.sub (by simp [subs])) (hu.sub (by simp [subs])) (List.cons.inj h1.2).2
      exact ⟨by rw [h1.1, h2.1], by simpa using h2.2⟩
    case unit =>
      simp only [text, List.cons_append, List.append_assoc, List.cons.injEq, true_and] at e
      obtain ⟨c, l, e1, q1⟩ := text_hd (ht.sub (u := t) (by simp [subs]))
      rw [e1] at e
      simp only [List.cons_append, List.cons.injEq] at e
      have := e.1
      exfalso
      cases t <;> simp only [sign] at q1 <;> omega
  | pair t t2, u, r, s, ht, hu, e => by
    have hs := hd_apart ht hu e
    cases u <;> simp only [sign] at hs <;> first | (exfalso; omega) | skip
    case pair u v =>
      simp only [text, List.cons_append, List.append_assoc, List.cons.injEq, true_and] at e
      have h1 := text_apart (ht.sub (by simp [subs])) (hu.sub (by simp [subs])) e
      have h2 := text_apart (ht.sub (by simp [subs])) (hu.sub (by simp [subs])) (List.cons.inj h1.2).2
      exact ⟨by rw [h1.1, h2.1], by simpa using h2.2⟩
  | fst t, u, r, s, ht, hu, e => by
    have hs := hd_apart ht hu e
    cases u <;> simp only [sign] at hs <;> first | (exfalso; omega) | skip
    case fst u =>
      simp only [text, List.cons_append, List.append_assoc, List.cons.injEq, true_and] at e
      have h1 := text_apart (ht.sub (by simp [subs])) (hu.sub (by simp [subs])) e
      exact ⟨by rw [h1.1], h1.2⟩
  | snd t, u, r, s, ht, hu, e => by
    have hs := hd_apart ht hu e
    cases u <;> simp only [sign] at hs <;> first | (exfalso; omega) | skip
    case snd u =>
      simp only [text, List.cons_append, List.append_assoc, List.cons.injEq, true_and] at e
      have h1 := text_apart (ht.sub (by simp [subs])) (hu.sub (by simp [subs])) e
      exact ⟨by rw [h1.1], h1.2⟩
  | lft t f, u, r, s, ht, hu, e => by
    have hs := hd_apart ht hu e
    cases u <;> simp only [sign] at hs <;> first | (exfalso; omega) | skip
    case lft u g =>
      simp only [text, List.cons_append, List.append_assoc, List.cons.injEq, true_and] at e
      have h1 := f_apart (ht.f f (by simp [fms])) (hu.f g (by simp [fms])) (.inr rfl) (.inr rfl) e
      have h2 := text_apart (ht.sub (by simp [subs])) (hu.sub (by simp [subs])) (List.cons.inj h1.2).2
      exact ⟨by rw [h1.1, h2.1], h2.2⟩
  | rgt f t, u, r, s, ht, hu, e => by
    have hs := hd_apart ht hu e
    cases u <;> simp only [sign] at hs <;> first | (exfalso; omega) | skip
    case rgt g u =>
      simp only [text, List.cons_append, List.append_assoc, List.cons.injEq, true_and] at e
      have h1 := f_apart (ht.f f (by simp [fms])) (hu.f g (by simp [fms])) (.inr rfl) (.inr rfl) e
      have h2 := text_apart (ht.sub (by simp [subs])) (hu.sub (by simp [subs])) (List.cons.inj h1.2).2
      exact ⟨by rw [h1.1, h2.1], h2.2⟩
  | cs t n t2 m t3, u, r, s, ht, hu, e => by
    have hs := hd_apart ht hu e
    cases u <;> simp only [sign] at hs <;> first | (exfalso; omega) | skip
    case cs u n2 v m2 v2 =>
      simp only [text, List.cons_append, List.append_assoc, List.cons.injEq, true_and] at e
      have h1 := text_apart (ht.sub (by simp [subs])) (hu.sub (by simp [subs])) e
      have h2 := nm_apart (ht.n n (by simp [nms])) (hu.n n2 (by simp [nms])) (List.cons.inj h1.2).2
      have h3 := text_apart (ht.sub (by simp [subs])) (hu.sub (by simp [subs])) (List.cons.inj h2.2).2
      have h4 := nm_apart (ht.n m (by simp [nms])) (hu.n m2 (by simp [nms])) (List.cons.inj h3.2).2
      have h5 := text_apart (ht.sub (by simp [subs])) (hu.sub (by simp [subs])) (List.cons.inj h4.2).2
      exact ⟨by rw [h1.1, h2.1, h3.1, h4.1, h5.1], by simpa using h5.2⟩
  | unit, u, r, s, ht, hu, e => by
    have hs := hd_apart ht hu e
    cases u <;> simp only [sign] at hs <;> first | (exfalso; omega) | skip
    case fn m g u =>
      simp only [text, List.cons_append, List.append_assoc, List.cons.injEq, true_and] at e
      obtain ⟨d, m', e2, q2⟩ := nm_hd (hu.n m (by simp [nms]))
      rw [e2] at e
      simp only [List.cons_append, List.cons.injEq] at e
      have := e.1
      omega
    case app u v =>
      simp only [text, List.cons_append, List.append_assoc, List.cons.injEq, true_and] at e
      obtain ⟨c, l, e1, q1⟩ := text_hd (hu.sub (u := u) (by simp [subs]))
      rw [e1] at e
      simp only [List.cons_append, List.cons.injEq] at e
      have := e.1
      exfalso
      cases u <;> simp only [sign] at q1 <;> omega
    case unit =>
      simp only [text, List.cons_append, List.append_assoc, List.cons.injEq, true_and] at e
      exact ⟨rfl, by simpa using e⟩
  | absd t f, u, r, s, ht, hu, e => by
    have hs := hd_apart ht hu e
    cases u <;> simp only [sign] at hs <;> first | (exfalso; omega) | skip
    case absd u g =>
      simp only [text, List.cons_append, List.append_assoc, List.cons.injEq, true_and] at e
      have h1 := f_apart (ht.f f (by simp [fms])) (hu.f g (by simp [fms])) (.inr rfl) (.inr rfl) e
      have h2 := text_apart (ht.sub (by simp [subs])) (hu.sub (by simp [subs])) (List.cons.inj h1.2).2
      exact ⟨by rw [h1.1, h2.1], h2.2⟩
theorem text_inj {t u : Tm} (ht : t.Fine) (hu : u.Fine) (e : t.text = u.text) : t = u := (text_apart (r := []) (s := []) ht hu (by rw [e])).1
end Tm
end Sq
set_option Elab.async false
set_option linter.all false
set_option maxRecDepth 100000
set_option maxHeartbeats 2000000
namespace Sq
open PySem PySem.Spec PyProof.Rows L2 RZ
/-! ### zip of a text of plain signs and a tuple -/
section
variable {prog : Program} {w : World} {A : Around} {E : Value → Shared → Prop} {s : Shared}
theorem strIt_at {h h' : Heap} {i : Addr} {ty : String} {x : Str} {t : Tok} {k : Nat} (q : h.IsStrIter i ty x t k) (f : ∀ o, h.get? i = some o → h'.get? i = some o) : h'.IsStrIter i ty x t k := let ⟨o, e, r⟩ := q; ⟨o, f o e, r⟩
theorem zipS_next_item {z TI TO i1 i2 l1 l2 : Addr} {k1 k2 c0 : Nat} {x : Str} {t : Tok} {ys : Array Value} {y a b : Value} {Q : Value → Shared → Prop} (D : ZipApart z TI TO i1 i2 l1 l2)
    (hz : IsZip s.heap z TI TO .none) (hTI : IsPair s.heap TI (.ref i1) (.ref i2)) (hTO : IsPair s.heap TO a b)
    (h1 : s.heap.IsStrIter i1 "str_ascii_iterator" x t k1) (h2 : s.heap.IsTupleIter i2 l2 k2) (hl2 : s.heap.IsTuple l2 ys) (hx : x.cps[k1]? = some c0) (hy : ys[k2]? = some y)
    (hQ : ∀ h' tk u, IsZip h' z TI TO (rawInt s.heap.objs.size) → IsPair h' TO (.str ⟨#[c0]⟩ u) y → h'.IsStrIter i1 "str_ascii_iterator" x t (k1 + 1) → h'.IsTupleIter i2 l2 (k2 + 1) → IsPair h' s.heap.objs.size (.str ⟨#[c0]⟩ u) y → h'.objs.size = s.heap.objs.size + 1 →
      (∀ c o, c ≠ z → c ≠ TO → c ≠ i1 → c ≠ i2 → s.heap.get? c = some o → h'.get? c = some o) → Q (.ref s.heap.objs.size) { s with heap := h', toks := tk }) :
    wpAny (model prog w) A (Builtin.«zip.__next__» ⟨[.ref z], []⟩) (fun fin s' => ∃ v, fin = .done (.ret v) ∧ Q v s') E s := by
  show wpAny _ _ (field (.ref z) 2 >>= _) _ _ _
  refine wpAny_bind (wpAny_field hz rfl (x := .bool false) rfl ?_)
  show wpAny _ _ (field (.ref z) 3 >>= _) _ _ _
  refine wpAny_bind (wpAny_field hz rfl (x := .ref TI) rfl ?_)
  refine wpAny_bind (wpAny_seqItems hTI rfl ?_)
  show wpAny _ _ (Builtin.SmallTypes.ownedTupleIsFree (.ref z) >>= _) _ _ _
  refine wpAny_bind ?_
  unfold Builtin.SmallTypes.ownedTupleIsFree
  refine wpAny_bind (wpAny_field hz rfl (x := .none) rfl (wpAny_pure ?_))
  simp only [if_true]
  refine wpAny_bind (wpAny_rule ?_)
  refine wpAny_bind (wpAny_field hz rfl (x := .ref TO) rfl ?_)
  refine wpAny_bind (wpAny_setField_rec hz (by simp) fun h₁ hz₁ hs₁ => ?_)
  replace hz₁ : IsZip h₁ z TI TO .ellipsis := hz₁
  refine wpAny_bind ?_
  simp only [List.zipIdx_cons, List.zipIdx_nil, List.forIn_cons, List.forIn_nil]
  refine wpAny_bind (wpAny_bind (wpAny_onRaise ?_))
  show wpAny _ _ (Builtin.SmallTypes.nextOf (.ref i1) >>= _) _ _ _
  refine wpAny_bind (wpAny_nextOf_ascii_item (strIt_at h1 fun o e => hs₁.extBut _ _ D.i1z e) hx fun h₂ h1₂ hs₂ => wpAny_pure ?_)
  have hTO₂ : IsPair h₂ TO a b := hs₂.extBut _ _ D.TOi1 (hs₁.extBut _ _ D.TOz hTO)
  refine wpAny_bind (wpAny_seqItems hTO₂ rfl ?_)
  refine wpAny_bind (wpAny_updateSeq_pair hTO₂ fun h₃ hTO₃ hs₃ => ?_)
  replace hTO₃ : IsPair h₃ TO (.str ⟨#[c0]⟩ s.toks) b := hTO₃
  refine wpAny_bind (wpAny_letGo (wpAny_pure ?_))
  refine wpAny_bind (wpAny_bind (wpAny_onRaise ?_))
  show wpAny _ _ (Builtin.SmallTypes.nextOf (.ref i2) >>= _) _ _ _
  refine wpAny_bind (nextOf_tuple_item (((h2.extBut hs₁.extBut D.i2z).extBut hs₂.extBut D.i12.symm).extBut hs₃.extBut D.TOi2.symm)
    (((hl2.extBut hs₁.extBut D.l2z).extBut hs₂.extBut D.l2i1).extBut hs₃.extBut D.l2TO) hy fun h₄ h2₄ hs₄ => wpAny_pure ?_)
  have hTO₄ : IsPair h₄ TO (.str ⟨#[c0]⟩ s.toks) b := hs₄.extBut _ _ D.TOi2 hTO₃
  refine wpAny_bind (wpAny_seqItems hTO₄ rfl ?_)
  refine wpAny_bind (wpAny_updateSeq_pair hTO₄ fun h₅ hTO₅ hs₅ => ?_)
  replace hTO₅ : IsPair h₅ TO (.str ⟨#[c0]⟩ s.toks) y := hTO₅
  refine wpAny_bind (wpAny_letGo (wpAny_pure (wpAny_pure ?_)))
  refine wpAny_bind (wpAny_seqItems hTO₅ rfl ?_)
  refine wpAny_bind (wpAny_newTuple ?_)
  have hsz : h₅.objs.size = s.heap.objs.size := by rw [hs₅.1, hs₄.1, hs₃.1, hs₂.1, hs₁.1]
  have hz₅ : IsZip h₅ z TI TO .ellipsis := hs₅.extBut _ _ D.TOz.symm (hs₄.extBut _ _ D.i2z.symm (hs₃.extBut _ _ D.TOz.symm (hs₂.extBut _ _ D.i1z.symm hz₁)))
  have hk₅ : ∀ c o, c ≠ z → c ≠ TO → c ≠ i1 → c ≠ i2 → s.heap.get? c = some o → h₅.get? c = some o := fun c o c1 c2 c3 c4 e =>
    hs₅.extBut _ _ c2 (hs₄.extBut _ _ c4 (hs₃.extBut _ _ c2 (hs₂.extBut _ _ c3 (hs₁.extBut _ _ c1 e))))
  have h1₅ : h₅.IsStrIter i1 "str_ascii_iterator" x t (k1 + 1) := strIt_at h1₂ fun o e => hs₅.extBut _ _ D.TOi1.symm (hs₄.extBut _ _ D.i12 (hs₃.extBut _ _ D.TOi1.symm e))
  have h2₅ : h₅.IsTupleIter i2 l2 (k2 + 1) := h2₄.extBut hs₅.extBut D.TOi2.symm
  have hzlt : z < h₅.objs.size := Heap.lt_size hz₅
  show wpAny _ _ (Builtin.SmallTypes.ownedTupleHandOut (.ref z) (.ref h₅.objs.size) >>= _) _ _ _
  refine wpAny_bind ?_
  unfold Builtin.SmallTypes.ownedTupleHandOut
  have hz₆ : IsZip (h₅.push { cls := .type "tuple", data := .seq #[.str ⟨#[c0]⟩ s.toks, y] }) z TI TO .ellipsis := Heap.get?_push_of_some _ hz₅
  refine wpAny_bind (wpAny_setField_rec hz₆ (by simp) fun h₇ hz₇ hs₇ => ?_)
  replace hz₇ : IsZip h₇ z TI TO (rawInt h₅.objs.size) := hz₇
  refine wpAny_setField_rec hz₇ (by simp) fun h₈ hz₈ hs₈ => ?_
  replace hz₈ : IsZip h₈ z TI TO (rawInt h₅.objs.size) := hz₈
  have up : ∀ c o, c ≠ z → h₅.get? c = some o → h₈.get? c = some o := fun c o c1 e => hs₈.extBut _ _ c1 (hs₇.extBut _ _ c1 (Heap.get?_push_of_some _ e))
  have hT₈ : IsPair h₈ h₅.objs.size (.str ⟨#[c0]⟩ s.toks) y := hs₈.extBut _ _ (Nat.ne_of_gt hzlt) (hs₇.extBut _ _ (Nat.ne_of_gt hzlt) (Heap.get?_push_size _ rfl))
  have hz8 : h₈.objs.size = h₅.objs.size + 1 := by rw [hs₈.1, hs₇.1, Heap.size_push]
  rw [hsz] at hz₈ hT₈ hz8
  refine wpAny_pure ⟨_, rfl, ?_⟩
  show Q (.ref h₅.objs.size) _
  rw [hsz]
  exact hQ h₈ (s.toks + 1) s.toks hz₈ (up _ _ D.TOz hTO₅) (strIt_at h1₅ fun o e => up _ o D.i1z e) (h2₅.at fun o e => up _ o D.i2z e) hT₈ hz8 fun c o c1 c2 c3 c4 e => up c o c1 (hk₅ c o c1 c2 c3 c4 e)
theorem zipS_next_end {z TI TO i1 i2 l1 l2 : Addr} {k1 k2 : Nat} {x : Str} {t : Tok} {ys : Array Value} {a b : Value} {Q : Fin → Shared → Prop} (hh : A.handled = none) (D : ZipApart z TI TO i1 i2 l1 l2)
    (hz : IsZip s.heap z TI TO .none) (hTI : IsPair s.heap TI (.ref i1) (.ref i2)) (hTO : IsPair s.heap TO a b)
    (h1 : s.heap.IsStrIter i1 "str_ascii_iterator" x t k1) (h2 : s.heap.IsTupleIter i2 l2 k2) (hl2 : s.heap.IsTuple l2 ys) (hend : x.cps[k1]? = none ∨ ys[k2]? = none)
    (hE : ∀ h' e tk, (∀ c o, c ≠ z → c ≠ TO → c ≠ i1 → c ≠ i2 → s.heap.get? c = some o → h'.get? c = some o) → (∃ o, h'.get? e = some o ∧ o.cls = .type "StopIteration") → E (.ref e) { s with heap := h', toks := tk }) :
    wpAny (model prog w) A (Builtin.«zip.__next__» ⟨[.ref z], []⟩) Q E s := by
  show wpAny _ _ (field (.ref z) 2 >>= _) _ _ _
  refine wpAny_bind (wpAny_field hz rfl (x := .bool false) rfl ?_)
  show wpAny _ _ (field (.ref z) 3 >>= _) _ _ _
  refine wpAny_bind (wpAny_field hz rfl (x := .ref TI) rfl ?_)
  refine wpAny_bind (wpAny_seqItems hTI rfl ?_)
  show wpAny _ _ (Builtin.SmallTypes.ownedTupleIsFree (.ref z) >>= _) _ _ _
  refine wpAny_bind ?_
  unfold Builtin.SmallTypes.ownedTupleIsFree
  refine wpAny_bind (wpAny_field hz rfl (x := .none) rfl (wpAny_pure ?_))
  simp only [if_true]
  refine wpAny_bind (wpAny_rule ?_)
  refine wpAny_bind (wpAny_field hz rfl (x := .ref TO) rfl ?_)
  refine wpAny_bind (wpAny_setField_rec hz (by simp) fun h₁ hz₁ hs₁ => ?_)
  replace hz₁ : IsZip h₁ z TI TO .ellipsis := hz₁
  refine wpAny_bind ?_
  simp only [List.zipIdx_cons, List.zipIdx_nil, List.forIn_cons, List.forIn_nil]
  refine wpAny_bind (wpAny_bind (wpAny_onRaise ?_))
  show wpAny _ _ (Builtin.SmallTypes.nextOf (.ref i1) >>= _) _ _ _
  cases hx : x.cps[k1]? with
  | none =>
    refine wpAny_bind (wpAny_nextOf_ascii_end hh (strIt_at h1 fun o e => hs₁.extBut _ _ D.i1z e) hx fun h₂ e hs₂ he => ?_)
    obtain ⟨oe, hoe, hce⟩ := he
    have hz₂ : IsZip h₂ z TI TO .ellipsis := hs₂ _ _ D.i1z.symm hz₁
    have hez : e ≠ z := fun x => by subst x; rw [hz₂] at hoe; cases hoe; simp at hce
    refine wpAny_setField_rec hz₂ (by simp) fun h₃ _ hs₃ => hE h₃ e s.toks (fun c o c1 _ c3 _ x => hs₃.extBut _ _ c1 (hs₂ _ _ c3 (hs₁.extBut _ _ c1 x))) ⟨oe, hs₃.extBut _ _ hez hoe, hce⟩
  | some c0 =>
    have hy : ys[k2]? = none := by rcases hend with h | h; rw [hx] at h; cases h; exact h
    refine wpAny_bind (wpAny_nextOf_ascii_item (strIt_at h1 fun o e => hs₁.extBut _ _ D.i1z e) hx fun h₂ h1₂ hs₂ => wpAny_pure ?_)
    have hTO₂ : IsPair h₂ TO a b := hs₂.extBut _ _ D.TOi1 (hs₁.extBut _ _ D.TOz hTO)
    refine wpAny_bind (wpAny_seqItems hTO₂ rfl ?_)
    refine wpAny_bind (wpAny_updateSeq_pair hTO₂ fun h₃ hTO₃ hs₃ => ?_)
    refine wpAny_bind (wpAny_letGo (wpAny_pure ?_))
    refine wpAny_bind (wpAny_bind (wpAny_onRaise ?_))
    show wpAny _ _ (Builtin.SmallTypes.nextOf (.ref i2) >>= _) _ _ _
    refine wpAny_bind (nextOf_tuple_end hh (((h2.extBut hs₁.extBut D.i2z).extBut hs₂.extBut D.i12.symm).extBut hs₃.extBut D.TOi2.symm)
      (((hl2.extBut hs₁.extBut D.l2z).extBut hs₂.extBut D.l2i1).extBut hs₃.extBut D.l2TO) hy fun h₄ e hs₄ he => ?_)
    obtain ⟨oe, hoe, hce⟩ := he
    have hz₄ : IsZip h₄ z TI TO .ellipsis := hs₄ _ _ D.i2z.symm (hs₃.extBut _ _ D.TOz.symm (hs₂.extBut _ _ D.i1z.symm hz₁))
    have hez : e ≠ z := fun x => by subst x; rw [hz₄] at hoe; cases hoe; simp at hce
    refine wpAny_setField_rec hz₄ (by simp) fun h₅ _ hs₅ => hE h₅ e (s.toks + 1) (fun c o c1 c2 c3 c4 x => hs₅.extBut _ _ c1 (hs₄ _ _ c4 (hs₃.extBut _ _ c2 (hs₂.extBut _ _ c3 (hs₁.extBut _ _ c1 x))))) ⟨oe, hs₅.extBut _ _ hez hoe, hce⟩
theorem pyNext_zipS_item {z TI TO i1 i2 l1 l2 : Addr} {k1 k2 c0 : Nat} {x : Str} {t : Tok} {ys : Array Value} {y a b : Value} {Q : Option Value → Shared → Prop} (D : ZipApart z TI TO i1 i2 l1 l2)
    (hz : IsZip s.heap z TI TO .none) (hTI : IsPair s.heap TI (.ref i1) (.ref i2)) (hTO : IsPair s.heap TO a b)
    (h1 : s.heap.IsStrIter i1 "str_ascii_iterator" x t k1) (h2 : s.heap.IsTupleIter i2 l2 k2) (hl2 : s.heap.IsTuple l2 ys) (hx : x.cps[k1]? = some c0) (hy : ys[k2]? = some y)
    (hQ : ∀ h' tk u, IsZip h' z TI TO (rawInt s.heap.objs.size) → IsPair h' TO (.str ⟨#[c0]⟩ u) y → h'.IsStrIter i1 "str_ascii_iterator" x t (k1 + 1) → h'.IsTupleIter i2 l2 (k2 + 1) → IsPair h' s.heap.objs.size (.str ⟨#[c0]⟩ u) y → h'.objs.size = s.heap.objs.size + 1 →
      (∀ c o, c ≠ z → c ≠ TO → c ≠ i1 → c ≠ i2 → s.heap.get? c = some o → h'.get? c = some o) → Q (some (.ref s.heap.objs.size)) { s with heap := h', toks := tk }) :
    wpAny (model prog w) A (pyNext (.ref z)) Q E s := by
  have hT : s.TypeIs (.ref z) "zip" := ⟨_, hz, rfl⟩
  unfold pyNext
  exact wpAny_bind (wpAny_attempt (wpAny_callSpecial?_slot (name := Str.ofString "__next__") hT F.slot_zip_next
    (wpAny_call_entry F.slot_zip_next hT F.entry_zip_next
      (zipS_next_item D hz hTI hTO h1 h2 hl2 hx hy fun h' tk u a1 a2 a3 a4 a5 a6 a7 => wpAny_pure (hQ h' tk u a1 a2 a3 a4 a5 a6 a7)) (F.args_zip_next_1 _))))
theorem pyNext_zipS_end {z TI TO i1 i2 l1 l2 : Addr} {k1 k2 : Nat} {x : Str} {t : Tok} {ys : Array Value} {a b : Value} {Q : Option Value → Shared → Prop} (hh : A.handled = none) (D : ZipApart z TI TO i1 i2 l1 l2)
    (hz : IsZip s.heap z TI TO .none) (hTI : IsPair s.heap TI (.ref i1) (.ref i2)) (hTO : IsPair s.heap TO a b)
    (h1 : s.heap.IsStrIter i1 "str_ascii_iterator" x t k1) (h2 : s.heap.IsTupleIter i2 l2 k2) (hl2 : s.heap.IsTuple l2 ys) (hend : x.cps[k1]? = none ∨ ys[k2]? = none)
    (hQ : ∀ h' tk, (∀ c o, c ≠ z → c ≠ TO → c ≠ i1 → c ≠ i2 → s.heap.get? c = some o → h'.get? c = some o) → Q none { s with heap := h', toks := tk }) : wpAny (model prog w) A (pyNext (.ref z)) Q E s := by
  have hT : s.TypeIs (.ref z) "zip" := ⟨_, hz, rfl⟩
  unfold pyNext
  refine wpAny_bind (wpAny_attempt (wpAny_callSpecial?_slot (name := Str.ofString "__next__") hT F.slot_zip_next
    (wpAny_call_entry F.slot_zip_next hT F.entry_zip_next (zipS_next_end hh D hz hTI hTO h1 h2 hl2 hend fun h' e tk hk he => ?_) (F.args_zip_next_1 _))))
  obtain ⟨o, ho, hc⟩ := he
  refine wpAny_bind (wpAny_isInstance (T := "StopIteration") (b := true) ⟨o, ho, hc⟩ isSubtype_stop ?_)
  exact wpAny_pure (hQ _ _ hk)
end
abbrev zSH1 (h : Heap) (x : Str) (t : Tok) : Heap := h.push { cls := .type "str_ascii_iterator", data := .fields #[.str x t, .int 0 0] }
abbrev zSH2 (h : Heap) (x : Str) (t : Tok) (l2 : Addr) : Heap := (zSH1 h x t).push { cls := .type "tuple_iterator", data := .fields #[.ref l2, .int 0 0] }
abbrev zSH3 (h : Heap) (x : Str) (t : Tok) (l2 : Addr) : Heap := (zSH2 h x t l2).push { cls := .type "tuple", data := .seq #[.ref h.objs.size, .ref (zSH1 h x t).objs.size] }
abbrev zSH4 (h : Heap) (x : Str) (t : Tok) (l2 : Addr) : Heap := (zSH3 h x t l2).push { cls := .type "tuple", data := .seq #[.none, .none] }
abbrev zSH5 (h : Heap) (x : Str) (t : Tok) (l2 : Addr) : Heap := (zSH4 h x t l2).push { cls := .type "zip", data := .fields #[.none, .bool false, .bool false, .ref (zSH2 h x t l2).objs.size, .ref (zSH3 h x t l2).objs.size] }
theorem meets_zipS_new (x : Str) (t : Tok) (l2 : Addr) (ys : Array Value) (ha : x.cps.all (· < 128) = true) :
    Meets (Builtin.«zip.__new__» ⟨[.type "zip", .str x t, .ref l2], []⟩) (fun _ R s => s.heap.IsTuple l2 ys ∧
      R (.ok (.ret (.ref (zSH4 s.heap x t l2).objs.size))) { s with heap := zSH5 s.heap x t l2 }) :=
  .of_wp fun prog w A R s h => by
    obtain ⟨hp, g, d, tk, os⟩ := s; obtain ⟨hl2, h⟩ := h
    have hsub := sub_zip
    have hL2 : Heap.IsTuple (Shared.heap ⟨hp.push { cls := .type "str_ascii_iterator", data := .fields #[.str x t, .int 0 0] }, g, d, tk, os⟩) l2 ys := Heap.IsTuple.push hl2 _
    wp_walk using wpAny_pyIter_ascii ha, wpAny_pyIter_tuple hL2
    exact ⟨_, rfl, h⟩
end Sq
set_option Elab.async false
set_option linter.all false
set_option maxRecDepth 100000
set_option maxHeartbeats 2000000
namespace Sq
open PySem PySem.Spec PyProof.Rows L2 RZ
section
variable {prog : Program} {w : World} {A : Around} {E : Value → Shared → Prop} {s : Shared}
theorem call_zipS {x : Str} {t : Tok} {l2 : Addr} {ys : Array Value} {Q : Value → Shared → Prop} (ha : x.cps.all (· < 128) = true) (hl2 : s.heap.IsTuple l2 ys)
    (h : ∀ h', IsZip h' (s.heap.objs.size + 4) (s.heap.objs.size + 2) (s.heap.objs.size + 3) .none → IsPair h' (s.heap.objs.size + 2) (.ref s.heap.objs.size) (.ref (s.heap.objs.size + 1)) →
      IsPair h' (s.heap.objs.size + 3) .none .none → h'.IsStrIter s.heap.objs.size "str_ascii_iterator" x t 0 → h'.IsTupleIter (s.heap.objs.size + 1) l2 0 → h'.objs.size = s.heap.objs.size + 5 →
      (∀ c o, s.heap.get? c = some o → h'.get? c = some o) → Q (.ref (s.heap.objs.size + 4)) { s with heap := h' }) :
    wpAny (model prog w) A (call (.type "zip") [.str x t, .ref l2]) Q E s := by
  refine callType_new F.called_zip (by decide) (F.typeCall_zip_2 _ _) (F.newCall_zip_2 _ _) (fun obj => F.args_object_init_3 obj _ _) F.entry_zip_new
    (meets_zipS_new x t l2 ys ha) ⟨hl2, ?_⟩
  have z1 : (zSH1 s.heap x t).objs.size = s.heap.objs.size + 1 := Heap.size_push ..
  have z2 : (zSH2 s.heap x t l2).objs.size = s.heap.objs.size + 2 := by rw [Heap.size_push, z1]
  have z3 : (zSH3 s.heap x t l2).objs.size = s.heap.objs.size + 3 := by rw [Heap.size_push, z2]
  have z4 : (zSH4 s.heap x t l2).objs.size = s.heap.objs.size + 4 := by rw [Heap.size_push, z3]
  have z5 : (zSH5 s.heap x t l2).objs.size = s.heap.objs.size + 5 := by rw [Heap.size_push, z4]
  have g5 : (zSH5 s.heap x t l2).get? (zSH4 s.heap x t l2).objs.size = some _ := Heap.get?_push_size _ rfl
  have g4 : (zSH5 s.heap x t l2).get? (zSH3 s.heap x t l2).objs.size = some _ := Heap.get?_push_of_some _ (Heap.get?_push_size _ rfl)
  have g3 : (zSH5 s.heap x t l2).get? (zSH2 s.heap x t l2).objs.size = some _ := Heap.get?_push_of_some _ (Heap.get?_push_of_some _ (Heap.get?_push_size _ rfl))
  have g2 : (zSH5 s.heap x t l2).get? (zSH1 s.heap x t).objs.size = some _ := Heap.get?_push_of_some _ (Heap.get?_push_of_some _ (Heap.get?_push_of_some _ (Heap.get?_push_size _ rfl)))
  have g1 : (zSH5 s.heap x t l2).get? s.heap.objs.size = some _ := Heap.get?_push_of_some _ (Heap.get?_push_of_some _ (Heap.get?_push_of_some _ (Heap.get?_push_of_some _ (Heap.get?_push_size _ rfl))))
  show _ ∧ _
  rw [z2, z3, z4] at g5
  rw [z1, z2] at g3
  rw [z3] at g4
  rw [z1] at g2
  rw [z4]
  exact ⟨⟨_, g5, rfl⟩, h _ g5 g3 g4 ⟨_, g1, rfl, rfl⟩ ⟨_, g2, rfl, rfl⟩ z5 fun c o x =>
    Heap.get?_push_of_some _ (Heap.get?_push_of_some _ (Heap.get?_push_of_some _ (Heap.get?_push_of_some _ (Heap.get?_push_of_some _ x))))⟩
end
/-- the signs of x beside the items of the tuple at b, in new pairs -/
def ItzS (K : PySem.W.Frag) (x : Str) (b : Addr) : It :=
  ⟨fun i H => ∃ (ys : List V) (c : Nat) (y : V), SqT K H b ys ∧ x.cps[i]? = some c ∧ ys[i]? = some y,
    fun i H v H' => ∃ T c y, v = .ref T ∧ H T = none ∧ H' = upd H T (.tup [.str ⟨#[c]⟩, y]) ∧ x.cps[i]? = some c ∧ ∀ ys, SqT K H b ys → ys[i]? = some y,
    fun i H => ∃ ys : List V, SqT K H b ys ∧ (x.cps.size ≤ i ∨ ys.length ≤ i)⟩
theorem turn_zipS {P : Program} {w : World} {K : PySem.W.Frag} {elts : List Expr} {kk : Nat} {tpos : Pos} {x : Str} {t : Tok} {a b z TI TO i1 i2 : Addr} (D : ZipApart z TI TO i1 i2 a b) :
    Turn P w K (.Tuple elts kk tpos) (ItzS K x b) [z, TI, TO, i1, i2] z (fun i h => IsZip h z TI TO .none ∧ IsPair h TI (.ref i1) (.ref i2) ∧ (∃ x y, IsPair h TO x y) ∧ h.IsStrIter i1 "str_ascii_iterator" x t i ∧ h.IsTupleIter i2 b i) where
  mem := by simp
  obj := fun i h st c hc => by
    obtain ⟨hz, hTI, ⟨x, y, hTO⟩, ⟨o1, e1, _, d1⟩, ⟨o2, e2, _, d2⟩⟩ := st
    have e' : c = z ∨ c = TI ∨ c = TO ∨ c = i1 ∨ c = i2 := by simpa using hc
    rcases e' with q | q | q | q | q
    · rw [q]; exact ⟨_, hz, fun v q => nomatch q⟩
    · rw [q]; exact ⟨_, hTI, fun v q => nomatch q⟩
    · rw [q]; exact ⟨_, hTO, fun v q => nomatch q⟩
    · rw [q]; exact ⟨o1, e1, fun v q => by rw [d1] at q; cases q⟩
    · rw [q]; exact ⟨o2, e2, fun v q => by rw [d2] at q; cases q⟩
  keep := fun i h h' st k => by
    obtain ⟨hz, hTI, ⟨x, y, hTO⟩, h1, h2⟩ := st
    exact ⟨k z (by simp) _ hz, k TI (by simp) _ hTI, ⟨x, y, k TO (by simp) _ hTO⟩, strIt_at h1 fun o q => k i1 (by simp) o q, h2.at fun o q => k i2 (by simp) o q⟩
  item := by
    intro X hP hw hK hc i pins s σ H E I hf st hg
    subst hP hw hK
    obtain ⟨hz, hTI, ⟨x0, y0, hTO⟩, h1, h2⟩ := st
    obtain ⟨ys, c0, y, hqy, hx, hy⟩ := hg
    obtain ⟨its2, rv2, p2, _⟩ := I.tuple hqy
    obtain ⟨u2, hu2, ru2⟩ := rv2.get hy
    have hzl : z < s.heap.objs.size := Heap.lt_size hz
    refine pyNext_zipS_item D hz hTI hTO h1 h2 p2 (y := u2) hx (by simpa using hu2) fun h' tk u z' TO' h1' h2' hT hsz hk => ?_
    refine ⟨_, rfl, wpAny_letOwnedTupleGo_zip (s := { s with heap := h', toks := tk }) z' fun h'' z'' sb => ?_⟩
    have hT2 : h''.get? s.heap.objs.size = some { cls := .type "tuple", data := .seq #[.str ⟨#[c0]⟩ u, u2] } := (sb.2 _ (Nat.ne_of_gt hzl)).trans hT
    have new : ObjOk X.prog X.w (upd H s.heap.objs.size (.tup [.str ⟨#[c0]⟩, y])) h'' s.heap.objs.size (.tup [.str ⟨#[c0]⟩, y]) :=
      ⟨by show 2 ≤ sizeLine; decide, [.str ⟨#[c0]⟩ u, u2], .cons ⟨u, rfl⟩ (.cons ru2 .nil), ⟨_, hT2, rfl, _, rfl⟩⟩
    have I1 : Inv X pins σ (upd H s.heap.objs.size (.tup [.str ⟨#[c0]⟩, y])) { s with heap := h'', toks := tk } :=
      I.turnedNew (t' := tk) (ch := [z, TI, TO, i1, i2]) (fun c o hb q => (sb.2 c (fun q' => hb (by simp [q']))).trans (hk c o (fun q' => hb (by simp [q'])) (fun q' => hb (by simp [q'])) (fun q' => hb (by simp [q'])) (fun q' => hb (by simp [q'])) q)) hf (Nat.le_refl _) new
    refine ⟨.ref s.heap.objs.size, _, I1, rfl, ⟨_, c0, y, rfl, I.hok.fresh (Nat.le_refl _), rfl, hx, fun l hl => by rw [I.tuple_inj hl hqy]; exact hy⟩, ⟨z'', ?_, ⟨.str ⟨#[c0]⟩ u, u2, (sb.2 _ D.TOz).trans TO'⟩, strIt_at h1' fun o q => (sb.2 _ D.i1z).trans q, h2'.at fun o q => (sb.2 _ D.i2z).trans q⟩, fun c hcm => ?_⟩
    · exact (sb.2 _ D.TIz).trans (hk _ _ D.TIz D.TITO D.TIi1 D.TIi2 hTI)
    · have hlt : c < s.heap.objs.size := by
        have e' : c = z ∨ c = TI ∨ c = TO ∨ c = i1 ∨ c = i2 := by simpa using hcm
        rcases e' with q | q | q | q | q
        · rw [q]; exact hzl
        · rw [q]; exact Heap.lt_size hTI
        · rw [q]; exact Heap.lt_size hTO
        · rw [q]; obtain ⟨_, e1, _⟩ := h1; exact Heap.lt_size e1
        · rw [q]; obtain ⟨_, e2, _⟩ := h2; exact Heap.lt_size e2
      rw [upd_ne (Nat.ne_of_lt hlt)]
      exact (hf c hcm).1
  done := by
    intro X hP hw hK hc i pins s σ H E I hf st hg
    subst hP hw hK
    obtain ⟨hz, hTI, ⟨x0, y0, hTO⟩, h1, h2⟩ := st
    obtain ⟨ys, hqy, hend⟩ := hg
    obtain ⟨its2, rv2, p2, _⟩ := I.tuple hqy
    have l2 := rv2.length
    have he : x.cps[i]? = none ∨ its2.toArray[i]? = none := by
      rcases hend with q | q
      · exact .inl (Array.getElem?_eq_none q)
      · exact .inr (by simp; omega)
    exact pyNext_zipS_end (I.ok.hd hc) D hz hTI hTO h1 h2 p2 he fun h' tk hk => ⟨rfl, I.turnedL (t' := tk) (ch := [z, TI, TO, i1, i2]) (fun c o hb q =>
      hk c o (fun q' => hb (by simp [q'])) (fun q' => hb (by simp [q'])) (fun q' => hb (by simp [q'])) (fun q' => hb (by simp [q'])) q) hf⟩
  self := fun A i s Q E st h => wpAny_pyIter_zip st.1 h
/-- zip(x, t) -/
def iZipS (K : PySem.W.Frag) (ta : TA) : TI := fun σ H R => ta σ H fun vs H1 => ∃ x b ys, vs = [.str x, .ref b] ∧ x.cps.all (· < 128) = true ∧ tupF K H1 b = some ys ∧ R (ItzS K x b) H1
theorem pi_zipS {X : Cx} (K : PySem.W.Frag) {e e2 : Expr} {ta : TA} {p pos tpos : Pos} {elts : List Expr} {kk : Nat} (hg : Gl X "zip") (hm : X.mg "zip" = none) (ha : PA X [e, e2] ta)
    (hs : starEach [e, e2] X.env = (false, eval e X.env) :: starEach [e2] X.env := by rfl) (hpl : (backTo pos (starEach [e2] X.env)).any (·.1) = false := by rfl) (hK : X.K = K := by rfl) :
    PI X (.Tuple elts kk tpos) (.Call (.Name "zip" p) [e, e2] [] pos) (iZipS K ta) := by
  subst hK
  refine ⟨fun pins s σ H R I h => ?_⟩
  refine Call_ (ld_blt I hg hm PyProof.Rows.boot_zip (PyProof.Rows.callWith_type1 (thn (ha.run pos pins s σ H _ I h) fun us s1 ⟨vs, H1, I1, r1, q1⟩ => ?_) hs hpl))
  obtain ⟨x, b, ys, ex, hx, hqy, q⟩ := q1
  subst ex
  cases r1 with
  | cons r rr =>
    cases rr with
    | cons r' rr =>
      cases rr
      obtain ⟨t, rfl⟩ := r
      cases r'
      have fresh5 : ∀ c, c ∈ [s1.heap.objs.size + 4, s1.heap.objs.size + 2, s1.heap.objs.size + 3, s1.heap.objs.size, s1.heap.objs.size + 1] → FpOk X pins H1 c := fun c hcm => by
        have e' : c = s1.heap.objs.size + 4 ∨ c = s1.heap.objs.size + 2 ∨ c = s1.heap.objs.size + 3 ∨ c = s1.heap.objs.size ∨ c = s1.heap.objs.size + 1 := by simpa using hcm
        have hle : s1.heap.objs.size ≤ c := by
          rcases e' with z | z | z | z | z
          · rw [z]; exact Nat.le_add_right _ _
          · rw [z]; exact Nat.le_add_right _ _
          · rw [z]; exact Nat.le_add_right _ _
          · rw [z]; exact Nat.le_refl _
          · rw [z]; exact Nat.le_add_right _ _
        exact I1.fpOk hle (I1.hok.fresh hle)
      obtain ⟨its2, rv2, p2, _⟩ := I1.tuple (tupF_sq hqy)
      obtain ⟨o2, ho2, _⟩ := id p2
      refine call_zipS hx p2 fun h' hz hTI hTO h1 h2 hsz hk => wpAny_pyIter_zip hz ?_
      have I2 : Inv X pins σ H1 { s1 with heap := h' } := I1.kept (t' := s1.toks) hk
      exact ⟨s1.heap.objs.size + 4, [s1.heap.objs.size + 4, s1.heap.objs.size + 2, s1.heap.objs.size + 3, s1.heap.objs.size, s1.heap.objs.size + 1], _, _, H1, rfl, I2, turn_zipS (PySem.W.ktu_apart s1.heap.objs.size b b (Heap.lt_size ho2) (Heap.lt_size ho2)), ⟨hz, hTI, ⟨_, _, hTO⟩, h1, h2⟩, fresh5, q⟩
theorem walk_zipS {K : PySem.W.Frag} {x : Str} {b : Addr} {ys : List V} {n : Nat} (hn : n = min x.cps.size ys.length) : Walk (ItzS K x b) n (fun H => SqT K H b ys) (YPair (fun i => (x.cps[i]?).map fun c => V.str ⟨#[c]⟩) (fun i => ys[i]?)) := by
  subst hn
  refine ⟨fun i _ hi q => ?_, fun _ q => ⟨ys, q, by omega⟩, fun i H v H' _ q y => ?_⟩
  · have h1 : i < x.cps.size := by omega
    have h2 : i < ys.length := by omega
    exact ⟨ys, x.cps[i], ys[i], q, by simp [h1], by simp [h2]⟩
  · obtain ⟨T, c, z, h1, h2, h3, h4, h5⟩ := y
    exact ⟨T, .str ⟨#[c]⟩, z, h1, h2, h3, (by show (x.cps[i]?).map _ = _; rw [h4]; rfl), h5 ys q⟩
end Sq
set_option Elab.async false
set_option linter.all false
set_option maxRecDepth 100000
set_option maxHeartbeats 2000000
namespace Sq
open PySem PySem.Spec PyProof.Rows L2 RZ
/-! ### a dict of the module, texts to texts -/
structure Kd (K : PySem.W.Frag) (w : World) (a : Addr) (L : List (Str × Str)) : Prop where
  kd : ∃ es n, KDict K w a es n
  at_ : ∀ k s, (k, s) ∈ L → ∃ u0, PySem.W.nsIn K a k = some (some u0) ∧ RelV (.str s) u0
def rKdIx (a : Addr) (L : List (Str × Str)) : R2 := fun x y H Q => x = .ref a ∧ ∃ k s, y = .str k ∧ (k, s) ∈ L ∧ Q (.str s) H
def rKdNin (a : Addr) (L : List (Str × Str)) : R2 := fun x y H Q => y = .ref a ∧ ∃ k s, x = .str k ∧ (k, s) ∈ L ∧ Q (.bl false) H
section
variable {X : Cx} {a : Addr} {L : List (Str × Str)}
theorem ix_kd {K : PySem.W.Frag} {w : World} (D : Kd K w a L) (hK : X.K = K := by rfl) (hw : X.w = w := by rfl) : IxR X (rKdIx a L) := by
  subst hK hw
  intro value slice pins s σ H x y v u Q I rx ry ⟨e1, k, z, e2, hm, q⟩ hs
  subst e1 e2
  obtain ⟨es, n, kd⟩ := D.kd
  obtain ⟨u0, h0, r0⟩ := D.at_ k z hm
  have ht := kd_type kd I
  cases rx
  obtain ⟨t, rfl⟩ := ry
  obtain ⟨t0, rfl⟩ := r0
  exact subscriptTail_builtin_flat ht PySem.F.slot_dict_getitem.lookup (wpAny_getItem_of (PySem.strKind_is X.prog X.w k t) (PySem.W.mapOf_K (prog := X.prog) I.kIn kd.at_ kd.lit) (PySem.W.find_K kd.at_ h0) (And.intro (fun a' (e : Value.str z t0 = Value.ref a') => Value.noConfusion e) ⟨.str z, H, I.tok _, ⟨_, rfl⟩, q⟩)) hs
theorem op_ninKd {K : PySem.W.Frag} {w : World} (D : Kd K w a L) (hK : X.K = K := by rfl) (hw : X.w = w := by rfl) : OpR X (compareOp .NotIn) (rKdNin a L) := by
  subst hK hw
  intro pins s σ H x y v u Q I rx ry ⟨e1, k, z, e2, hm, q⟩
  obtain ⟨es, n, kd⟩ := D.kd
  obtain ⟨u0, h0, r0⟩ := D.at_ k z hm
  exact op_notIn_kd kd pins s σ H x y v u Q I rx ry ⟨k, _, e2, e1, h0, q⟩
/-- t.index(x), texts -/
def rTIndex (K : PySem.W.Frag) : V → List V → Hp → VK → Prop := fun x xs H Q => ∃ p z, ∃ ys : List Str, x = .ref p ∧ xs = [.str z] ∧ tupF K H p = some (ys.map V.str) ∧ ∃ j, ys[j]? = some z ∧ (∀ m, m < j → ys[m]? ≠ some z) ∧ Q (.int (j : Nat)) H
theorem mt_tindexK (K : PySem.W.Frag) (hK : X.K = K := by rfl) : MtR X "tuple.index" (rTIndex K) := by
  subst hK
  exact fun pins s σ H x xs v us Q I rx rs ⟨p, z, ys, e1, e2, h, j, h1, h2, q⟩ => mt_tup_index pins s σ H x xs v us Q I rx rs ⟨p, ys, z, j, e1, e2, tupF_sq h, h1, h2, q⟩
end
/-- (a, b, ..).index(x): a tuple just made -/
def tTIdx (K : PySem.W.Frag) (t te : TA) : TE := fun σ H Q => t σ H fun xs H1 => xs.length ≤ sizeLine ∧ ∀ p H2, Ext [] H1 H2 → tupF K H2 p = some xs → te σ H2 fun us H3 => rTIndex K (.ref p) us H3 Q
theorem pe_tindexK {X : Cx} (K : PySem.W.Frag) {es : List Expr} {e : Expr} {x1 : Nat} {tpos apos cpos : Pos} {t te : TA} (h : PA X es t) (ha : PA X [e] te)
    (hbase : attributeBase (.Tuple es x1 tpos) "index" X.env (eval (.Tuple es x1 tpos) X.env) = eval (.Tuple es x1 tpos) X.env := by rfl)
    (hfew : ((backTo cpos (starEach [e] X.env)).all (fun x => !x.1) && (backToKw cpos (keywordEach [] X.env)).all (fun x => x.1.isSome)
      && decide ([e].length + ([] : List Keyword).length + (if ([] : List Keyword).isEmpty then 0 else 1) < 30)) = true := by rfl)
    (hline : (apos.endLine == cpos.line) = true := by rfl) (hs : starEach [e] X.env = (false, eval e X.env) :: starEach [] X.env := by rfl) (hplain : (backTo cpos (starEach [] X.env)).any (·.1) = false := by rfl) (hK : X.K = K := by rfl) :
    PE X (.Call (.Attribute (.Tuple es x1 tpos) "index" apos) [e] [] cpos) (tTIdx K t te) := by
  subst hK
  refine ⟨fun pins s σ H Q I hq => ?_⟩
  refine wpAny_Call_method_late hbase hfew hline rfl (wpAny_Tuple_spliced (thn (h.run tpos pins s σ H _ I hq) fun us s1 ⟨xs, H1, I1, r, z, q⟩ => ⟨by rw [← r.length]; exact z, ?_⟩))
  have hf : H1 s1.heap.objs.size = none := I1.hok.fresh (Nat.le_refl _)
  have I2 := I1.laid (a := s1.heap.objs.size) (o := .tup xs) (h' := s1.heap.push { cls := .type "tuple", data := .seq us.toArray }) (t' := s1.toks) (fun b u e => Heap.get?_push_of_some _ e) (Nat.le_refl _) ⟨z, us, r, ⟨_, Heap.get?_push_size _ rfl, rfl, _, rfl⟩⟩
  have n2 := inv_nk I2
  have q1 := q _ _ (Ext.new hf) (tupF_at (NK.at n2 upd_same) upd_same)
  refine ⟨"tuple", "tuple.index", PySem.F.plainAttrs_tuple, PySem.F.slot_tuple_index, PySem.F.type_tuple_index, ⟨_, Heap.get?_push_size _ rfl, rfl⟩, fun a e => ?_, ?_⟩
  · cases e
    exact ⟨_, Heap.get?_push_size _ rfl, rfl⟩
  · have hA := ha.run cpos pins _ σ _ _ I2 q1
    rw [hs] at hA ⊢
    refine Calls.callWith_builtin (by show (false || (backTo cpos (starEach [] X.env)).any (·.1)) = false; rw [hplain] <;> rfl) (Calls.evalArgs_plain ?_)
    exact thn hA fun vs s2 ⟨ws, H2, I2, r2, q2⟩ => mt_tindexK X.K rfl pins s2 σ H2 (.ref s1.heap.objs.size) ws _ vs Q I2 rfl r2 q2
/-- l.pop(0) -/
def rPop0 : V → List V → Hp → VK → Prop := fun x vs H Q => ∃ l, x = .ref l ∧ vs = [.int 0] ∧ ∃ y xs, H l = some (.lst (y :: xs)) ∧ ∀ H2, Ext [l] H H2 → H2 l = some (.lst xs) → Q y H2
theorem mt_pop0 {X : Cx} : MtM X "list.pop" rPop0 := fun pins s σ H x vs v us Q I rx rv ⟨l, e1, e2, y, xs, h, q⟩ =>
  mt_popAt pins s σ H x vs v us Q I rx rv ⟨l, y :: xs, 0, 0, y, e1, e2, h, by decide, by decide, by unfold seqIndex?; simp, rfl, q _ (Ext.setL List.mem_cons_self h) upd_same⟩
/-! ### the terms' shapes -/
def shapesL : List (Str × Str) := [("var", "n"), ("fun", "nft"), ("app", "tt"), ("pair", "tt"), ("first", "t"), ("second", "t"), ("left", "tf"), ("right", "ft"), ("case", "tntnt"), ("unit", ""), ("absurd", "tf")]
def Pt.sign : Pt → Nat
  | .n _ => 110
  | .f _ => 102
  | .t _ => 116
def Pt.data : Pt → PyData
  | .n s => .str s
  | .f g => g.data
  | .t u => u.data
namespace Tm
def shape (t : Tm) : Str := ⟨(t.parts.map Pt.sign).toArray⟩
theorem shape_in (t : Tm) : (t.kind, t.shape) ∈ shapesL := by
  cases t <;> (simp only [kind, shape, parts, List.map_cons, List.map_nil, Pt.sign]; decide +kernel)
theorem shape_list (t : Tm) : t.shape.cps.toList = t.parts.map Pt.sign := by simp [shape]
theorem shape_len (t : Tm) : t.shape.length = t.parts.length := by
  show t.shape.cps.size = _
  simp [shape]
theorem data_parts (t : Tm) : t.data = .tuple (.str t.kind :: t.parts.map Pt.data) := by cases t <;> rfl
theorem shape_ascii (t : Tm) : t.shape.cps.all (· < 128) = true := by
  cases t <;> (simp only [shape, parts, List.map_cons, List.map_nil, Pt.sign]; decide +kernel)
theorem parts_len (t : Tm) : t.parts.length ≤ 5 := by cases t <;> simp [parts]
end Tm
theorem sg_n_n (s : Str) : V.str ⟨#[(Pt.n s).sign]⟩ = V.str "n" := by show V.str ⟨#[110]⟩ = V.str "n"; decide +kernel
theorem sg_n_f (s : Str) : ¬ V.str ⟨#[(Pt.n s).sign]⟩ = V.str "f" := by show ¬ V.str ⟨#[110]⟩ = V.str "f"; decide +kernel
theorem sg_n_t (s : Str) : ¬ V.str ⟨#[(Pt.n s).sign]⟩ = V.str "t" := by show ¬ V.str ⟨#[110]⟩ = V.str "t"; decide +kernel
theorem sg_f_n (s : Fm) : ¬ V.str ⟨#[(Pt.f s).sign]⟩ = V.str "n" := by show ¬ V.str ⟨#[102]⟩ = V.str "n"; decide +kernel
theorem sg_f_f (s : Fm) : V.str ⟨#[(Pt.f s).sign]⟩ = V.str "f" := by show V.str ⟨#[102]⟩ = V.str "f"; decide +kernel
theorem sg_f_t (s : Fm) : ¬ V.str ⟨#[(Pt.f s).sign]⟩ = V.str "t" := by show ¬ V.str ⟨#[102]⟩ = V.str "t"; decide +kernel
theorem sg_t_n (s : Tm) : ¬ V.str ⟨#[(Pt.t s).sign]⟩ = V.str "n" := by show ¬ V.str ⟨#[116]⟩ = V.str "n"; decide +kernel
theorem sg_t_f (s : Tm) : ¬ V.str ⟨#[(Pt.t s).sign]⟩ = V.str "f" := by show ¬ V.str ⟨#[116]⟩ = V.str "f"; decide +kernel
theorem sg_t_t (s : Tm) : V.str ⟨#[(Pt.t s).sign]⟩ = V.str "t" := by show V.str ⟨#[116]⟩ = V.str "t"; decide +kernel
/-- a term in the heap -/
theorem tm_hd {K : PySem.W.Frag} {H : Hp} {v : V} {t : Tm} (h : Td K H v t.data) : ∃ p ws, v = .ref p ∧ tupF K H p = some (.str t.kind :: ws) ∧ TdAll K H ws (t.parts.map Pt.data) := by
  rw [Tm.data_parts] at h
  cases h with
  | tup e r =>
    cases r with
    | cons h1 r =>
      cases h1
      exact ⟨_, _, rfl, e, r⟩
theorem tm_mk {K : PySem.W.Frag} {H : Hp} {p : Addr} {ws : List V} {t : Tm} (h : tupF K H p = some (.str t.kind :: ws)) (r : TdAll K H ws (t.parts.map Pt.data)) : Td K H (.ref p) t.data := by
  rw [Tm.data_parts]
  exact .tup h (.cons (.str _) r)
end Sq
set_option Elab.async false
set_option linter.all false
set_option maxRecDepth 100000
set_option maxHeartbeats 2000000
namespace Sq
open PySem PySem.Spec PyProof.Rows L2
/-! ### the written part without the tables -/
def dropT (ts : List Addr) (K : PySem.W.Frag) : PySem.W.Frag := K.filter fun p => !ts.contains p.1
section
variable {ts : List Addr} {K : PySem.W.Frag} {a : Addr}
theorem dropT_out (h : a ∉ ts) : (dropT ts K).lookup a = K.lookup a := by
  unfold dropT
  induction K with
  | nil => rfl
  | cons p r ih =>
    obtain ⟨b, o⟩ := p
    by_cases hb : a = b
    · subst hb
      have : ts.contains a = false := by simpa using h
      rw [List.filter_cons, this]
      simp [List.lookup]
    · have hb' : (a == b) = false := by simpa using hb
      rw [List.filter_cons]
      split
      · simp only [List.lookup, hb', ih]
      · simp only [List.lookup, hb', ih]
theorem dropT_in (h : a ∈ ts) : (dropT ts K).lookup a = none := by
  unfold dropT
  induction K with
  | nil => rfl
  | cons p r ih =>
    obtain ⟨b, o⟩ := p
    rw [List.filter_cons]
    split
    · rename_i hc
      have hb : (a == b) = false := by
        cases e : a == b with
        | false => rfl
        | true =>
          have : a = b := by simpa using e
          subst this
          simp [h] at hc
      simp only [List.lookup, hb, ih]
    · exact ih
theorem dropT_In {h : Heap} (X : K.In h) : (dropT ts K).In h := fun a o e => by
  by_cases q : a ∈ ts
  · rw [dropT_in q] at e; cases e
  · rw [dropT_out q] at e; exact X a o e
end
section
variable {K : PySem.W.Frag} {mg : Str → Option Value} {x : Str} {st : Stmt} {f c : Addr} {fd : FuncData} {h : Heap} {ts : List Addr}
theorem Dn.drop (F : Dn K mg x st f fd c) (hf : f ∉ ts) (hc : c ∉ ts) : Dn (dropT ts K) mg x st f fd c := by
  obtain ⟨⟨oc, od, kV, doc, pm, an, ct, osl, e, l, cd⟩, m, kp⟩ := F
  refine ⟨⟨oc, od, kV, doc, pm, an, ct, osl, e, by rw [dropT_out hf]; exact l, ?_⟩, m, ?_⟩
  · unfold PySem.W.codeIn at cd ⊢
    simp only [dropT_out hc] at cd ⊢
    exact cd
  · unfold PySem.W.keepIn
    simp only [dropT_out hf, l]
/-- a def that the top has left: what is known of it goes on -/
theorem dn_go {R : Prop} (x : Str) (st : Stmt) {od an : Option Addr} {sl : Array (Option Value)} {oc kV dc pm ct : Value} (X : K.In h) (G : h.Ns mainGlobals mg)
    (a : PySem.W.nsIn K mainGlobals x = some (some (.ref f))) (l : K.lookup f = some ⟨oc, od, .func (PySem.W.fnOf x x (defArgs st) (defBody st) (defScope st) .none kV dc pm an (.ref c) ct), sl⟩) (q : PySem.W.codeIn K (.ref c) x = true) (k : PySem.W.keepIn K (.ref f) = true)
    (r : Dn K mg x st f (PySem.W.fnOf x x (defArgs st) (defBody st) (defScope st) .none kV dc pm an (.ref c) ct) c → R) : R :=
  r ⟨⟨oc, od, kV, dc, pm, an, ct, sl, rfl, l, q⟩, PySem.W.mg_of X G a, k⟩
/-- the table of a code object -/
def tabOf (o : Obj) : Option Addr := match o.data with
  | .fields vs => (vs[11]?).bind fun | .ref P => some P | _ => none
  | _ => none
theorem tabOf_at {o : Obj} {P : Addr} (h : tabOf o = some P) : ∃ vs, o.data = .fields vs ∧ vs[11]? = some (.ref P) := by
  unfold tabOf at h
  split at h
  · rename_i vs e
    refine ⟨vs, e, ?_⟩
    cases q : vs[11]? with
    | none => rw [q] at h; cases h
    | some v =>
      rw [q] at h
      cases v <;> first | (cases h; rfl) | cases h
  · cases h
/-- the tables of all defs of the top are empty -/
def OwnAll (q : Program) (mg : Str → Option Value) (K : PySem.W.Frag) (h : Heap) : Prop := ∀ (x : Str) (a : Addr), ((recsOf q).any fun e => e.name == x) = true → mg x = some (.ref a) → LamX.OwnTab K a h
theorem dn_goT {R : Prop} (x : Str) (st : Stmt) {od an : Option Addr} {sl : Array (Option Value)} {oc kV dc pm ct : Value} {P : Addr} {oo : Obj} (X : K.In h) (G : h.Ns mainGlobals mg)
    (a : PySem.W.nsIn K mainGlobals x = some (some (.ref f))) (l : K.lookup f = some ⟨oc, od, .func (PySem.W.fnOf x x (defArgs st) (defBody st) (defScope st) .none kV dc pm an (.ref c) ct), sl⟩) (q : PySem.W.codeIn K (.ref c) x = true) (k : PySem.W.keepIn K (.ref f) = true)
    (lc : K.lookup c = some oo) (t : tabOf oo = some P) (u : PySem.W.codeHdIn [(c, oo)] c P = true) {q' : Program} (O : OwnAll q' mg K h) (rc : ((recsOf q').any fun e => e.name == x) = true)
    (r : Dn K mg x st f (PySem.W.fnOf x x (defArgs st) (defBody st) (defScope st) .none kV dc pm an (.ref c) ct) c → PySem.W.CodeHd h c P ∧ h.get? P = some { cls := .none, data := .fields #[] } → R) : R :=
  dn_go x st X G a l q k fun D => by
    refine r D ⟨PySem.W.codeHd_of_K X ?_, ?_⟩
    · have e : ([(c, oo)] : PySem.W.Frag).lookup c = K.lookup c := by rw [lc]; simp [List.lookup]
      unfold PySem.W.codeHdIn at u ⊢
      rw [← e]
      exact u
    · obtain ⟨vs, e1, e2⟩ := tabOf_at t
      obtain ⟨e, dd, da, sls⟩ := oo
      simp only at e1
      subst e1
      exact O x f rc D.mgf c P _ _ e dd vs sls l rfl rfl lc e2
theorem own_all {q : Program} {mg : Str → Option Value} {K : PySem.W.Frag} {h : Heap} (KX : K.In h) (T : ∀ d ∈ recsOf q, ∃ (a : Addr) (o : Obj) (fd : FuncData) (c P : Addr), mg d.name = some (.ref a) ∧ h.get? a = some o ∧ o.data = .func fd ∧ fd.code = .ref c ∧ h.IsCode c P #[] ∧ h.TableAt c P #[]) : OwnAll q mg K h := fun y fy hrec hy c P o1 fd1 e dd vs1 sl k1 k2 k3 k4 k5 => by
  obtain ⟨dL, hm, hn1⟩ := List.any_eq_true.mp hrec
  have hn2 : dL.name = y := beq_iff_eq.mp hn1
  obtain ⟨a', o', fd', c', P', h1, h2, h3, h4, _, h5⟩ := T dL hm
  rw [hn2, hy] at h1
  cases h1
  rw [KX _ _ k1] at h2
  cases h2
  rw [k2] at h3
  cases h3
  rw [k3] at h4
  cases h4
  obtain ⟨⟨oc, vc, e1, _, e3, e4⟩, hP⟩ := h5
  rw [KX _ _ k4] at e1
  cases e1
  cases e3
  rw [k5] at e4
  cases e4
  exact hP
theorem walk_drop {l : PySem.W.OpenLaw} {n k : Nat} {q : Program} {loose : List Str} {XP : (Str → Option Value) → Heap → Prop} {d : DefRec} {K0 : PySem.Params → PySem.W.Frag} {as : List Addr} {e : ∀ P, as = (K0 P).map (·.1)} {x : Str} {ts : List Addr}
    (hn : l.most = some n) (hn2 : n ≤ sizeLine) (hdf : d.params.defaults = []) (hr : Room k callerA)
    (F : ∀ (w : World) (mg : Str → Option Value) (fa : Addr) (h : Heap), (K0 w.params).In h → h.Ns mainGlobals mg → mg d.name = some (.ref fa) → OwnAll q mg (K0 w.params) h → LamX.LawAtS l w (dropT ts (K0 w.params)) CX0 k n x mg fa h) :
    PySem.W.WalkO q loose XP (PySem.W.kHook K0 as e).says l.row.toRowW d [] (fun f vs => PySem.call f vs) := by
  refine Att.attach_callB hn hdf fun w s₀ s₁ mg mb fa o pm cd doc a vs ns G Y ho hd hcd hmg hobj hints hlen hbits hg => ?_
  have KX : (K0 w.params).In s₁.heap := PySem.W.kIn_of Y
  have own : OwnAll q mg (K0 w.params) s₁.heap := fun y fy hrec hy c P o1 fd1 e dd vs1 sl k1 k2 k3 k4 k5 => by
    obtain ⟨dL, hm, hn1⟩ := List.any_eq_true.mp hrec
    have hn2 : dL.name = y := beq_iff_eq.mp hn1
    obtain ⟨a', o', fd', c', P', h1, h2, h3, h4, h5, h6⟩ := G.T.tab dL hm
    rw [hn2, hy] at h1
    cases h1
    rw [KX _ _ k1] at h2
    cases h2
    rw [k2] at h3
    cases h3
    rw [k3] at h4
    cases h4
    obtain ⟨⟨oc, vc, e1, _, e3, e4⟩, hP⟩ := h6
    rw [KX _ _ k4] at e1
    cases e1
    cases e3
    rw [k5] at e4
    cases e4
    exact hP
  obtain ⟨fd, cs, sp, hT, nT, C, hb, hsp, hF⟩ := F w mg fa _ KX G.T.g hmg own
  exact LamX.law_callTs (dropT_In KX) G.T.g G.T.b G.T.builtins G.T.nolimit hg hT nT C G.T.bmain hobj hints (Nat.le_trans hlen hn2) hr hF hb (fun H hH hS => hsp H a ns hlen hbits hH hS) fun _ _ _ h => h
theorem tabB_of {base : Heap} {P : Addr} (T : LamX.TabB base mg c P) : GxR.TabB base mg c P := ⟨T.code, T.bm, T.gP⟩
end
end Sq
set_option Elab.async false
set_option linter.all false
set_option maxRecDepth 100000
set_option maxHeartbeats 2000000
namespace Sq
open PySem PySem.Spec PyProof.Rows L2
/-! ### a def's run at one place, whatever is known there of what runs around -/
theorem run_here {P : Program} {w : World} {K : PySem.W.Frag} {mg : Str → Option Value} {base : Heap} {k : Nat} {x : Str} {st : Stmt} {f c : Addr} {fd : FuncData} {N ps : List Str}
    (F : Dn K mg x st f fd c) (S : FnScope N ps (defScope st)) {A : Around} {outer : List Env} {s : Shared} {H : Hp} {args : Args} {us : List Value} {vs : List V} {Q : VK} {E : XK}
    (hr : Room (k + 1) A) (en : Env0 P w K mg base A outer s H) (bd : BindsTo s fd args (ps.zip us)) (vu : Vals vs us) (hl : vs.length = ps.length)
    (body : ∃ t, PSs (CxD P w K mg base N x st f c A outer s H E) (defBody st) t ∧ t { nx := fun _ H' => Q .non H', rt := Q } (start N vs) H) : codeAny (model P w) A (.call (.ref f) args) (CR CX0 outer P w H s Q E) s := by
  obtain ⟨⟨oc, od, kV, doc, pm, an, ct, osl, rfl, lk, hcd⟩, _, _⟩ := F
  have kin : K.In s.heap := en.mod.kin.keeps fun b o q => (en.bs b o q).1
  have nol : s.heap.NoLimit := en.mod.nolimit.keeps fun b o q => (en.bs b o q).1
  refine codeAny_call_function hr.depth (kin _ _ lk) rfl S.co S.gen rfl (PySem.W.codeRec_of kin hcd) (bd _ _ _ _ ?_)
  refine wpAny_newFunctionEnv_cells S.kind (fun y hy => ?_) fun env henv s1 inC => ?_
  · rcases S.par y.1 (List.of_mem_zip hy).1 with z | z
    · exact .inl z
    · exact .inr ⟨z, PySem.W.cellsFrom_some _ _ _ (.inl z)⟩
  subst henv
  refine ⟨nol.keeps inC.toInCall.keep, codeAny_func ?_⟩
  obtain ⟨t, ht, hq⟩ := body
  have J0 := inv_start (CX := CX0) (E := E) S hr.hd en hl vu inC
  refine wpAny_mono (ht.nox.run [] s1 (start N vs) H _ J0 hq) (fun fl s2 out => ?_) fun e s2 out => out
  cases fl with
  | brk => exact (out.choose_spec.choose_spec.2).elim
  | cont => exact (out.choose_spec.choose_spec.2).elim
  | next =>
    obtain ⟨_, H2, J, q⟩ := out
    exact ⟨V.non, H2, J.os, J.bare, J.base, J.hok, rfl, q⟩
  | ret u =>
    obtain ⟨v, _, H2, J, rv, q⟩ := out
    exact ⟨v, H2, J.os, J.bare, J.base, J.hok, rv, q⟩
/-! ### the law's call, where it is known that nothing of the interpreter's own is under way -/
def LawRun (l : PySem.W.OpenLaw) (w : World) (K : PySem.W.Frag) (mg : Str → Option Value) (fa : Addr) (cs : List (Addr × Addr)) : Prop :=
  ∀ (base : Heap) (s : Shared) (H : Hp) (a : Addr) (ns : List Int), K.In base → base.Ns mainGlobals mg → (∀ p ∈ cs, LamX.TabB base mg p.1 p.2) → Env0 l.prog w K mg base callerA [] s H → (∀ p ∈ cs, H p.2 = some (.tbl #[])) → SqL K H a (ns.map V.int) → ns.length ≤ 63 →
    codeAny (model l.prog w) callerA (.call (.ref fa) ⟨[.ref a], []⟩) (CR CX0 [] l.prog w H s (fun v _ => v = .bl true) fun _ _ _ => False) s
section
variable {l : PySem.W.OpenLaw} {w : World} {K : PySem.W.Frag} {mg mb : Str → Option Value} {fa a : Addr} {cs : List (Addr × Addr)} {s : Shared} {vs : List Value} {ns : List Int}
open Classical in
/-- what is tracked at the law's call: the script, if it is not written; the tables -/
noncomputable def at0 (K : PySem.W.Frag) (cs : List (Addr × Addr)) (a : Addr) (vs : List Value) (ns : List Int) : Hp := fun b =>
  if b ∈ cs.map (·.2) then some (.tbl #[]) else if b = a ∧ K.lookup a = none then some (.frz { cls := .type "list", data := .seq vs.toArray } (.lst (ns.map V.int))) else none
theorem law_callG (kin : K.In s.heap) (gns : s.heap.Ns mainGlobals mg) (bns : s.heap.Ns builtinsNs mb) (bb : ∀ x : Str, x ≠ "__name__" → mb x = bootBuiltins x) (nol : s.heap.NoLimit) (ng : s.gens = #[])
    (tabE : ∀ p ∈ cs, s.heap.get? p.2 = some { cls := .none, data := .fields #[] }) (tabN : ∀ p ∈ cs, K.lookup p.2 = none) (cod : ∀ p ∈ cs, PySem.W.CodeHd s.heap p.1 p.2)
    (hbm : ∃ (bm : Addr) (ob : Obj), mg "__builtins__" = some (.ref bm) ∧ bm ≠ builtinsNs ∧ s.heap.get? bm = some ob ∧ ob.cls = .type "module" ∧ ob.dict = some builtinsNs ∧ ob.data = .plain)
    (scr : s.heap.get? a = some { cls := .type "list", data := .seq vs.toArray }) (iAre : IntsAre vs ns) (few : ns.length ≤ 63) (F : LawRun l w K mg fa cs) :
    codeAny (model l.prog w) callerA (.call (.ref fa) ⟨[.ref a], []⟩) (fun r s' => r = .ok (.ret (.bool true)) ∧ OldK s.heap s'.heap ∧ s'.os = s.os ∧ AllBare s'.gens) s := by
  have rv := vals_ints iAre
  have szl : ns.length ≤ sizeLine := Nat.le_trans few (by decide)
  have tabM : ∀ b, b ∈ cs.map (·.2) → s.heap.get? b = some { cls := .none, data := .fields #[] } := fun b hb => by
    obtain ⟨p, hp, rfl⟩ := List.mem_map.mp hb
    exact tabE p hp
  have aNo : a ∉ cs.map (·.2) := fun z => by
    have q := (tabM a z).symm.trans scr
    exact absurd (congrArg Obj.data (Option.some.inj q)) (by intro z; cases z)
  generalize hZ : at0 K cs a vs ns = Z
  have zT : ∀ b, b ∈ cs.map (·.2) → Z b = some (.tbl #[]) := fun b hb => by rw [← hZ]; exact if_pos hb
  have zC : ∀ b u, Z b = some u → (b ∈ cs.map (·.2) ∧ u = .tbl #[]) ∨ (b = a ∧ K.lookup a = none ∧ u = .frz { cls := .type "list", data := .seq vs.toArray } (.lst (ns.map V.int))) := fun b u e => by
    rw [← hZ] at e
    unfold at0 at e
    split at e
    · rename_i h; cases e; exact .inl ⟨h, rfl⟩
    · split at e
      · rename_i h; cases e; exact .inr ⟨h.1, h.2, rfl⟩
      · cases e
  have zP : ∀ p ∈ cs, Z p.2 = some (.tbl #[]) := fun p hp => zT _ (List.mem_map.mpr ⟨p, hp, rfl⟩)
  have hsq : SqL K Z a (ns.map V.int) := by
    cases hk : K.lookup a with
    | none => exact .inl (.inr ⟨_, by rw [← hZ]; unfold at0; rw [if_neg aNo, if_pos ⟨rfl, hk⟩]⟩)
    | some o =>
      have e := (kin a o hk).symm.trans scr
      cases e
      exact .inr ⟨_, vs.toArray, _, hk, rfl, rfl, rfl, by rw [List.size_toArray, iAre.length]; exact szl, by simpa using rv⟩
  have ok : HOk l.prog w Z s.heap := fun b u e => by
    rcases zC b u e with ⟨h, rfl⟩ | ⟨rfl, _, rfl⟩
    · exact tabM b h
    · exact ⟨scr, by rw [List.length_map]; exact szl, vs, _, rv, scr⟩
  -- what is not tracked stands in the base
  have nTr : ∀ {b : Addr} {o : Obj}, s.heap.get? b = some o → (∀ v n, o.data ≠ .seq v n) → o.data ≠ .fields #[] → Z b = none := fun {b o} e h1 h2 => by
    cases q : Z b with
    | none => rfl
    | some u =>
      rcases zC b u q with ⟨h, _⟩ | ⟨rfl, _, _⟩
      · have := e.symm.trans (tabM b h); cases this; exact absurd rfl h2
      · have := e.symm.trans scr; cases this; exact absurd rfl (h1 _ _)
  have stand : ∀ {b : Addr} {o : Obj}, s.heap.get? b = some o → (∀ v n, o.data ≠ .seq v n) → o.data ≠ .fields #[] → (hidT s.heap Z).get? b = some o := fun e h1 h2 => hidT_get e (nTr e h1 h2)
  have dicts : ∀ {b : Addr} {m : Str → Option Value}, s.heap.Ns b m → (hidT s.heap Z).Ns b m := fun {b m} ⟨o, es, ep, e, d, r⟩ =>
    ⟨o, es, ep, stand e (fun v n z => by rw [d] at z; cases z) (fun z => by rw [d] at z; cases z), d, r⟩
  have kinB : K.In (hidT s.heap Z) := fun b o e => by
    refine hidT_get (kin b o e) ?_
    cases q : Z b with
    | none => rfl
    | some u =>
      rcases zC b u q with ⟨h, _⟩ | ⟨rfl, n, _⟩
      · obtain ⟨p, hp, rfl⟩ := List.mem_map.mp h
        rw [tabN p hp] at e; cases e
      · rw [n] at e; cases e
  have modB : Mod K mg (hidT s.heap Z) := ⟨kinB, dicts gns, ⟨mb, dicts bns, bb⟩, let ⟨mc, q1, q2⟩ := nol; ⟨mc, dicts q1, q2⟩⟩
  have tabB : ∀ p ∈ cs, LamX.TabB (hidT s.heap Z) mg p.1 p.2 := fun p hp => by
    refine ⟨?_, ?_, fun z => ?_⟩
    · obtain ⟨o, us, file, tf, flags, tg, inF, text, tt, e1, c1, c2, c3, r⟩ := cod p hp
      refine ⟨o, us, file, tf, flags, tg, inF, text, tt, stand e1 (fun v n z => ?_) (fun z => ?_), c1, c2, c3, r⟩
      · rw [c2] at z; cases z
      · rw [c2] at z; cases z; simp at c3
    · obtain ⟨bm, ob, b1, b2, b3, b4, b5, b6⟩ := hbm
      refine ⟨bm, ob, b1, b2, fun q => ?_, fun q => ?_, stand b3 (fun v n z => by rw [b6] at z; cases z) (fun z => by rw [b6] at z; cases z), b4, b5, b6⟩
      · obtain ⟨o, es, ep, e, hd, _⟩ := gns
        rw [q, e] at b3; cases b3; rw [hd] at b6; cases b6
      · rw [q, tabE p hp] at b3; cases b3; cases b6
    · obtain ⟨o, es, ep, e, hd, _⟩ := gns
      rw [z, tabE p hp] at e; cases e; cases hd
  have en : Env0 l.prog w K mg (hidT s.heap Z) callerA [] s Z :=
    ⟨rfl, modB, fun b o e => of_hidT e, Nat.le_of_eq (hidT_size _ _), trivial, (fun b hb => absurd (show b ∈ ([] : List Addr) from hb) (by simp)), ok, .of_eq ng⟩
  refine codeAny_mono (F _ s Z a ns kinB (dicts gns) tabB en zP hsq few) fun r s' out => ?_
  cases r with
  | error e => exact False.elim (show False from out)
  | ok fl =>
    cases fl with
    | next => exact False.elim out
    | brk => exact False.elim out
    | cont => exact False.elim out
    | ret u =>
      obtain ⟨v, H', os, bare, un, ok', rvu, q⟩ := out
      have q : v = .bl true := q
      subst q
      obtain rfl : u = Value.bool true := rvu
      have old : ∀ b o, b ∉ cs.map (·.2) → s.heap.get? b = some o → s'.heap.get? b = some o := fun b o hb e => by
        cases q : Z b with
        | none => exact un.keep b o e q (by intro z; cases z) (by simp)
        | some u =>
          rcases zC b u q with ⟨h, _⟩ | ⟨rfl, _, rfl⟩
          · exact absurd h hb
          · obtain ⟨g, _⟩ := ok' b _ (un.frzs b _ _ q)
            rw [e] at scr; cases scr; exact g
      have more : ∀ b, b ∈ cs.map (·.2) → ∃ ms : Array Value, s'.heap.get? b = some { cls := .none, data := .fields ms } := fun b hb => by
        obtain ⟨ms, z⟩ := un.tbls b #[] (zT b hb)
        exact ⟨_, ok' b _ z⟩
      refine ⟨rfl, ⟨fun b o e => ?_, fun b o e => ?_⟩, os, bare⟩
      · by_cases hb : b ∈ cs.map (·.2)
        · obtain ⟨ms, hm⟩ := more b hb
          have e0 := tabM b hb
          rw [e0] at e; cases e
          obtain ⟨p, hp, rfl⟩ := List.mem_map.mp hb
          exact .inr (.inl ⟨((cod p hp).tab e0).isCodeTable, rfl, #[], ms, rfl, by rw [Array.empty_append]; exact hm⟩)
        · exact .inl (old b o hb e)
      · by_cases hb : b ∈ cs.map (·.2)
        · obtain ⟨ms, hm⟩ := more b hb
          exact ⟨_, hm⟩
        · exact ⟨o, old b o hb e⟩
end
theorem walk_G {l : PySem.W.OpenLaw} {q : Program} {loose : List Str} {XP : (Str → Option Value) → Heap → Prop} {d : DefRec} {K0 : PySem.Params → PySem.W.Frag} {as : List Addr} {e : ∀ P, as = (K0 P).map (·.1)} {ts : List Addr}
    (hn : l.most = some 63) (hdf : d.params.defaults = [])
    (F : ∀ (w : World) (mg : Str → Option Value) (fa : Addr) (h : Heap), (K0 w.params).In h → h.Ns mainGlobals mg → mg d.name = some (.ref fa) → OwnAll q mg (K0 w.params) h →
      ∃ cs : List (Addr × Addr), (∀ p ∈ cs, h.get? p.2 = some { cls := .none, data := .fields #[] }) ∧ (∀ p ∈ cs, (dropT ts (K0 w.params)).lookup p.2 = none) ∧ (∀ p ∈ cs, PySem.W.CodeHd h p.1 p.2) ∧ LawRun l w (dropT ts (K0 w.params)) mg fa cs) :
    PySem.W.WalkO q loose XP (PySem.W.kHook K0 as e).says l.row.toRowW d [] (fun f vs => PySem.call f vs) := by
  refine Att.attach_callB hn hdf fun w s0 s1 mg mb fa o pm cd doc a vs ns G Y ho hd hcd hmg hobj hints hlen hbits hg => ?_
  have kin : (K0 w.params).In s1.heap := PySem.W.kIn_of Y
  obtain ⟨cs, t1, t2, t3, run⟩ := F w mg fa _ kin G.T.g hmg (own_all kin G.T.tab)
  exact law_callG (dropT_In kin) G.T.g G.T.b G.T.builtins G.T.nolimit hg t1 t2 t3 G.T.bmain hobj hints hlen run
end Sq
set_option Elab.async false
set_option linter.all false
set_option maxRecDepth 100000
set_option maxHeartbeats 2000000
namespace Sq
open PySem PySem.Spec PyProof.Rows L2
/-! ### constants that the top has left -/
def strsOf : List Value → Option (List Str)
  | [] => some []
  | .str x _ :: r => (strsOf r).map (x :: ·)
  | _ => none
theorem strsOf_vals : ∀ {us : List Value} {ss : List Str}, strsOf us = some ss → Vals (ss.map V.str) us
  | [], ss, h => by cases h; exact .nil
  | u :: us, ss, h => by
    cases u with
    | str x t =>
      simp only [strsOf] at h
      cases e : strsOf us with
      | none => rw [e] at h; cases h
      | some r =>
        rw [e] at h
        cases h
        exact .cons ⟨t, rfl⟩ (strsOf_vals e)
    | _ => cases h
theorem con_tup {R : Prop} {K : PySem.W.Frag} {mg : Str → Option Value} {h : Heap} {aJ : Addr} {o : Obj} {its : Array Value} {n : Nat} (x : Str) (ss : List Str) (X : K.In h) (G : h.Ns mainGlobals mg) (a : PySem.W.nsIn K mainGlobals x = some (some (.ref aJ))) (l : K.lookup aJ = some o)
    (hc : o.cls = .type "tuple") (hd : o.data = .seq its n) (hz : its.size ≤ sizeLine) (hv : strsOf its.toList = some ss) (r : mg x = some (.ref aJ) → WrT K aJ (ss.map V.str) → R) : R :=
  r (PySem.W.mg_of X G a) ⟨o, its, n, l, hc, hd, hz, strsOf_vals hv⟩
def strOf1 : Value → Option Str
  | .str x _ => some x
  | _ => none
theorem con_str {R : Prop} {K : PySem.W.Frag} {mg : Str → Option Value} {h : Heap} {u : Value} (x : Str) (s : Str) (X : K.In h) (G : h.Ns mainGlobals mg) (a : PySem.W.nsIn K mainGlobals x = some (some u)) (hu : strOf1 u = some s) (r : mg x = some u → RelV (.str s) u → R) : R := by
  refine r (PySem.W.mg_of X G a) ?_
  cases u with
  | str y t => cases hu; exact ⟨t, rfl⟩
  | _ => cases hu
theorem WrT.drop {K : PySem.W.Frag} {ts : List Addr} {a : Addr} {xs : List V} (h : WrT K a xs) (n : a ∉ ts) : WrT (dropT ts K) a xs := by
  obtain ⟨o, its, k, l, r⟩ := h
  exact ⟨o, its, k, by rw [dropT_out n]; exact l, r⟩
end Sq
set_option Elab.async false
set_option linter.all false
set_option maxRecDepth 100000
set_option maxHeartbeats 2000000
namespace Sq
open PySem PySem.Spec PyProof.Rows L2
/-! ### tables: names and their trees -/
def lk : List (Str × Fm) → Str → Option Fm
  | [], _ => none
  | (m, t) :: l, n => if m = n then some t else lk l n
def putL (l : List (Str × Fm)) (n : Str) (t : Fm) : List (Str × Fm) := if (lk l n).isSome then l.map (fun p => if p.1 = n then (p.1, t) else p) else l ++ [(n, t)]
inductive TabK (K : PySem.W.Frag) (H : Hp) : List (Key × V) → List (Str × Fm) → Prop
  | nil : TabK K H [] []
  | cons {n : Str} {v : V} {t : Fm} {kvs : List (Key × V)} {l : List (Str × Fm)} : Td K H v t.data → TabK K H kvs l → TabK K H ((Sum.inr n, v) :: kvs) ((n, t) :: l)
theorem TabK.ext {K : PySem.W.Frag} {S : List Addr} {H H' : Hp} (e : Ext S H H') : ∀ {kvs : List (Key × V)} {l : List (Str × Fm)}, TabK K H kvs l → TabK K H' kvs l
  | _, _, .nil => .nil
  | _, _, .cons h r => .cons (h.ext e) (r.ext e)
theorem TabK.length {K : PySem.W.Frag} {H : Hp} : ∀ {kvs : List (Key × V)} {l : List (Str × Fm)}, TabK K H kvs l → kvs.length = l.length
  | _, _, .nil => rfl
  | _, _, .cons _ r => congrArg Nat.succ r.length
theorem TabK.val {K : PySem.W.Frag} {H : Hp} (n : Str) : ∀ {kvs : List (Key × V)} {l : List (Str × Fm)}, TabK K H kvs l → (lk l n = none ∧ valV kvs (.inr n) = none) ∨ ∃ t v, lk l n = some t ∧ valV kvs (.inr n) = some v ∧ Td K H v t.data
  | _, _, .nil => .inl ⟨rfl, rfl⟩
  | _, _, .cons (n := m) (v := v) (t := t) h r => by
    by_cases e : m = n
    · exact .inr ⟨t, v, by simp [lk, e], by rw [valV_pos (by rw [e])], h⟩
    · rw [valV_neg (fun z => e (Sum.inr.inj z))]
      simp only [lk, if_neg e]
      exact r.val n
theorem TabK.get {K : PySem.W.Frag} {H : Hp} : ∀ {kvs : List (Key × V)} {l : List (Str × Fm)} {j : Nat} {k : Key} {v : V}, TabK K H kvs l → kvs[j]? = some (k, v) → ∃ n t, k = .inr n ∧ l[j]? = some (n, t) ∧ Td K H v t.data
  | _, _, 0, _, _, .cons h _, e => by cases e; exact ⟨_, _, rfl, rfl, h⟩
  | _, _, _ + 1, _, _, .cons _ r, e => r.get (by simpa using e)
theorem TabK.snoc {K : PySem.W.Frag} {H : Hp} {n : Str} {v : V} {t : Fm} (h : Td K H v t.data) : ∀ {kvs : List (Key × V)} {l : List (Str × Fm)}, TabK K H kvs l → TabK K H (kvs ++ [(.inr n, v)]) (l ++ [(n, t)])
  | _, _, .nil => .cons h .nil
  | _, _, .cons h' r => .cons h' (r.snoc h)
theorem TabK.over {K : PySem.W.Frag} {H : Hp} {n : Str} {v : V} {t : Fm} (h : Td K H v t.data) : ∀ {kvs : List (Key × V)} {l : List (Str × Fm)}, TabK K H kvs l → TabK K H (kvs.map fun kv => if kv.1 = Sum.inr n then (kv.1, v) else kv) (l.map fun p => if p.1 = n then (p.1, t) else p)
  | _, _, .nil => .nil
  | _, _, .cons (n := m) h' r => by
    rw [List.map_cons, List.map_cons]
    by_cases e : m = n
    · simp only [e, if_true]
      exact .cons h (r.over h)
    · simp only [if_neg e, if_neg (fun z => e (Sum.inr.inj z) : ¬ (Sum.inr m : Key) = Sum.inr n)]
      exact .cons h' (r.over h)
theorem TabK.put {K : PySem.W.Frag} {H : Hp} {n : Str} {v : V} {t : Fm} {kvs : List (Key × V)} {l : List (Str × Fm)} (r : TabK K H kvs l) (h : Td K H v t.data) : TabK K H (putK kvs (.inr n) v) (putL l n t) := by
  unfold putK putL
  rw [valV_any]
  rcases r.val n with ⟨h1, h2⟩ | ⟨t', v', h1, h2, _⟩
  · rw [h1, h2]
    exact r.snoc h
  · rw [h1, h2]
    exact r.over h
namespace Fm
/-- formulas put in names' places -/
def fill (s : Str → Option Fm) : Fm → Fm
  | name x => (s x).getD (name x)
  | one => one
  | none => none
  | bin j t u => bin j (t.fill s) (u.fill s)
theorem fill_nv {s : Str → Option Fm} {t : Fm} (h : t.isN = false) : (t.fill s).isN = false ∧ (t.fill s).hd = t.hd ∧ (t.fill s).args = t.args.map (fill s) := by
  cases t with
  | name x => cases h
  | _ => exact ⟨rfl, rfl, rfl⟩
theorem dep_fill_ge (s : Str → Option Fm) : ∀ t : Fm, t.dep ≤ (t.fill s).dep
  | name x => dep_pos _
  | one => Nat.le_refl _
  | none => Nat.le_refl _
  | bin j t u => by
    have h1 := dep_fill_ge s t
    have h2 := dep_fill_ge s u
    simp only [fill, dep]; omega
theorem dep_fill_le {s : Str → Option Fm} {B : Nat} (hB : 1 ≤ B) : ∀ {t : Fm}, (∀ x u, x ∈ t.names → s x = some u → u.dep ≤ B) → (t.fill s).dep + 1 ≤ t.dep + B
  | name x, h => by
    simp only [fill, dep]
    cases e : s x with
    | none => simp [dep]; omega
    | some u => have := h x u (by simp [names]) e; simp; omega
  | one, _ => by simp only [fill, dep]; omega
  | none, _ => by simp only [fill, dep]; omega
  | bin j t u, h => by
    have h1 := dep_fill_le hB (t := t) fun x w hx => h x w (List.mem_append_left _ hx)
    have h2 := dep_fill_le hB (t := u) fun x w hx => h x w (List.mem_append_right _ hx)
    simp only [fill, dep]; omega
theorem names_fill {s : Str → Option Fm} {x : Str} : ∀ {t : Fm}, x ∈ (t.fill s).names ↔ ∃ y ∈ t.names, x ∈ ((s y).getD (name y)).names
  | name y => by simp [fill, names]
  | one => by simp [fill, names]
  | none => by simp [fill, names]
  | bin j t u => by
    have h1 := names_fill (s := s) (x := x) (t := t)
    have h2 := names_fill (s := s) (x := x) (t := u)
    simp only [fill, names, List.mem_append, h1, h2]
    constructor
    · rintro (⟨y, a, b⟩ | ⟨y, a, b⟩)
      · exact ⟨y, .inl a, b⟩
      · exact ⟨y, .inr a, b⟩
    · rintro ⟨y, a | a, b⟩
      · exact .inl ⟨y, a, b⟩
      · exact .inr ⟨y, a, b⟩
theorem fill_fill (s1 s2 : Str → Option Fm) : ∀ t : Fm, (t.fill s1).fill s2 = t.fill fun y => some (((s1 y).getD (name y)).fill s2)
  | name x => rfl
  | one => rfl
  | none => rfl
  | bin j t u => by show bin _ _ _ = bin _ _ _; rw [fill_fill s1 s2 t, fill_fill s1 s2 u]
theorem fill_id {s : Str → Option Fm} : ∀ {t : Fm}, (∀ x ∈ t.names, s x = .none) → t.fill s = t
  | name x, h => by simp [fill, h x (by simp [names])]
  | one, _ => rfl
  | none, _ => rfl
  | bin j t u, h => by
    show bin _ _ _ = bin _ _ _
    rw [fill_id (t := t) fun x hx => h x (List.mem_append_left _ hx), fill_id (t := u) fun x hx => h x (List.mem_append_right _ hx)]
theorem fill_congr {s s' : Str → Option Fm} : ∀ {t : Fm}, (∀ x ∈ t.names, (s x).getD (.name x) = (s' x).getD (.name x)) → t.fill s = t.fill s'
  | name x, h => h x (by simp [names])
  | one, _ => rfl
  | none, _ => rfl
  | bin j t u, h => by
    show bin _ _ _ = bin _ _ _
    rw [fill_congr (t := t) fun x hx => h x (List.mem_append_left _ hx), fill_congr (t := u) fun x hx => h x (List.mem_append_right _ hx)]
/-- a name within a formula that is not the name is smaller, whatever is put in -/
theorem sz_in {s : Str → Option Fm} {x : Str} : ∀ {t : Fm}, x ∈ t.names → t ≠ name x → ((name x).fill s).sz < (t.fill s).sz
  | name y, h, n => by
    have e : x = y := by simpa [names] using h
    exact absurd (by rw [e]) n
  | one, h, _ => by cases h
  | none, h, _ => by cases h
  | bin j t u, h, _ => by
    rcases List.mem_append.mp h with h | h
    · have : ((name x).fill s).sz ≤ (t.fill s).sz := by
        by_cases e : t = name x
        · subst e; exact Nat.le_refl _
        · exact Nat.le_of_lt (sz_in (t := t) h e)
      simp only [fill, sz] at this ⊢; omega
    · have : ((name x).fill s).sz ≤ (u.fill s).sz := by
        by_cases e : u = name x
        · subst e; exact Nat.le_refl _
        · exact Nat.le_of_lt (sz_in (t := u) h e)
      simp only [fill, sz] at this ⊢; omega
end Fm
/-- a table's dict -/
def TabA (K : PySem.W.Frag) (H : Hp) (a : Addr) (l : List (Str × Fm)) : Prop := ∃ kvs, dctF H a = some kvs ∧ TabK K H kvs l
theorem TabA.ext {K : PySem.W.Frag} {S : List Addr} {H H' : Hp} {a : Addr} {l : List (Str × Fm)} (e : Ext S H H') (n : a ∉ S) : TabA K H a l → TabA K H' a l := fun ⟨kvs, h, r⟩ => ⟨kvs, dctF_ext e n h, r.ext e⟩
theorem TabA.ext0 {K : PySem.W.Frag} {H H' : Hp} {a : Addr} {l : List (Str × Fm)} (e : Ext [] H H') : TabA K H a l → TabA K H' a l := TabA.ext e (fun z => nomatch z)
abbrev Tab := List (Str × Fm)
theorem lk_map (g : Fm → Fm) (n : Str) : ∀ l : Tab, lk (l.map fun p => (p.1, g p.2)) n = (lk l n).map g
  | [] => rfl
  | (k, t) :: l => by
    show (if k = n then some (g t) else lk (l.map _) n) = (if k = n then some t else lk l n).map g
    by_cases e : k = n
    · simp [e]
    · simp only [if_neg e]; exact lk_map g n l
theorem lk_mem {l : Tab} {n : Str} {t : Fm} (h : lk l n = some t) : (n, t) ∈ l := by
  induction l with
  | nil => cases h
  | cons p l ih =>
    obtain ⟨k, u⟩ := p
    simp only [lk] at h
    split at h
    · rename_i e; cases h; subst e; exact List.mem_cons_self
    · exact List.mem_cons_of_mem _ (ih h)
theorem lk_none {l : Tab} {n : Str} : lk l n = none ↔ n ∉ l.map (·.1) := by
  induction l with
  | nil => simp [lk]
  | cons p l ih =>
    obtain ⟨k, u⟩ := p
    simp only [lk, List.map_cons, List.mem_cons, not_or]
    by_cases e : k = n
    · simp [e]
    · rw [if_neg e, ih]
      exact ⟨fun h => ⟨fun z => e z.symm, h⟩, fun h => h.2⟩
theorem lk_snoc {l : Tab} {n : Str} {t : Fm} (h : lk l n = none) (x : Str) : lk (l ++ [(n, t)]) x = if x = n then some t else lk l x := by
  induction l with
  | nil =>
    by_cases e : x = n
    · subst e; simp [lk]
    · have : ¬ n = x := fun z => e z.symm
      simp [lk, e, this]
  | cons p l ih =>
    obtain ⟨k, u⟩ := p
    simp only [lk] at h
    split at h
    · cases h
    · rename_i hk
      have ih := ih h
      simp only [List.cons_append, lk]
      by_cases e : k = x
      · have : ¬ x = n := fun z => hk (e.trans z)
        simp [e, this]
      · simp only [if_neg e]; exact ih
end Sq
set_option Elab.async false
set_option linter.all false
set_option maxRecDepth 100000
set_option maxHeartbeats 2000000
namespace Sq
open PySem PySem.Spec PyProof.Rows L2
/-! ### formulas made alike: fr, the names that are free -/
def Fm.isV (fr : List Str) : Fm → Bool
  | .name x => decide (x ∈ fr)
  | _ => false
/-- one name's formula -/
def one1 (x : Str) (o : Fm) : Str → Option Fm := lk [(x, o)]
def bindT (l : Tab) (x : Str) (o : Fm) : Tab := putL (l.map fun p => (p.1, p.2.fill (one1 x o))) x o
abbrev FP := List (Fm × Fm)
inductive Stp
  | out (r : Option Tab)
  | go (l : Tab) (rl : FP)
/-- a pair that is unlike, the free name ahead -/
def stepQ (fr : List Str) (l : Tab) (rest : FP) (p o : Fm) : Stp := match p with
  | .name x => if x ∈ fr then (if x ∈ o.names then .out none else .go (bindT l x o) rest) else .out none
  | .bin j s t => (match o with
    | .bin k s' t' => if j = k then .go l ((t, t') :: (s, s') :: rest) else .out none
    | _ => .out none)
  | _ => .out none
def stepP (fr : List Str) (l : Tab) (rest : FP) (t u : Fm) : Stp :=
  if t = u then .go l rest else if u.isV fr = true ∧ t.isV fr = false then stepQ fr l rest u t else stepQ fr l rest t u
/-- one turn; the pairs still left, the last first -/
def stepU (fr : List Str) (l : Tab) : FP → Stp
  | [] => .out (some l)
  | (t, u) :: rest => stepP fr l rest (t.fill (lk l)) (u.fill (lk l))
def runU (fr : List Str) : Nat → Tab → FP → Option (Option Tab)
  | 0, _, _ => none
  | n + 1, l, rl => match stepU fr l rl with
    | .out r => some r
    | .go l rl => runU fr n l rl
def EB (k : Nat) : Nat := 5 * 2 ^ k + 1
theorem EB_succ (k : Nat) : EB (k + 1) + 1 = 2 * EB k := by unfold EB; rw [Nat.pow_succ]; omega
theorem EB_le {k : Nat} (h : k ≤ 2) : EB k ≤ 21 := by
  unfold EB
  have : 2 ^ k ≤ 2 ^ 2 := Nat.pow_le_pow_right (by omega) h
  omega
structure UI (NS fr : List Str) (l : Tab) (rl : FP) : Prop where
  nd : (l.map (·.1)).Nodup
  keys : ∀ n ∈ l.map (·.1), n ∈ fr
  vals : ∀ n t, (n, t) ∈ l → (∀ x ∈ t.names, x ∈ NS ∧ lk l x = none) ∧ t.dep ≤ EB l.length
  prs : ∀ t u, (t, u) ∈ rl → ((∀ x ∈ t.names, x ∈ NS) ∧ (t.fill (lk l)).dep ≤ EB l.length) ∧ (∀ x ∈ u.names, x ∈ NS) ∧ (u.fill (lk l)).dep ≤ EB l.length
section
variable {NS fr : List Str}
theorem UI.fresh {l : Tab} {rl : FP} (h : UI NS fr l rl) {t : Fm} (ht : ∀ x ∈ t.names, x ∈ NS) : ∀ x ∈ (t.fill (lk l)).names, x ∈ NS ∧ lk l x = none := fun x hx => by
  obtain ⟨y, hy, hxy⟩ := Fm.names_fill.mp hx
  cases e : lk l y with
  | none =>
    rw [e] at hxy
    have : x = y := by simpa [Fm.names] using hxy
    subst this
    exact ⟨ht x hy, e⟩
  | some w =>
    rw [e] at hxy
    exact (h.vals y w (lk_mem e)).1 x hxy
theorem UI.len {l : Tab} {rl : FP} (h : UI NS fr l rl) : l.length ≤ fr.length := by
  have := nodup_sub h.nd h.keys
  rwa [List.length_map] at this
theorem one1_at {x y : Str} {o : Fm} : one1 x o y = if x = y then some o else none := rfl
theorem bindT_eq {l : Tab} {x : Str} {o : Fm} (h : lk l x = none) : bindT l x o = (l.map fun p => (p.1, p.2.fill (one1 x o))) ++ [(x, o)] := by
  unfold bindT putL
  rw [lk_map (fun t => t.fill (one1 x o)), h]
  rfl
theorem lk_bind {l : Tab} {x : Str} {o : Fm} (h : lk l x = none) (y : Str) : lk (bindT l x o) y = if y = x then some o else (lk l y).map (Fm.fill (one1 x o)) := by
  rw [bindT_eq h, lk_snoc (by rw [lk_map (fun t => t.fill (one1 x o)), h]; rfl), lk_map (fun t => t.fill (one1 x o))]
theorem fill_bind {l : Tab} {x : Str} {o : Fm} (h : lk l x = none) (t : Fm) : t.fill (lk (bindT l x o)) = (t.fill (lk l)).fill (one1 x o) := by
  rw [Fm.fill_fill]
  refine Fm.fill_congr fun y _ => ?_
  rw [lk_bind h]
  by_cases e : y = x
  · subst e
    rw [if_pos rfl, h]
    simp [Fm.fill, one1_at]
  · rw [if_neg e]
    cases lk l y with
    | none =>
      have : ¬ x = y := fun z => e z.symm
      simp [Fm.fill, one1_at, this]
    | some w => rfl
theorem dep_one {x : Str} {o t : Fm} : (t.fill (one1 x o)).dep + 1 ≤ t.dep + o.dep := Fm.dep_fill_le o.dep_pos fun y u _ h => by
  rw [one1_at] at h
  split at h
  · cases h; exact Nat.le_refl _
  · cases h
theorem UI.bind {l : Tab} {rl : FP} (h : UI NS fr l rl) {x : Str} {o : Fm} (hx : x ∈ fr) (hl : lk l x = none) (ho : ∀ y ∈ o.names, y ∈ NS ∧ lk l y = none) (hxo : x ∉ o.names) (hd : o.dep ≤ EB l.length) : UI NS fr (bindT l x o) rl := by
  have hlen : (bindT l x o).length = l.length + 1 := by rw [bindT_eq hl]; simp
  have hE := EB_succ l.length
  have mapfst : (bindT l x o).map (·.1) = l.map (·.1) ++ [x] := by
    rw [bindT_eq hl]
    simp
  have fresh : ∀ y, lk l y = none → y ≠ x → lk (bindT l x o) y = none := fun y h1 h2 => by rw [lk_bind hl, if_neg h2, h1]; rfl
  refine ⟨?_, fun n hn => ?_, fun n t hm => ?_, fun t u hm => ?_⟩
  · rw [mapfst]
    exact List.nodup_append.mpr ⟨h.nd, by simp, fun a ha b hb e => by
      have e' : b = x := by simpa using hb
      subst e' e
      exact (lk_none.mp hl) ha⟩
  · rw [mapfst] at hn
    rcases List.mem_append.mp hn with z | z
    · exact h.keys n z
    · have : n = x := by simpa using z
      rw [this]; exact hx
  · rw [hlen]
    rw [bindT_eq hl] at hm
    rcases List.mem_append.mp hm with z | z
    · obtain ⟨⟨n', w⟩, hw, e⟩ := List.mem_map.mp z
      cases e
      obtain ⟨h1, h2⟩ := h.vals n' w hw
      refine ⟨fun y hy => ?_, by have := dep_one (x := x) (o := o) (t := w); show (Fm.fill (one1 x o) w).dep ≤ _; omega⟩
      obtain ⟨z, hz, hyz⟩ := Fm.names_fill.mp hy
      rw [one1_at] at hyz
      by_cases e : x = z
      · rw [if_pos e] at hyz
        have hy' : y ∈ o.names := hyz
        obtain ⟨a, b⟩ := ho y hy'
        exact ⟨a, fresh y b fun e => hxo (e ▸ hy')⟩
      · rw [if_neg e] at hyz
        have e2 : y = z := by simpa [Fm.names] using hyz
        subst e2
        obtain ⟨a, b⟩ := h1 y hz
        exact ⟨a, fresh y b fun z => e z.symm⟩
    · have e : n = x ∧ t = o := by simpa using z
      obtain ⟨rfl, rfl⟩ := e
      exact ⟨fun y hy => let ⟨a, b⟩ := ho y hy; ⟨a, fresh y b fun e => hxo (e ▸ hy)⟩, by omega⟩
  · obtain ⟨⟨a1, a2⟩, b1, b2⟩ := h.prs t u hm
    rw [hlen, fill_bind hl, fill_bind hl]
    exact ⟨⟨a1, by have := dep_one (x := x) (o := o) (t := t.fill (lk l)); omega⟩, b1, by have := dep_one (x := x) (o := o) (t := u.fill (lk l)); omega⟩
def szP (l : Tab) (rl : FP) : Nat := (rl.map fun p => (p.1.fill (lk l)).sz + (p.2.fill (lk l)).sz).sum
theorem UI.tail {l : Tab} {p : Fm × Fm} {rl : FP} (h : UI NS fr l (p :: rl)) : UI NS fr l rl := ⟨h.nd, h.keys, h.vals, fun t u hm => h.prs t u (List.mem_cons_of_mem _ hm)⟩
theorem UI.split {l : Tab} {rl : FP} (h : UI NS fr l rl) {j k : Jn} {s t s' t' : Fm} (hp : ∀ y ∈ (Fm.bin j s t).names, y ∈ NS ∧ lk l y = none) (ho : ∀ y ∈ (Fm.bin k s' t').names, y ∈ NS ∧ lk l y = none) (dp : (Fm.bin j s t).dep ≤ EB l.length) (dO : (Fm.bin k s' t').dep ≤ EB l.length) : UI NS fr l ((t, t') :: (s, s') :: rl) := by
  have f : ∀ {r : Fm}, (∀ y ∈ r.names, y ∈ NS ∧ lk l y = none) → r.fill (lk l) = r := fun h => Fm.fill_id fun x hx => (h x hx).2
  have ps : ∀ y ∈ s.names, y ∈ NS ∧ lk l y = none := fun y hy => hp y (List.mem_append_left _ hy)
  have pt : ∀ y ∈ t.names, y ∈ NS ∧ lk l y = none := fun y hy => hp y (List.mem_append_right _ hy)
  have os : ∀ y ∈ s'.names, y ∈ NS ∧ lk l y = none := fun y hy => ho y (List.mem_append_left _ hy)
  have ot : ∀ y ∈ t'.names, y ∈ NS ∧ lk l y = none := fun y hy => ho y (List.mem_append_right _ hy)
  simp only [Fm.dep] at dp dO
  refine ⟨h.nd, h.keys, h.vals, fun a b hm => ?_⟩
  rcases List.mem_cons.mp hm with z | hm
  · cases z
    rw [f pt, f ot]
    exact ⟨⟨fun x hx => (pt x hx).1, by omega⟩, fun x hx => (ot x hx).1, by omega⟩
  · rcases List.mem_cons.mp hm with z | hm
    · cases z
      rw [f ps, f os]
      exact ⟨⟨fun x hx => (ps x hx).1, by omega⟩, fun x hx => (os x hx).1, by omega⟩
    · exact h.prs a b hm
theorem split_sz {l : Tab} {rl : FP} {j k : Jn} {s t s' t' : Fm} (hp : ∀ y ∈ (Fm.bin j s t).names, lk l y = none) (ho : ∀ y ∈ (Fm.bin k s' t').names, lk l y = none) : szP l ((t, t') :: (s, s') :: rl) < (Fm.bin j s t).sz + (Fm.bin k s' t').sz + szP l rl := by
  unfold szP
  simp only [List.map_cons, List.sum_cons]
  rw [Fm.fill_id fun x hx => hp x (List.mem_append_right _ hx), Fm.fill_id fun x hx => ho x (List.mem_append_right _ hx), Fm.fill_id fun x hx => hp x (List.mem_append_left _ hx), Fm.fill_id fun x hx => ho x (List.mem_append_left _ hx)]
  simp only [Fm.sz]
  omega
/-- one turn keeps what holds, and goes down -/
theorem step_ok {l : Tab} {rl : FP} (h : UI NS fr l rl) : match stepU fr l rl with
    | .out r => r = some l → rl = []
    | .go l' rl' => UI NS fr l' rl' ∧ (l'.length = l.length + 1 ∨ (l' = l ∧ szP l rl' < szP l rl)) := by
  cases rl with
  | nil => exact fun _ => rfl
  | cons pr rest =>
    obtain ⟨t, u⟩ := pr
    obtain ⟨⟨a1, a2⟩, b1, b2⟩ := h.prs t u List.mem_cons_self
    have ft := h.fresh a1
    have fu := h.fresh b1
    have hs : szP l ((t, u) :: rest) = (t.fill (lk l)).sz + (u.fill (lk l)).sz + szP l rest := by simp [szP]
    show match stepP fr l rest (t.fill (lk l)) (u.fill (lk l)) with
      | .out r => r = some l → (t, u) :: rest = []
      | .go l' rl' => UI NS fr l' rl' ∧ (l'.length = l.length + 1 ∨ (l' = l ∧ szP l rl' < szP l ((t, u) :: rest)))
    revert ft fu a2 b2 hs
    generalize t.fill (lk l) = t'
    generalize u.fill (lk l) = u'
    intro a2 b2 ft fu hs
    unfold stepP
    by_cases e : t' = u'
    · rw [if_pos e]
      refine ⟨h.tail, .inr ⟨rfl, ?_⟩⟩
      have := t'.sz_pos
      omega
    · rw [if_neg e]
      have key : ∀ p o : Fm, (∀ y ∈ p.names, y ∈ NS ∧ lk l y = none) → (∀ y ∈ o.names, y ∈ NS ∧ lk l y = none) → p.dep ≤ EB l.length → o.dep ≤ EB l.length → p.sz + o.sz + szP l rest = szP l ((t, u) :: rest) →
          (match stepQ fr l rest p o with
          | .out r => r = some l → (t, u) :: rest = []
          | .go l' rl' => UI NS fr l' rl' ∧ (l'.length = l.length + 1 ∨ (l' = l ∧ szP l rl' < szP l ((t, u) :: rest)))) := by
        intro p o hp ho dp dO hsz
        cases p with
        | name x =>
          obtain ⟨x1, x2⟩ := hp x (by simp [Fm.names])
          unfold stepQ
          by_cases xf : x ∈ fr
          · simp only [if_pos xf]
            by_cases z : x ∈ o.names
            · simp only [if_pos z]
              exact fun z => by cases z
            · simp only [if_neg z]
              exact ⟨h.tail.bind xf x2 ho z dO, .inl (by rw [bindT_eq x2]; simp)⟩
          · simp only [if_neg xf]
            exact fun z => by cases z
        | one => exact fun z => by cases z
        | none => exact fun z => by cases z
        | bin j s r =>
          cases o with
          | bin k s' r' =>
            unfold stepQ
            by_cases z : j = k
            · simp only [if_pos z]
              exact ⟨h.tail.split hp ho dp dO, .inr ⟨by trivial, by have := split_sz (rl := rest) (fun y hy => (hp y hy).2) (fun y hy => (ho y hy).2); omega⟩⟩
            · simp only [if_neg z]
              exact fun z => by cases z
          | _ => exact fun z => by cases z
      by_cases hv : u'.isV fr = true ∧ t'.isV fr = false
      · rw [if_pos hv]
        exact key u' t' fu ft b2 a2 (by omega)
      · rw [if_neg hv]
        exact key t' u' ft fu a2 b2 hs.symm
theorem run_ends (h4 : fr.length ≤ 2) : ∀ (f m : Nat) (l : Tab) (rl : FP), UI NS fr l rl → 2 - l.length ≤ f → szP l rl ≤ m → ∃ n r, runU fr n l rl = some r := by
  intro f
  induction f with
  | zero =>
    intro m
    induction m with
    | zero =>
      intro l rl h hf hm
      have hs := step_ok h
      cases e : stepU fr l rl with
      | out r => exact ⟨1, r, by simp [runU, e]⟩
      | go l' rl' =>
        rw [e] at hs
        obtain ⟨h', hd⟩ := hs
        have := h'.len
        have := h.len
        rcases hd with z | ⟨_, z⟩ <;> omega
    | succ m ih =>
      intro l rl h hf hm
      have hs := step_ok h
      cases e : stepU fr l rl with
      | out r => exact ⟨1, r, by simp [runU, e]⟩
      | go l' rl' =>
        rw [e] at hs
        obtain ⟨h', hd⟩ := hs
        have := h'.len
        have := h.len
        rcases hd with z | ⟨z1, z⟩
        · omega
        · subst z1
          obtain ⟨n, r, hr⟩ := ih l' rl' h' hf (by omega)
          exact ⟨n + 1, r, by simp [runU, e, hr]⟩
  | succ f ihf =>
    intro m
    induction m with
    | zero =>
      intro l rl h hf hm
      have hs := step_ok h
      cases e : stepU fr l rl with
      | out r => exact ⟨1, r, by simp [runU, e]⟩
      | go l' rl' =>
        rw [e] at hs
        obtain ⟨h', hd⟩ := hs
        rcases hd with z | ⟨_, z⟩
        · obtain ⟨n, r, hr⟩ := ihf _ l' rl' h' (by omega) (Nat.le_refl _)
          exact ⟨n + 1, r, by simp [runU, e, hr]⟩
        · omega
    | succ m ih =>
      intro l rl h hf hm
      have hs := step_ok h
      cases e : stepU fr l rl with
      | out r => exact ⟨1, r, by simp [runU, e]⟩
      | go l' rl' =>
        rw [e] at hs
        obtain ⟨h', hd⟩ := hs
        rcases hd with z | ⟨z1, z⟩
        · obtain ⟨n, r, hr⟩ := ihf _ l' rl' h' (by omega) (Nat.le_refl _)
          exact ⟨n + 1, r, by simp [runU, e, hr]⟩
        · subst z1
          obtain ⟨n, r, hr⟩ := ih l' rl' h' hf (by omega)
          exact ⟨n + 1, r, by simp [runU, e, hr]⟩
/-! ### what it tells -/
theorem fill_theta {th : Str → Option Fm} {l : Tab} (h : ∀ n t, (n, t) ∈ l → (Fm.name n).fill th = t.fill th) (t : Fm) : (t.fill (lk l)).fill th = t.fill th := by
  rw [Fm.fill_fill]
  refine Fm.fill_congr fun y _ => ?_
  show ((lk l y).getD (.name y)).fill th = (Fm.name y).fill th
  cases e : lk l y with
  | none => rfl
  | some w => exact (h y w (lk_mem e)).symm
theorem fill_one {th : Str → Option Fm} {x : Str} {o : Fm} (h : (Fm.name x).fill th = o.fill th) (t : Fm) : (t.fill (one1 x o)).fill th = t.fill th :=
  fill_theta (l := [(x, o)]) (fun n t hm => by
    have e : n = x ∧ t = o := by simpa using hm
    obtain ⟨rfl, rfl⟩ := e
    exact h) t
/-- a way: formulas for free names alone -/
def Way (fr : List Str) (th : Str → Option Fm) : Prop := ∀ x, x ∉ fr → th x = none
theorem way_hd {th : Str → Option Fm} (w : Way fr th) {p o : Fm} (hp : p.isV fr = false) (ho : o.isV fr = false) (h : p.fill th = o.fill th) : (∃ x, p = .name x ∧ o = .name x) ∨ (p.isN = false ∧ o.isN = false) := by
  have nm : ∀ {q : Fm}, q.isV fr = false → ∀ x, q = .name x → q.fill th = .name x := fun {q} hq x e => by
    subst e
    have : x ∉ fr := by simpa [Fm.isV] using hq
    show (th x).getD _ = _
    rw [w x this]; rfl
  cases p with
  | name x =>
    rw [nm hp x rfl] at h
    cases o with
    | name y =>
      rw [nm ho y rfl] at h
      exact .inl ⟨x, rfl, h.symm⟩
    | _ => cases h
  | _ =>
    cases o with
    | name y => rw [nm ho y rfl] at h; cases h
    | _ => exact .inr ⟨rfl, rfl⟩
/-- what can be made alike is made alike; and each way is a case of what is told -/
theorem run_tells {th : Str → Option Fm} (w : Way fr th) : ∀ (n : Nat) (l : Tab) (rl : FP), UI NS fr l rl → (∀ t u, (t, u) ∈ rl → t.fill th = u.fill th) → (∀ n t, (n, t) ∈ l → (Fm.name n).fill th = t.fill th) →
    runU fr n l rl ≠ some none ∧ ∀ l', runU fr n l rl = some (some l') → ∀ n t, (n, t) ∈ l' → (Fm.name n).fill th = t.fill th
  | 0, _, _, _, _, _ => ⟨(fun h => by cases h), (fun _ h => by cases h)⟩
  | n + 1, l, [], hU, hp, hl => by
    have e : runU fr (n + 1) l [] = some (some l) := rfl
    rw [e]
    exact ⟨by simp, fun l' h => by cases h; exact hl⟩
  | n + 1, l, (t, u) :: rest, hU, hp, hl => by
    have e0 : runU fr (n + 1) l ((t, u) :: rest) = (match stepP fr l rest (t.fill (lk l)) (u.fill (lk l)) with | .out r => some r | .go l rl => runU fr n l rl) := rfl
    rw [e0]
    clear e0
    obtain ⟨⟨a1, a2⟩, b1, b2⟩ := hU.prs t u List.mem_cons_self
    have ft := hU.fresh a1
    have fu := hU.fresh b1
    have eq : (t.fill (lk l)).fill th = (u.fill (lk l)).fill th := by rw [fill_theta hl, fill_theta hl]; exact hp t u List.mem_cons_self
    have hrest : ∀ t u, (t, u) ∈ rest → t.fill th = u.fill th := fun t u hm => hp t u (List.mem_cons_of_mem _ hm)
    revert ft fu a2 b2 eq
    generalize t.fill (lk l) = t'
    generalize u.fill (lk l) = u'
    intro a2 b2 ft fu eq
    have key : ∀ p o : Fm, p ≠ o → (p.isV fr = false → o.isV fr = false) → (∀ y ∈ p.names, y ∈ NS ∧ lk l y = none) → (∀ y ∈ o.names, y ∈ NS ∧ lk l y = none) → p.dep ≤ EB l.length → o.dep ≤ EB l.length → p.fill th = o.fill th →
        (match stepQ fr l rest p o with | .out r => some r | .go l rl => runU fr n l rl) ≠ some none ∧ ∀ l', (match stepQ fr l rest p o with | .out r => some r | .go l rl => runU fr n l rl) = some (some l') → ∀ n t, (n, t) ∈ l' → (Fm.name n).fill th = t.fill th := by
      intro p o hne hno hpn hon dp dO hpo
      by_cases hpv : p.isV fr = true
      · cases p with
        | name x =>
          have xf : x ∈ fr := by simpa [Fm.isV] using hpv
          obtain ⟨x1, x2⟩ := hpn x (by simp [Fm.names])
          unfold stepQ
          simp only [if_pos xf]
          by_cases z : x ∈ o.names
          · have := Fm.sz_in (s := th) z (fun e => hne e.symm)
            rw [hpo] at this
            omega
          · simp only [if_neg z]
            refine run_tells w n _ rest (hU.tail.bind xf x2 hon z dO) hrest (fun n' t' hm' => ?_)
            rw [bindT_eq x2] at hm'
            rcases List.mem_append.mp hm' with w | w
            · obtain ⟨⟨n0, t0⟩, h0, e⟩ := List.mem_map.mp w
              cases e
              show _ = (t0.fill (one1 x o)).fill th
              rw [fill_one hpo]
              exact hl n0 t0 h0
            · have e : n' = x ∧ t' = o := by simpa using w
              obtain ⟨rfl, rfl⟩ := e
              exact hpo
        | _ => cases hpv
      · have hpv : p.isV fr = false := by simpa using hpv
        rcases way_hd w hpv (hno hpv) hpo with ⟨x, e1, e2⟩ | ⟨n1, n2⟩
        · exact absurd (e1.trans e2.symm) hne
        · cases p with
          | name x => cases n1
          | one => cases o with
            | one => exact absurd rfl hne
            | name y => cases n2
            | _ => cases hpo
          | none => cases o with
            | none => exact absurd rfl hne
            | name y => cases n2
            | _ => cases hpo
          | bin j s r => cases o with
            | name y => cases n2
            | one => cases hpo
            | none => cases hpo
            | bin k s' r' =>
              have hpo' : Fm.bin j (s.fill th) (r.fill th) = Fm.bin k (s'.fill th) (r'.fill th) := hpo
              injection hpo' with e1 e2 e3
              unfold stepQ
              simp only [if_pos e1]
              refine run_tells w n l _ (hU.tail.split hpn hon dp dO) (fun a b hm => ?_) hl
              rcases List.mem_cons.mp hm with z | hm
              · cases z; exact e3
              · rcases List.mem_cons.mp hm with z | hm
                · cases z; exact e2
                · exact hrest a b hm
    unfold stepP
    by_cases e : t' = u'
    · rw [if_pos e]
      exact run_tells w n l rest hU.tail hrest hl
    · rw [if_neg e]
      by_cases hv : u'.isV fr = true ∧ t'.isV fr = false
      · rw [if_pos hv]
        exact key u' t' (fun z => e z.symm) (fun z => by rw [hv.1] at z; cases z) fu ft b2 a2 eq.symm
      · rw [if_neg hv]
        exact key t' u' e (fun z => by
          cases hx : u'.isV fr with
          | false => rfl
          | true => exact absurd ⟨hx, z⟩ hv) ft fu a2 b2 eq
/-- it makes the pairs alike -/
theorem run_alike : ∀ (n : Nat) (l : Tab) (rl : FP) (l' : Tab), UI NS fr l rl → runU fr n l rl = some (some l') →
    (∀ t : Fm, (t.fill (lk l)).fill (lk l') = t.fill (lk l')) ∧ (∀ t u, (t, u) ∈ rl → t.fill (lk l') = u.fill (lk l'))
  | 0, _, _, _, _, h => by cases h
  | n + 1, l, [], l', hU, h => by
    have e : runU fr (n + 1) l [] = some (some l) := rfl
    rw [e] at h
    cases h
    refine ⟨fun t => ?_, (fun t u z => by cases z)⟩
    refine Fm.fill_id fun x hx => ?_
    obtain ⟨y, hy, hxy⟩ := Fm.names_fill.mp hx
    cases e : lk l y with
    | none =>
      rw [e] at hxy
      have : x = y := by simpa [Fm.names] using hxy
      subst this
      exact e
    | some w =>
      rw [e] at hxy
      exact ((hU.vals y w (lk_mem e)).1 x hxy).2
  | n + 1, l, (t, u) :: rest, l', hU, h => by
    have hm : (match stepP fr l rest (t.fill (lk l)) (u.fill (lk l)) with | .out r => some r | .go l rl => runU fr n l rl) = some (some l') := h
    obtain ⟨⟨a1, a2⟩, b1, b2⟩ := hU.prs t u List.mem_cons_self
    have ft := hU.fresh a1
    have fu := hU.fresh b1
    suffices key : (∀ t : Fm, (t.fill (lk l)).fill (lk l') = t.fill (lk l')) ∧ ((t.fill (lk l)).fill (lk l') = (u.fill (lk l)).fill (lk l')) ∧ (∀ t u, (t, u) ∈ rest → t.fill (lk l') = u.fill (lk l')) by
      obtain ⟨k1, k2, k3⟩ := key
      refine ⟨k1, fun t' u' hm' => ?_⟩
      rcases List.mem_cons.mp hm' with z | z
      · cases z; exact (k1 _).symm.trans (k2.trans (k1 _))
      · exact k3 t' u' z
    revert hm ft fu a2 b2
    generalize t.fill (lk l) = t'
    generalize u.fill (lk l) = u'
    intro hm a2 b2 ft fu
    unfold stepP at hm
    have key : ∀ p o : Fm, (∀ y ∈ p.names, y ∈ NS ∧ lk l y = none) → (∀ y ∈ o.names, y ∈ NS ∧ lk l y = none) → p.dep ≤ EB l.length → o.dep ≤ EB l.length →
        (match stepQ fr l rest p o with | .out r => some r | .go l rl => runU fr n l rl) = some (some l') →
        (∀ t : Fm, (t.fill (lk l)).fill (lk l') = t.fill (lk l')) ∧ (p.fill (lk l') = o.fill (lk l')) ∧ (∀ t u, (t, u) ∈ rest → t.fill (lk l') = u.fill (lk l')) := by
      intro p o hpn hon dp dO hmq
      cases p with
      | name x =>
        obtain ⟨x1, x2⟩ := hpn x (by simp [Fm.names])
        unfold stepQ at hmq
        by_cases xf : x ∈ fr
        · simp only [if_pos xf] at hmq
          by_cases z : x ∈ o.names
          · simp only [if_pos z] at hmq
            cases hmq
          · simp only [if_neg z] at hmq
            obtain ⟨r1, r2⟩ := run_alike n _ rest l' (hU.tail.bind xf x2 hon z dO) hmq
            have h3 : (Fm.name x).fill (one1 x o) = o := by show (one1 x o x).getD _ = o; rw [one1_at, if_pos rfl]; rfl
            have one : ∀ w : Fm, (w.fill (one1 x o)).fill (lk l') = w.fill (lk l') := fun w => by
              refine fill_one ?_ w
              have h1 := r1 (.name x)
              rw [fill_bind x2] at h1
              have h2 : ((Fm.name x).fill (lk l)) = .name x := Fm.fill_id fun y hy => by
                have : y = x := by simpa [Fm.names] using hy
                rw [this]; exact x2
              rw [h2, h3] at h1
              exact h1.symm
            refine ⟨fun w => ?_, ?_, r2⟩
            · have h1 := r1 w
              rw [fill_bind x2, one] at h1
              exact h1
            · have := one (.name x)
              rw [h3] at this
              exact this.symm
        · simp only [if_neg xf] at hmq
          cases hmq
      | one => cases hmq
      | none => cases hmq
      | bin j s r =>
        cases o with
        | bin k s' r' =>
          unfold stepQ at hmq
          by_cases e1 : j = k
          · simp only [if_pos e1] at hmq
            obtain ⟨r1, r2⟩ := run_alike n l _ l' (hU.tail.split hpn hon dp dO) hmq
            refine ⟨r1, ?_, fun t u z => r2 t u (List.mem_cons_of_mem _ (List.mem_cons_of_mem _ z))⟩
            show Fm.bin _ _ _ = Fm.bin _ _ _
            rw [e1, r2 r r' List.mem_cons_self, r2 s s' (List.mem_cons_of_mem _ List.mem_cons_self)]
          · simp only [if_neg e1] at hmq
            cases hmq
        | _ => cases hmq
    by_cases e : t' = u'
    · rw [if_pos e] at hm
      obtain ⟨r1, r2⟩ := run_alike n l rest l' hU.tail hm
      exact ⟨r1, by rw [e], r2⟩
    · rw [if_neg e] at hm
      by_cases hv : u'.isV fr = true ∧ t'.isV fr = false
      · rw [if_pos hv] at hm
        obtain ⟨k1, k2, k3⟩ := key u' t' fu ft b2 a2 hm
        exact ⟨k1, k2.symm, k3⟩
      · rw [if_neg hv] at hm
        exact key t' u' ft fu a2 b2 hm
end
end Sq
set_option Elab.async false
set_option linter.all false
set_option maxRecDepth 100000
set_option maxHeartbeats 2000000
namespace Sq
open PySem PySem.Spec PyProof.Rows L2
/-! ### how many pairs wait -/
/-- how many pairs are left at most -/
def SB : Nat → Nat
  | 0 => 2
  | k + 1 => SB k + EB k
def Stair (l : Tab) (D : Nat) : List (Fm × Fm) → Prop
  | [] => True
  | p :: A => ((p.1.fill (lk l)).dep + A.length ≤ D ∧ (p.2.fill (lk l)).dep + A.length ≤ D) ∧ Stair l D A
def LenI (l : Tab) (rl : List (Fm × Fm)) : Prop := ∃ A B, rl = A ++ B ∧ B.length ≤ SB l.length ∧ Stair l (EB l.length) A
theorem Stair.len {l : Tab} {D : Nat} : ∀ {A : List (Fm × Fm)}, Stair l D A → A.length ≤ D
  | [], _ => Nat.zero_le _
  | p :: A, ⟨⟨h, _⟩, _⟩ => by have := (p.1.fill (lk l)).dep_pos; rw [List.length_cons]; omega
theorem LenI.le {l : Tab} {rl : List (Fm × Fm)} (h : LenI l rl) (hl : l.length ≤ 2) : rl.length ≤ 200 := by
  obtain ⟨A, B, rfl, h1, h2⟩ := h
  have h3 := h2.len
  have h4 := EB_le hl
  have h5 : SB l.length ≤ SB 2 := by
    match l.length, hl with
    | 0, _ => decide
    | 1, _ => decide
    | 2, _ => decide
  have h6 : SB 2 = 19 := by decide
  rw [List.length_append]; omega
theorem LenI.tail {l : Tab} {p : Fm × Fm} {rest : List (Fm × Fm)} (h : LenI l (p :: rest)) : LenI l rest := by
  obtain ⟨A, B, e, h1, h2⟩ := h
  cases A with
  | nil =>
    rw [List.nil_append] at e
    subst e
    exact ⟨[], rest, rfl, by rw [List.length_cons] at h1; omega, trivial⟩
  | cons a A =>
    cases e
    exact ⟨A, B, rfl, h1, h2.2⟩
theorem LenI.bind {l l' : Tab} {rest : List (Fm × Fm)} (h : LenI l rest) (hl : l'.length = l.length + 1) : LenI l' rest := by
  obtain ⟨A, B, e, h1, h2⟩ := h
  refine ⟨[], rest, rfl, ?_, trivial⟩
  have := h2.len
  rw [hl, e, List.length_append]
  show _ ≤ SB l.length + EB l.length
  omega
theorem stair_push {l : Tab} {D : Nat} {A : List (Fm × Fm)} (h : Stair l D A) : ∀ {zs : List (Fm × Fm)}, zs.length ≤ 2 → (∀ z ∈ zs, (z.1.fill (lk l)).dep + A.length + 1 ≤ D ∧ (z.2.fill (lk l)).dep + A.length + 1 ≤ D) → Stair l D (zs ++ A)
  | [], _, _ => h
  | [z], _, f => by
    obtain ⟨a, b⟩ := f z (by simp)
    exact ⟨⟨by show _ + A.length ≤ D; omega, by show _ + A.length ≤ D; omega⟩, h⟩
  | [z, z'], _, f => by
    obtain ⟨a, b⟩ := f z (by simp)
    obtain ⟨a', b'⟩ := f z' (by simp)
    refine ⟨⟨?_, ?_⟩, ⟨by show _ + A.length ≤ D; omega, by show _ + A.length ≤ D; omega⟩, h⟩
    · show _ + (A.length + 1) ≤ D; omega
    · show _ + (A.length + 1) ≤ D; omega
theorem LenI.split {l : Tab} {t u : Fm} {rest zs : List (Fm × Fm)} {d : Nat} (h : LenI l ((t, u) :: rest)) (hz : zs.length ≤ 2) (ht : (t.fill (lk l)).dep ≤ EB l.length) (hu : (u.fill (lk l)).dep ≤ EB l.length)
    (hd : d = max (t.fill (lk l)).dep (u.fill (lk l)).dep) (f : ∀ z ∈ zs, (z.1.fill (lk l)).dep + 1 ≤ d ∧ (z.2.fill (lk l)).dep + 1 ≤ d) : LenI l (zs ++ rest) := by
  obtain ⟨A, B, e, h1, h2⟩ := h
  cases A with
  | nil =>
    rw [List.nil_append] at e
    subst e
    exact ⟨zs, rest, rfl, by rw [List.length_cons] at h1; omega, by
      have := stair_push (l := l) (D := EB l.length) (A := []) trivial hz fun z hz' => by
        obtain ⟨a, b⟩ := f z hz'
        simp only [List.length_nil]; omega
      rwa [List.append_nil] at this⟩
  | cons a A =>
    cases e
    obtain ⟨⟨a1, a2⟩, h3⟩ := h2
    refine ⟨zs ++ A, B, (List.append_assoc _ _ _).symm, h1, stair_push h3 hz fun z hz' => ?_⟩
    obtain ⟨a, b⟩ := f z hz'
    simp only at a1 a2
    omega
theorem LenI.args {l : Tab} {t u p o : Fm} {rest : List (Fm × Fm)} (h : LenI l ((t, u) :: rest)) (ht : (t.fill (lk l)).dep ≤ EB l.length) (hu : (u.fill (lk l)).dep ≤ EB l.length) (hp : ∀ y ∈ p.names, lk l y = none) (ho : ∀ y ∈ o.names, lk l y = none)
    (hpd : p.dep ≤ max (t.fill (lk l)).dep (u.fill (lk l)).dep) (hod : o.dep ≤ max (t.fill (lk l)).dep (u.fill (lk l)).dep) : LenI l ((p.args.zip o.args).reverse ++ rest) := by
  refine h.split (by rw [List.length_reverse, List.length_zip]; have := p.args_len; omega) ht hu rfl fun z hz => ?_
  obtain ⟨a, b⟩ := List.of_mem_zip (List.mem_reverse.mp hz)
  rw [Fm.fill_id fun x hx => hp x (Fm.names_arg a hx), Fm.fill_id fun x hx => ho x (Fm.names_arg b hx)]
  have := Fm.dep_arg a
  have := Fm.dep_arg b
  omega
theorem stepQ_ok {NS fr : List Str} {l : Tab} {t u p o : Fm} {rest : List (Fm × Fm)} {m : Nat} {r : Option Tab} (hU : UI NS fr l ((t, u) :: rest)) (h : LenI l ((t, u) :: rest)) (hp : ∀ y ∈ p.names, y ∈ NS ∧ lk l y = none) (ho : ∀ y ∈ o.names, y ∈ NS ∧ lk l y = none)
    (hpd : p.dep ≤ max (t.fill (lk l)).dep (u.fill (lk l)).dep) (hod : o.dep ≤ max (t.fill (lk l)).dep (u.fill (lk l)).dep) (hm : (match stepQ fr l rest p o with | .out r => some r | .go l rl => runU fr m l rl) = some r) :
    match stepQ fr l rest p o with | .out r' => r = r' | .go l' rl' => runU fr m l' rl' = some r ∧ UI NS fr l' rl' ∧ LenI l' rl' := by
  obtain ⟨⟨a1, a2⟩, b1, b2⟩ := hU.prs t u List.mem_cons_self
  have dO : o.dep ≤ EB l.length := by omega
  have dp : p.dep ≤ EB l.length := by omega
  cases p with
  | name x =>
    obtain ⟨x1, x2⟩ := hp x (by simp [Fm.names])
    unfold stepQ at hm ⊢
    by_cases xf : x ∈ fr
    · simp only [if_pos xf] at hm ⊢
      by_cases z : x ∈ o.names
      · simp only [if_pos z] at hm ⊢
        exact (Option.some.inj hm).symm
      · simp only [if_neg z] at hm ⊢
        exact ⟨hm, hU.tail.bind xf x2 ho z dO, h.tail.bind (by rw [bindT_eq x2]; simp)⟩
    · simp only [if_neg xf] at hm ⊢
      exact (Option.some.inj hm).symm
  | one => exact (Option.some.inj hm).symm
  | none => exact (Option.some.inj hm).symm
  | bin j s r' =>
    cases o with
    | bin k s' r'' =>
      unfold stepQ at hm ⊢
      by_cases z : j = k
      · simp only [if_pos z] at hm ⊢
        exact ⟨hm, hU.tail.split hp ho dp dO, h.args a2 b2 (fun y hy => (hp y hy).2) (fun y hy => (ho y hy).2) hpd hod⟩
      · simp only [if_neg z] at hm ⊢
        exact (Option.some.inj hm).symm
    | name y => exact (Option.some.inj hm).symm
    | one => exact (Option.some.inj hm).symm
    | none => exact (Option.some.inj hm).symm
def pairD (p : Fm × Fm) : PyData := .tuple [p.1.data, p.2.data]
theorem TdAll.unsnoc {K : PySem.W.Frag} {H : Hp} {d : PyData} : ∀ {ds : List PyData} {vs : List V}, TdAll K H vs (ds ++ [d]) → ∃ vs' v, vs = vs' ++ [v] ∧ TdAll K H vs' ds ∧ Td K H v d
  | [], _, .cons h .nil => ⟨[], _, rfl, .nil, h⟩
  | _ :: _, _, .cons h r => by
    obtain ⟨vs', v, rfl, r', h'⟩ := r.unsnoc
    exact ⟨_ :: vs', v, rfl, .cons h r', h'⟩
theorem pair_shaped {NS : List Str} (n : NsOk NS) : ∀ {ps : List (Fm × Fm)}, (∀ p ∈ ps, (∀ x ∈ p.1.names, x ∈ NS) ∧ (∀ x ∈ p.2.names, x ∈ NS) ∧ p.1.dep ≤ 60 ∧ p.2.dep ≤ 60) → PyData.canLayAll0 (ps.map pairD) = true ∧ PyData.depthAll (ps.map pairD) ≤ 61
  | [], _ => ⟨by rw [List.map_nil, PyData.canLayAll0], by rw [List.map_nil, PyData.depthAll]; omega⟩
  | p :: ps, h => by
    obtain ⟨h1, h2, h3, h4⟩ := h p List.mem_cons_self
    obtain ⟨i1, i2⟩ := pair_shaped n (ps := ps) fun q hq => h q (List.mem_cons_of_mem _ hq)
    constructor
    · rw [List.map_cons, PyData.canLayAll0, i1]
      simp only [pairD, Fm.lay_tup, Fm.lay_cons, Fm.lay_nil, Fm.lay_data p.1 fun x q => n.ok x (h1 x q), Fm.lay_data p.2 fun x q => n.ok x (h2 x q), Bool.and_self]
    · rw [List.map_cons, PyData.depthAll]
      have : (pairD p).depth = max p.1.dep p.2.dep + 1 := by simp [pairD, PyData.depth, PyData.depthAll, Fm.depth_data]
      omega
theorem putL_fresh {l : Tab} {n : Str} {t : Fm} (h : lk l n = none) : putL l n t = l ++ [(n, t)] := by unfold putL; rw [h]; rfl
theorem lk_take {l : Tab} (nd : (l.map (·.1)).Nodup) (g : Fm → Fm) {j : Nat} {n : Str} {t : Fm} (h : l[j]? = some (n, t)) : lk ((l.take j).map fun p => (p.1, g p.2)) n = none := by
  refine lk_none.mpr fun hm => ?_
  rw [List.map_map] at hm
  obtain ⟨⟨n', t'⟩, hm', e⟩ := List.mem_map.mp hm
  have e' : n' = n := e
  subst e'
  obtain ⟨i, hi, hit⟩ := List.mem_iff_getElem.mp hm'
  rw [List.length_take] at hi
  rw [List.getElem_take] at hit
  obtain ⟨hj, hjt⟩ := List.getElem?_eq_some_iff.mp h
  have := List.pairwise_iff_getElem.mp nd i j (by rw [List.length_map]; omega) (by rw [List.length_map]; exact hj) (by omega)
  rw [List.getElem_map, List.getElem_map, hit, hjt] at this
  exact this rfl
mutual
theorem Td.mapH {K : PySem.W.Frag} {H H' : Hp} (f : ∀ b xs, tupF K H b = some xs → tupF K H' b = some xs) {v : V} {d : PyData} : Td K H v d → Td K H' v d
  | .non => .non
  | .bl b => .bl b
  | .int i => .int i
  | .str x => .str x
  | .tup h r => .tup (f _ _ h) (TdAll.mapH f r)
theorem TdAll.mapH {K : PySem.W.Frag} {H H' : Hp} (f : ∀ b xs, tupF K H b = some xs → tupF K H' b = some xs) {vs : List V} {ds : List PyData} : TdAll K H vs ds → TdAll K H' vs ds
  | .nil => .nil
  | .cons h r => .cons (Td.mapH f h) (TdAll.mapH f r)
end
theorem TabK.mapH {K : PySem.W.Frag} {H H' : Hp} (f : ∀ b xs, tupF K H b = some xs → tupF K H' b = some xs) : ∀ {kvs : List (Key × V)} {l : Tab}, TabK K H kvs l → TabK K H' kvs l
  | _, _, .nil => .nil
  | _, _, .cons h r => .cons (Td.mapH f h) (r.mapH f)
theorem tupF_unlock {K : PySem.W.Frag} {H : Hp} {d : Addr} {o : Obj} {kvs ks : List (Key × V)} (hd : H d = some (.frz o (.dK kvs))) (b : Addr) (xs : List V) (h : tupF K H b = some xs) : tupF K (upd H d (.dK ks)) b = some xs := by
  unfold tupF at h ⊢
  split at h
  · rename_i hx; rw [dif_pos hx]; exact h
  · rename_i hx
    rw [dif_neg hx]
    by_cases e : b = d
    · subst e
      rw [hd] at h
      cases h
    · rw [upd_ne e]; exact h

end Sq
set_option Elab.async false
set_option linter.all false
set_option maxRecDepth 100000
set_option maxHeartbeats 2000000
namespace Sq
open PySem PySem.Spec PyProof.Rows L2
/-! ### a pattern put over a formula -/
def mt : Tab → Fm → Fm → Tab × Bool
  | l, .name x, u => match lk l x with
    | some o => (l, decide (o = u))
    | .none => (putL l x u, true)
  | l, .one, u => (l, decide (u = .one))
  | l, .none, u => (l, decide (u = .none))
  | l, .bin j s r, u => match u with
    | .bin k s' r' => if j = k then (if (mt l s s').2 = true then mt (mt l s s').1 r r' else mt l s s') else (l, false)
    | _ => (l, false)
structure TbI (NS : List Str) (l : Tab) : Prop where
  nd : (l.map (·.1)).Nodup
  keys : ∀ n ∈ l.map (·.1), n ∈ NS
  vals : ∀ n w, (n, w) ∈ l → (∀ x ∈ w.names, x ∈ NS) ∧ w.dep ≤ 40
theorem TbI.nil {NS : List Str} : TbI NS [] := ⟨List.nodup_nil, (fun n hn => by cases hn), fun n t hn => by cases hn⟩
theorem TbI.len {NS : List Str} {l : Tab} (h : TbI NS l) : l.length ≤ NS.length := by
  have := nodup_sub h.nd h.keys
  rwa [List.length_map] at this
theorem mt_ti {NS : List Str} : ∀ (s t : Fm) (l : Tab), TbI NS l → (∀ x ∈ s.names, x ∈ NS) → (∀ x ∈ t.names, x ∈ NS) → t.dep ≤ 40 → TbI NS (mt l s t).1
  | .name x, u, l, h, hs, ht, hd => by
    unfold mt
    cases e : lk l x with
    | some o => exact h
    | none =>
      show TbI NS (putL l x u)
      rw [putL_fresh e]
      refine ⟨?_, fun n hn => ?_, fun n w hm => ?_⟩
      · rw [List.map_append]
        exact List.nodup_append.mpr ⟨h.nd, by simp, fun a ha b hb e2 => by
          have e3 : b = x := by simpa using hb
          subst e3 e2
          exact lk_none.mp e ha⟩
      · rw [List.map_append] at hn
        rcases List.mem_append.mp hn with z | z
        · exact h.keys n z
        · have : n = x := by simpa using z
          rw [this]; exact hs x (by simp [Fm.names])
      · rcases List.mem_append.mp hm with z | z
        · exact h.vals n w z
        · have : n = x ∧ w = u := by simpa using z
          rw [this.2]; exact ⟨ht, hd⟩
  | .one, u, l, h, _, _, _ => h
  | .none, u, l, h, _, _, _ => h
  | .bin j s r, u, l, h, hs, ht, hd => by
    cases u with
    | bin k s' r' =>
      simp only [Fm.dep] at hd
      have h1 := mt_ti s s' l h (fun x hx => hs x (List.mem_append_left _ hx)) (fun x hx => ht x (List.mem_append_left _ hx)) (by omega)
      have h2 := mt_ti r r' _ h1 (fun x hx => hs x (List.mem_append_right _ hx)) (fun x hx => ht x (List.mem_append_right _ hx)) (by omega)
      show TbI NS (if j = k then (if (mt l s s').2 = true then mt (mt l s s').1 r r' else mt l s s') else (l, false)).1
      split
      · split
        · exact h2
        · exact h1
      · exact h
    | name x => exact h
    | one => exact h
    | none => exact h
theorem mt_keep {n : Str} {w : Fm} : ∀ (s t : Fm) (l : Tab), lk l n = some w → lk (mt l s t).1 n = some w
  | .name x, u, l, h => by
    unfold mt
    cases e : lk l x with
    | some o => exact h
    | none =>
      show lk (putL l x u) n = some w
      rw [putL_fresh e, lk_snoc e]
      by_cases z : n = x
      · rw [z, e] at h; cases h
      · rw [if_neg z]; exact h
  | .one, u, l, h => h
  | .none, u, l, h => h
  | .bin j s r, u, l, h => by
    cases u with
    | bin k s' r' =>
      show lk (if j = k then (if (mt l s s').2 = true then mt (mt l s s').1 r r' else mt l s s') else (l, false)).1 n = _
      split
      · split
        · exact mt_keep r r' _ (mt_keep s s' l h)
        · exact mt_keep s s' l h
      · exact h
    | name x => exact h
    | one => exact h
    | none => exact h
theorem mt_up {l' : Tab} : ∀ (s t : Fm) (l : Tab), (mt l s t).2 = true → (∀ n w, lk (mt l s t).1 n = some w → lk l' n = some w) → s.fill (lk l') = t
  | .name x, u, l, h, k => by
    show (lk l' x).getD _ = u
    unfold mt at h k
    cases e : lk l x with
    | some o =>
      rw [e] at h k
      have : o = u := of_decide_eq_true h
      rw [k x o e, this]; rfl
    | none =>
      rw [e] at h k
      have := k x u (by show lk (putL l x u) x = _; rw [putL_fresh e, lk_snoc e, if_pos rfl])
      rw [this]; rfl
  | .one, u, l, h, k => (of_decide_eq_true h : u = .one).symm
  | .none, u, l, h, k => (of_decide_eq_true h : u = .none).symm
  | .bin j s r, u, l, h, k => by
    cases u with
    | bin k2 s' r' =>
      have h : (if j = k2 then (if (mt l s s').2 = true then mt (mt l s s').1 r r' else mt l s s') else (l, false)).2 = true := h
      have k : ∀ n w, lk (if j = k2 then (if (mt l s s').2 = true then mt (mt l s s').1 r r' else mt l s s') else (l, false)).1 n = some w → lk l' n = some w := k
      by_cases e : j = k2
      · rw [if_pos e] at h k
        by_cases e2 : (mt l s s').2 = true
        · rw [if_pos e2] at h k
          show Fm.bin _ _ _ = _
          rw [e, mt_up r r' _ h k, mt_up s s' l e2 fun n w q => k n w (mt_keep r r' _ q)]
        · rw [if_neg e2] at h; exact absurd h e2
      · rw [if_neg e] at h; cases h
    | name x => cases h
    | one => cases h
    | none => cases h
theorem mt_dn {th : Str → Option Fm} : ∀ (s t : Fm) (l : Tab), s.fill th = t → (∀ n w, lk l n = some w → (Fm.name n).fill th = w) → (mt l s t).2 = true ∧ ∀ n w, lk (mt l s t).1 n = some w → (Fm.name n).fill th = w
  | .name x, u, l, h, k => by
    unfold mt
    cases e : lk l x with
    | some o => exact ⟨decide_eq_true ((k x o e).symm.trans h), k⟩
    | none =>
      refine ⟨rfl, fun n w hn => ?_⟩
      have hn : lk (putL l x u) n = some w := hn
      rw [putL_fresh e, lk_snoc e] at hn
      by_cases z : n = x
      · rw [if_pos z] at hn
        rw [z, ← Option.some.inj hn]; exact h
      · rw [if_neg z] at hn; exact k n w hn
  | .one, u, l, h, k => ⟨decide_eq_true h.symm, k⟩
  | .none, u, l, h, k => ⟨decide_eq_true h.symm, k⟩
  | .bin j s r, u, l, h, k => by
    cases u with
    | bin k2 s' r' =>
      have h : Fm.bin j (s.fill th) (r.fill th) = .bin k2 s' r' := h
      injection h with e1 e2 e3
      obtain ⟨a1, a2⟩ := mt_dn s s' l e2 k
      have : mt l (.bin j s r) (.bin k2 s' r') = mt (mt l s s').1 r r' := by
        show (if j = k2 then (if (mt l s s').2 = true then mt (mt l s s').1 r r' else mt l s s') else (l, false)) = _
        rw [if_pos e1, if_pos a1]
      rw [this]
      exact mt_dn r r' _ e3 a2
    | name x => cases h
    | one => cases h
    | none => cases h
theorem mt_done {s t : Fm} (h : (mt [] s t).2 = true) : s.fill (lk (mt [] s t).1) = t := mt_up s t [] h fun _ _ e => e
theorem mt_finds {s : Fm} {th : Str → Option Fm} : (mt [] s (s.fill th)).2 = true := (mt_dn s _ [] rfl fun n w h => by cases h).1
/-- parts, one by one -/
def mtF (p : Tab × Bool) (z : Fm × Fm) : Tab × Bool := if p.2 = true then mt p.1 z.1 z.2 else p
def mtS (l : Tab) (zs : List (Fm × Fm)) : Tab × Bool := zs.foldl mtF (l, true)
theorem mt_args {s t : Fm} {l : Tab} (h : s.isN = false) (hh : s.hd = t.hd) : mt l s t = mtS l (s.args.zip t.args) := by
  cases s with
  | name x => cases h
  | one =>
    cases t with
    | one => rfl
    | name x => exact absurd hh (by simp only [Fm.hd]; decide)
    | none => exact absurd hh (by simp only [Fm.hd]; decide)
    | bin j a b => cases j <;> exact absurd hh (by simp only [Fm.hd, Jn.str]; decide)
  | none =>
    cases t with
    | none => rfl
    | name x => exact absurd hh (by simp only [Fm.hd]; decide)
    | one => exact absurd hh (by simp only [Fm.hd]; decide)
    | bin j a b => cases j <;> exact absurd hh (by simp only [Fm.hd, Jn.str]; decide)
  | bin j a b =>
    cases t with
    | bin k c d =>
      have e : j = k := Jn.inj hh
      show (if j = k then (if (mt l a c).2 = true then mt (mt l a c).1 b d else mt l a c) else (l, false)) = _
      rw [if_pos e]
      rfl
    | name x => exact absurd hh.symm (fun z => Fm.hd_v (t := .bin j a b) rfl z.symm)
    | one => cases j <;> exact absurd hh (by simp only [Fm.hd, Jn.str]; decide)
    | none => cases j <;> exact absurd hh (by simp only [Fm.hd, Jn.str]; decide)
theorem mt_hd {s t : Fm} {l : Tab} (h : s.isN = false) (hh : s.hd ≠ t.hd) : mt l s t = (l, false) := by
  cases s with
  | name x => cases h
  | one =>
    cases t with
    | one => exact absurd rfl hh
    | _ => rfl
  | none =>
    cases t with
    | none => exact absurd rfl hh
    | _ => rfl
  | bin j a b =>
    cases t with
    | bin k c d =>
      have e : ¬ j = k := fun z => hh (congrArg Jn.str z)
      show (if j = k then (if (mt l a c).2 = true then mt (mt l a c).1 b d else mt l a c) else (l, false)) = _
      rw [if_neg e]
    | _ => rfl
theorem mtF_no : ∀ (zs : List (Fm × Fm)) (p : Tab × Bool), p.2 = false → zs.foldl mtF p = p
  | [], p, h => rfl
  | z :: zs, p, h => by
    have e : mtF p z = p := by unfold mtF; rw [if_neg (by rw [h]; decide)]
    rw [List.foldl_cons, e]
    exact mtF_no zs p h
theorem mtS_stuck {l : Tab} {zs : List (Fm × Fm)} {j : Nat} (h : (mtS l (zs.take j)).2 = false) : mtS l zs = mtS l (zs.take j) := by
  have : mtS l zs = (zs.drop j).foldl mtF (mtS l (zs.take j)) := by
    show zs.foldl mtF (l, true) = (zs.drop j).foldl mtF ((zs.take j).foldl mtF (l, true))
    rw [← List.foldl_append, List.take_append_drop]
  rw [this, mtF_no _ _ h]
theorem mtS_next {l : Tab} {zs : List (Fm × Fm)} {j : Nat} {z : Fm × Fm} (h : (mtS l (zs.take j)).2 = true) (hz : zs[j]? = some z) : mtS l (zs.take (j + 1)) = mt (mtS l (zs.take j)).1 z.1 z.2 := by
  have : mtS l (zs.take (j + 1)) = mtF (mtS l (zs.take j)) z := by
    rw [take_snoc hz]
    unfold mtS
    rw [List.foldl_append]; rfl
  rw [this]
  unfold mtF
  rw [if_pos h]
theorem mtS_ti {NS : List Str} {l : Tab} (h : TbI NS l) : ∀ {zs : List (Fm × Fm)}, (∀ z ∈ zs, (∀ x ∈ z.1.names, x ∈ NS) ∧ (∀ x ∈ z.2.names, x ∈ NS) ∧ z.2.dep ≤ 40) → TbI NS (mtS l zs).1 := by
  intro zs hz
  unfold mtS
  have : ∀ (zs : List (Fm × Fm)) (p : Tab × Bool), TbI NS p.1 → (∀ z ∈ zs, (∀ x ∈ z.1.names, x ∈ NS) ∧ (∀ x ∈ z.2.names, x ∈ NS) ∧ z.2.dep ≤ 40) → TbI NS (zs.foldl mtF p).1 := by
    intro zs
    induction zs with
    | nil => exact fun p h _ => h
    | cons z zs ih =>
      intro p h hz
      rw [List.foldl_cons]
      refine ih _ ?_ fun z' hm => hz z' (List.mem_cons_of_mem _ hm)
      unfold mtF
      obtain ⟨h1, h2, h3⟩ := hz z List.mem_cons_self
      split
      · exact mt_ti z.1 z.2 _ h h1 h2 h3
      · exact h
  exact this zs _ h hz
end Sq
set_option Elab.async false
set_option linter.all false
set_option maxRecDepth 100000
set_option maxHeartbeats 2000000
namespace Sq
open PySem PySem.Spec PyProof.Rows L2
/-! ### names in their order, and plain names -/
def ABC : List Str := ["a", "b", "c"]
def gth : List Str → Fm → List Str
  | ns, .name x => if x ∈ ns then ns else ns ++ [x]
  | ns, .one => ns
  | ns, .none => ns
  | ns, .bin _ s t => gth (gth ns s) t
theorem gth_nd : ∀ (t : Fm) {ns : List Str}, ns.Nodup → (gth ns t).Nodup
  | .name x, ns, h => by
    unfold gth
    split
    · exact h
    · rename_i z
      exact List.nodup_append.mpr ⟨h, by simp, fun a ha b hb e => by
        have : b = x := by simpa using hb
        subst this e
        exact z ha⟩
  | .one, ns, h => h
  | .none, ns, h => h
  | .bin _ s t, ns, h => gth_nd t (gth_nd s h)
theorem gth_mem {x : Str} : ∀ (t : Fm) {ns : List Str}, x ∈ gth ns t ↔ x ∈ ns ∨ x ∈ t.names
  | .name y, ns => by
    unfold gth
    split
    · rename_i z
      simp only [Fm.names, List.mem_singleton]
      exact ⟨.inl, fun h => h.elim id fun e => e ▸ z⟩
    · simp [Fm.names]
  | .one, ns => by simp [gth, Fm.names]
  | .none, ns => by simp [gth, Fm.names]
  | .bin _ s t, ns => by
    show x ∈ gth (gth ns s) t ↔ _
    rw [gth_mem t, gth_mem s, Fm.names, List.mem_append, or_assoc]
/-- names given other names, one by one -/
theorem gth_map {s : Str → Option Fm} {f : Str → Str} : ∀ (t : Fm) {ns : List Str}, (∀ x ∈ t.names, s x = some (.name (f x))) → (∀ x, x ∈ ns ∨ x ∈ t.names → ∀ y, y ∈ ns ∨ y ∈ t.names → f x = f y → x = y) → gth (ns.map f) (t.fill s) = (gth ns t).map f
  | .name x, ns, h, inj => by
    have e : (Fm.name x).fill s = .name (f x) := by show (s x).getD _ = _; rw [h x (by simp [Fm.names])]; rfl
    rw [e]
    unfold gth
    by_cases hx : x ∈ ns
    · rw [if_pos (List.mem_map.mpr ⟨x, hx, rfl⟩), if_pos hx]
    · rw [if_neg hx, if_neg, List.map_append, List.map_singleton]
      intro z
      obtain ⟨y, hy, e⟩ := List.mem_map.mp z
      have := inj y (.inl hy) x (.inr (by simp [Fm.names])) e
      exact hx (this ▸ hy)
  | .one, ns, _, _ => rfl
  | .none, ns, _, _ => rfl
  | .bin j a b, ns, h, inj => by
    show gth (gth (ns.map f) (a.fill s)) (b.fill s) = (gth (gth ns a) b).map f
    rw [gth_map a (fun x hx => h x (List.mem_append_left _ hx)) fun x hx y hy => inj x (hx.imp_right (List.mem_append_left _)) y (hy.imp_right (List.mem_append_left _))]
    have tr : ∀ x, x ∈ gth ns a ∨ x ∈ b.names → x ∈ ns ∨ x ∈ (Fm.bin j a b).names := fun x hx => by
      rcases hx with hx | hx
      · rcases (gth_mem a).mp hx with z | z
        · exact .inl z
        · exact .inr (List.mem_append_left _ z)
      · exact .inr (List.mem_append_right _ hx)
    exact gth_map b (fun x hx => h x (List.mem_append_right _ hx)) fun x hx y hy => inj x (tr x hx) y (tr y hy)
def tabP (ns : List Str) : Tab := (ns.zip ABC).map fun p => (p.1, .name p.2)
/-- a formula in plain names -/
def pl (t : Fm) : Fm := t.fill (lk (tabP (gth [] t)))
def ixS : List Str → Str → Nat
  | [], _ => 0
  | y :: l, x => if y = x then 0 else ixS l x + 1
theorem lk_zip {x : Str} : ∀ {ns bs : List Str}, x ∈ ns → ns.length ≤ bs.length → lk ((ns.zip bs).map fun p => (p.1, Fm.name p.2)) x = some (.name (bs.getD (ixS ns x) ""))
  | n :: ns, b :: bs, hx, hl => by
    simp only [List.zip_cons_cons, List.map_cons, lk]
    by_cases e : n = x
    · subst e
      have : ixS (n :: ns) n = 0 := if_pos rfl
      rw [if_pos rfl, this]; rfl
    · rw [if_neg e]
      have hx' : x ∈ ns := (List.mem_cons.mp hx).resolve_left fun z => e z.symm
      rw [lk_zip hx' (by simpa using hl)]
      have : ixS (n :: ns) x = ixS ns x + 1 := by simp [ixS, e]
      rw [this]
      rfl
  | _ :: _, [], _, hl => by simp at hl
def nmP (ns : List Str) (x : Str) : Str := ABC.getD (ixS ns x) ""
theorem map_nm : ∀ {ns : List Str}, ns.Nodup → ns.length ≤ 3 → ns.map (nmP ns) = ABC.take ns.length
  | [], _, _ => rfl
  | [a], _, _ => by simp [nmP, ABC, ixS]
  | [a, b], h, _ => by
    have : a ≠ b := by simpa using h
    simp [nmP, ABC, ixS, this]
  | [a, b, c], h, _ => by
    have : (¬ a = b ∧ ¬ a = c) ∧ ¬ b = c := by simpa using h
    obtain ⟨⟨h1, h2⟩, h3⟩ := this
    simp [nmP, ABC, ixS, h1, h2, h3]
  | _ :: _ :: _ :: _ :: _, _, h => by simp at h
theorem nm_inj {ns : List Str} (nd : ns.Nodup) (hl : ns.length ≤ 3) {x y : Str} (hx : x ∈ ns) (hy : y ∈ ns) (e : nmP ns x = nmP ns y) : x = y := by
  have h := map_nm nd hl
  have nd2 : (ns.map (nmP ns)).Nodup := by rw [h]; exact (by decide +kernel : ABC.Nodup).sublist (List.take_sublist _ _)
  obtain ⟨i, hi, rfl⟩ := List.mem_iff_getElem.mp hx
  obtain ⟨j, hj, rfl⟩ := List.mem_iff_getElem.mp hy
  by_cases q : i = j
  · subst q; rfl
  · exfalso
    have nd3 := List.pairwise_iff_getElem.mp nd2
    rcases Nat.lt_or_gt_of_ne q with z | z
    · have := nd3 i j (by simpa using hi) (by simpa using hj) z
      simp only [List.getElem_map] at this
      exact this e
    · have := nd3 j i (by simpa using hj) (by simpa using hi) z
      simp only [List.getElem_map] at this
      exact this e.symm
/-- names a, b, c alone -/
def AbcF (t : Fm) : Prop := ∀ x ∈ t.names, x ∈ ABC
theorem gth_len {t : Fm} (h : AbcF t) : (gth [] t).length ≤ 3 := by
  have := nodup_sub (gth_nd t (ns := []) List.nodup_nil) (m := ABC) fun x hx => ((gth_mem t).mp hx).elim (fun z => by cases z) (h x)
  exact this
theorem gth_pl {t : Fm} (h : AbcF t) : gth [] (pl t) = ABC.take (gth [] t).length := by
  have nd := gth_nd t (ns := []) List.nodup_nil
  have hl := gth_len h
  have := gth_map (s := lk (tabP (gth [] t))) (f := nmP (gth [] t)) t (ns := []) (fun x hx => lk_zip ((gth_mem t).mpr (.inr hx)) (by exact hl)) fun x hx y hy e => nm_inj nd hl ((gth_mem t).mpr hx) ((gth_mem t).mpr hy) e
  rw [List.map_nil] at this
  rw [map_nm nd hl] at this
  exact this
theorem abc_id (n : Nat) (x : Str) : (lk (tabP (ABC.take n)) x).getD (.name x) = .name x := by
  have key : ∀ l : List Str, (lk (l.map fun z => (z, Fm.name z)) x).getD (.name x) = .name x := by
    intro l
    induction l with
    | nil => rfl
    | cons z l ih =>
      simp only [List.map_cons, lk]
      by_cases e : z = x
      · subst e; simp
      · rw [if_neg e]; exact ih
  have e : tabP (ABC.take n) = (ABC.take n).map fun z => (z, Fm.name z) := by
    match n with
    | 0 => rfl
    | 1 => rfl
    | 2 => rfl
    | n + 3 => rw [show ABC.take (n + 3) = ABC from List.take_of_length_le (by show 3 ≤ n + 3; omega)]; rfl
  rw [e]
  exact key _
theorem pl_pl {t : Fm} (h : AbcF t) : pl (pl t) = pl t := by
  unfold pl
  rw [show gth [] (t.fill (lk (tabP (gth [] t)))) = ABC.take (gth [] t).length from gth_pl h]
  have : ∀ u : Fm, u.fill (lk (tabP (ABC.take (gth [] t).length))) = u := by
    intro u
    induction u with
    | name x => exact abc_id _ x
    | one => rfl
    | none => rfl
    | bin j a b ha hb => show Fm.bin _ _ _ = _; rw [ha, hb]
  exact this _
theorem pl_abc {t : Fm} (h : AbcF t) : AbcF (pl t) := fun x hx => by
  have := (gth_mem (pl t) (ns := [])).mpr (.inr hx)
  rw [gth_pl h] at this
  exact List.mem_of_mem_take this
theorem pl_dep (t : Fm) : (pl t).dep = t.dep := by
  have : ∀ (ns : List Str) (u : Fm), (u.fill (lk (tabP ns))).dep = u.dep := by
    intro ns u
    induction u with
    | name x =>
      show ((lk (tabP ns) x).getD _).dep = 1
      cases e : lk (tabP ns) x with
      | none => rfl
      | some w =>
        have := lk_mem e
        obtain ⟨p, _, e2⟩ := List.mem_map.mp this
        cases e2
        rfl
    | one => rfl
    | none => rfl
    | bin j a b ha hb => simp only [Fm.fill, Fm.dep, ha, hb]
  exact this _ t
theorem abc_sorted {hs : List Str} (ha : ∀ x ∈ hs, x ∈ ABC) (nd : hs.Nodup) (so : sortedS hs = true) {n : Nat} (hm : ∀ x, x ∈ hs ↔ x ∈ ABC.take n) : hs = ABC.take n := by
  have xy : ∀ z ∈ hs, z = "a" ∨ z = "b" ∨ z = "c" := fun z hz => by simpa [ABC] using ha z hz
  have key : hs = ABC.filter fun z => decide (z ∈ hs) := by
    match hs, nd, so, xy with
    | [], _, _, _ => decide
    | [a], _, _, xy => rcases xy a (by simp) with e | e | e <;> subst e <;> decide +kernel
    | [a, b], nd, so, xy =>
      rcases xy a (by simp) with e | e | e <;> rcases xy b (by simp) with e' | e' | e' <;> subst e <;> subst e' <;> first | decide +kernel | exact absurd nd (by decide +kernel) | exact absurd so (by decide +kernel)
    | [a, b, c], nd, so, xy =>
      rcases xy a (by simp) with e | e | e <;> rcases xy b (by simp) with e' | e' | e' <;> rcases xy c (by simp) with e2 | e2 | e2 <;> subst e <;> subst e' <;> subst e2 <;> first | decide +kernel | exact absurd nd (by decide +kernel) | exact absurd so (by decide +kernel)
    | a :: b :: c :: d :: r, nd, _, xy =>
      exfalso
      have := nodup_sub nd (m := ABC) fun z hz => by simpa [ABC] using xy z hz
      simp [ABC] at this
  rw [key]
  have : (ABC.filter fun z => decide (z ∈ hs)) = ABC.filter fun z => decide (z ∈ ABC.take n) := List.filter_congr fun z _ => by simp only [hm]
  rw [this]
  match n with
  | 0 => decide +kernel
  | 1 => decide +kernel
  | 2 => decide +kernel
  | n + 3 => rw [show ABC.take (n + 3) = ABC from List.take_of_length_le (by show 3 ≤ n + 3; omega)]; exact (by decide +kernel : (ABC.filter fun z => decide (z ∈ ABC)) = ABC)
theorem tabP_at {ns : List Str} {j : Nat} {n b : Str} (h : ns[j]? = some n) (hb : ABC[j]? = some b) : (tabP ns)[j]? = some (n, .name b) := by
  unfold tabP
  rw [List.getElem?_map, List.getElem?_zip_eq_some.mpr (show ns[j]? = some (n, b).1 ∧ ABC[j]? = some (n, b).2 from ⟨h, hb⟩)]
  rfl
theorem tabP_fst {ns : List Str} (h : ns.length ≤ 3) : (tabP ns).map (·.1) = ns := by
  unfold tabP
  rw [List.map_map]
  show (ns.zip ABC).map Prod.fst = ns
  exact List.map_fst_zip h
theorem tabP_fresh {ns : List Str} (nd : ns.Nodup) (h : ns.length ≤ 3) {j : Nat} {n b : Str} (hn : ns[j]? = some n) (hb : ABC[j]? = some b) : lk ((tabP ns).take j) n = none := by
  have := lk_take (l := tabP ns) (by rw [tabP_fst h]; exact nd) id (tabP_at hn hb)
  simpa using this
end Sq
set_option Elab.async false
set_option linter.all false
set_option maxRecDepth 100000
set_option maxHeartbeats 2000000
namespace Sq
open PySem PySem.Spec PyProof.Rows L2
/-! ### a def's promise where nothing of the interpreter's own is under way -/
structure FnG (P : Program) (w : World) (K : PySem.W.Frag) (mg : Str → Option Value) (base : Heap) (k : Nat) (f : Addr) (fd : FuncData) (ps : List Str) (sp : Sp) : Prop where
  len : ∀ vs H Q E, sp vs H Q E → vs.length = ps.length
  run : ∀ (A : Around) (outer : List Env) (s : Shared) (H : Hp) (args : Args) (us : List Value) (vs : List V) (Q : VK) (E : XK), Room k A → A.guards = some [] → Env0 P w K mg base A outer s H → BindsTo s fd args (ps.zip us) → Vals vs us → sp vs H Q E →
    codeAny (model P w) A (.call (.ref f) args) (CR CX0 outer P w H s Q E) s
structure CalG (P : Program) (w : World) (K : PySem.W.Frag) (mg : Str → Option Value) (base : Heap) (k : Nat) (x : Str) (sp : Sp) : Prop where
  ex : ∃ (f : Addr) (fd : FuncData) (ps : List Str), FnG P w K mg base k f fd ps sp ∧ mg x = some (.ref f) ∧ PySem.W.keepIn K (.ref f) = true ∧ Binds K fd ps []
theorem Dn.calG {P : Program} {w : World} {K : PySem.W.Frag} {mg : Str → Option Value} {base : Heap} {k : Nat} {x : Str} {st : Stmt} {f c : Addr} {fd : FuncData} {N ps : List Str} {sp : Sp} (F : Dn K mg x st f fd c) (hb : BindOk x st ps) (S : FnScope N ps (defScope st)) (len : ∀ vs H Q E, sp vs H Q E → vs.length = ps.length)
    (hbody : ∀ (A : Around) (outer : List Env) (s : Shared) (H : Hp) (vs : List V) (Q : VK) (E : XK), Room k (A.deeper (envOfC x (defScope st) s.heap.objs.size f (.ref c))) → A.guards = some [] → sp vs H Q E →
      ∃ t, PSs (CxD P w K mg base N x st f c A outer s H E) (defBody st) t ∧ t { nx := fun _ H' => Q .non H', rt := Q } (start N vs) H) : CalG P w K mg base (k + 1) x sp :=
  ⟨f, fd, ps, ⟨len, fun A outer s H args us vs Q E hr hg en bd vu hs => run_here F S hr en bd vu (len _ _ _ _ hs) (hbody A outer s H vs Q E (hr.deeper _) hg hs)⟩, F.mgf, F.kp, F.binds hb⟩
theorem pe_cG {X : Cx} {k j : Nat} {x : Str} {sp : Sp} {p pos : Pos} {e : Expr} {es : List Expr} {t : TA} (c : CalG X.prog X.w X.K X.mg X.base k x sp) (hr : Room j X.A) (hk : k ≤ j) (h0 : X.A.guards = some []) (hg : Gl X x) (ha : PA X (e :: es) t)
    (hdb : (x == ("__debug__" : Str)) = false := by decide) (he : starEach (e :: es) X.env = (false, eval e X.env) :: starEach es X.env := by rfl) (hpl : (backTo pos (starEach es X.env)).any (·.1) = false := by rfl) :
    PE X (.Call (.Name x p) (e :: es) [] pos) (tCall sp [] C8.E0 t) := by
  obtain ⟨f, fd, ps, F, hm, kp, hb⟩ := c.ex
  refine ⟨fun pins s σ H Q I h => ?_⟩
  refine wpAny_Call_Name_kw (ld_glob I hg hm ?_ hdb)
  refine PySem.W.callWith_K (h₀ := X.base) I.ok.mod.kin kp (thn (ha.run pos pins s σ H _ I h) fun us s1 ⟨vs, H1, I1, r, q⟩ => ⟨I1.kIn, ?_⟩) he hpl
  have q' : sp vs H1 Q C8.E0 := by simpa using q
  have hl : us.length = ps.length := by rw [← r.length]; exact F.len _ _ _ _ q'
  have bd := hb s1 us I1.kIn (by simpa using hl)
  rw [List.append_nil] at bd
  refine wpAny_call (codeAny_mono (F.run X.A X.stack s1 H1 ⟨us, []⟩ us vs Q C8.E0 (hr.mono hk) h0 I1.env0 bd r q') fun r s' hq => ?_)
  cases r with
  | error e => exact C8.pass0 (E := C8.E0) pins σ H1 s1 e s' I1 hq
  | ok fl =>
    cases fl with
    | ret u => exact I1.after hq
    | next => exact False.elim hq
    | brk => exact False.elim hq
    | cont => exact False.elim hq
end Sq
set_option Elab.async false
set_option linter.all false
set_option maxRecDepth 100000
set_option maxHeartbeats 2000000
namespace Sq
open PySem PySem.Spec PyProof.Rows L2
/-! ### a tuple's text is made anew: behind it a token has been given out -/
section
variable {prog : Program} {w : World}
theorem reprAt1 {as : List Addr} {h₀ : Heap} {d : Nat} {a : Addr} {o : Obj} {items : Array Value} {n : Nat} {ts : List Str}
    (ha : h₀.get? a = some o) (hc : o.cls = .type "tuple") (hd : o.data = .seq items n) (hna : a ∉ as) (hT : ReprAllK prog w as h₀ d items.toList ts)
    {A : Around} {s : Shared} {R : Result → Shared → Prop} {id : String}
    (hcg : (Code.builtin id ⟨[.ref a], []⟩).isGuard = true) (hcu : (A.under (.builtin id ⟨[.ref a], []⟩)).units = A.units + 1)
    (hg : A.guards = some []) (hu : A.units + (d + 1) < cLine) (hk0 : ∀ b o, h₀.get? b = some o → s.heap.get? b = some o)
    (hR : ∀ h' u tk, (∀ b o, s.heap.get? b = some o → h'.get? b = some o) → 1 ≤ tk → R (.ok (.ret (.str (tupleText ts) u))) { s with heap := h', toks := tk })
    (hsz : (tupleText ts).length ≤ sizeLine) :
    wpOwn (model prog w) A (.builtin id ⟨[.ref a], []⟩) (Builtin.tupleReprAt 0 ⟨[.ref a], []⟩) (fun fin s' => match fin with | .done f => R (.ok f) s' | .again c' => c'.quiet = true ∧ codeAny (model prog w) A c' R s') (fun e s' => R (.error e) s') s := by
  have hlen : ts.length = items.size := by simpa using hT.length_eq
  have hp := piled_le_tupleText ts
  rw [tuple_repr_tree, tupleReprUnderWay_eq]
  refine wpOwn_bind (wpOwn_stackTailAny hg (tupGuardF_off _) (tupGuardF_pos _) (wpOwn_of_wpAny ?_))
  show wpAny _ _ (tupleReprRest 0 (.ref a)) _ _ s
  unfold tupleReprRest Builtin.Tuple.tupleItemsOf
  refine wpAny_bind (wpAny_bind (wpAny_seqItems (hk0 _ _ ha) hd (wpAny_pure ?_)))
  rw [← Array.forIn_toList]
  refine wpAny_bind (wpAny_tupFoldK (guards_under_guard hcg hg) (fun b hb => (Clear.nil b).cons (a := a) fun e => hna (e ▸ hb)) (by rw [hcu]; omega) _ ts _ _ _ _ hT (by omega) hk0 fun h' tk hkp => ?_)
  refine wpAny_bind (wpAny_mkStr (wpAny_pure ?_) (by simpa [tupleText, hlen] using hsz))
  simpa [tupleText, hlen] using hR h' tk (tk + 1) hkp (Nat.le_add_left _ _)
theorem str_tok {h₀ : Heap} {a : Addr} {ds : List PyData} {as : List Addr} {A : Around} {E : Value → Shared → Prop} {s : Shared} {Q : Value → Shared → Prop}
    (r : Reads h₀ (.ref a) (.tuple ds) as) (hs : (PyData.tuple ds).showable = true) (hh : (PyData.tuple ds).hasDict = false) (hg : A.guards = some []) (hu : A.units + ((PyData.tuple ds).depth + 4) < cLine) (hk0 : ∀ b o, h₀.get? b = some o → s.heap.get? b = some o)
    (hQ : ∀ h' u tk, (∀ b o, s.heap.get? b = some o → h'.get? b = some o) → 1 ≤ tk → Q (.str (PyData.tuple ds).shown u) { s with heap := h', toks := tk })
    (hsz : (PyData.tuple ds).shown.length ≤ sizeLine) : wpAny (model prog w) A (call (.type "str") [.ref a]) Q E s := by
  cases r with
  | tuple h1 h2 h3 h4 =>
    rename_i o vs n
    simp only [PyData.shown] at hsz hQ
    simp only [PyData.depth] at hu
    refine callType_new F.called_str (by decide) (F.typeCall_str_1 _) (F.newCall_str_1 _) (fun obj => F.args_object_init_2 obj _) F.entry_str_new
      (meets_str_new (S := fun A' R s' => A'.guards = some [] ∧ A'.units + (PyData.depthAll ds + 3) < cLine ∧ (∀ b o, h₀.get? b = some o → s'.heap.get? b = some o) ∧
        ∀ h' u tk, (∀ b o, s'.heap.get? b = some o → h'.get? b = some o) → 1 ≤ tk → R (.ok (.ret (.str (tupleText (PyData.shownAll ds)) u))) { s' with heap := h', toks := tk })
      fun prog' w' A' R s' ⟨g1, g2, g3, g4⟩ => ?_) ⟨hg, by show A.units + 1 + (PyData.depthAll ds + 3) < cLine; omega, hk0, fun h' u tk hk h1 => ⟨typeIs_str _ _ _, hQ h' u tk hk h1⟩⟩
    obtain ⟨bs, hb, hk⟩ := ReprAllK.of_readsAll (prog := prog') (w := w') h4 (by simpa [PyData.showable] using hs) (fun hx => by rw [show (PyData.tuple ds).hasDict = PyData.hasDictAll ds from rfl] at hh; rw [hh] at hx; cases hx) (fun t ht => Nat.le_trans (tupleText_mem_le ht) hsz)
    have hna : a ∉ bs := not_mem_of_deeper (.tuple h1 h2 h3 h4) (by simp only [PyData.depth]; omega) hb
    refine wpAny_strOf_slot rfl (by show A'.units + 1 + 1 < cLine; omega) ⟨o, g3 _ _ h1, h2⟩ F.slot_tuple_str F.slot_tuple_repr ?_
    refine wpAny_call (codeAny_call_builtin_own (Code.quiet_builtin _ (by decide +kernel)) F.entry_tuple_repr (F.slot_tuple_repr.check _ _ _ _ _ _ _ _ ⟨o, g3 _ _ h1, h2⟩ (F.args_tuple_repr_1 _)
      (reprAt1 (R := callEnd _ _) h1 h2 h3 hna hk (isGuard_tuple_repr _) (units_under_tuple_repr _ _) g1 (by show A'.units + 1 + 1 + (PyData.depthAll ds + 1) < cLine; omega) g3 (fun h' u tk hk h1 => ⟨_, _, rfl, g4 h' u tk hk h1⟩) hsz)))
end
/-! ### str(one).replace(..).replace(..).split() -/
/-- an expression behind which a token has been given out -/
def PEk (X : Cx) (e : Expr) (t : TE) : Prop := ∀ (pins : List (Addr × Obj)) (s : Shared) (σ : L2.St) (H : Hp) (Q : VK), Inv X pins σ H s → t σ H Q → wpAny (model X.prog X.w) X.A (eval e X.env) (fun v s' => EP X pins σ Q v s' ∧ 1 ≤ s'.toks) X.xe s
theorem PEk.pe {X : Cx} {e : Expr} {t : TE} (h : PEk X e t) : PE X e t := ⟨fun pins s σ H Q I q => thn (h pins s σ H Q I q) fun _ _ z => z.1⟩
section
variable {X : Cx} (K : PySem.W.Frag) {e o : Expr} {t : TA} {to : TE} {p pos apos : Pos} {y z : Str} {j k : Nat} {c0 c1 : Pos}
theorem pk_str (h0 : X.A.guards = some []) (hu : X.A.units + 90 < cLine) (hg : Gl X "str") (hm : X.mg "str" = none) (ha : PA X [e] t) (he : starEach [e] X.env = (false, eval e X.env) :: starEach [] X.env := by rfl)
    (hpl : (backTo pos (starEach [] X.env)).any (·.1) = false := by rfl) (hK : X.K = K := by rfl) : PEk X (.Call (.Name "str" p) [e] [] pos) (tCB (rStrT K) t) := by
  subst hK
  intro pins s σ H Q I h
  refine wpAny_Call_Name_kw (ld_blt I hg hm boot_str ?_ (by decide) (by decide))
  refine PyProof.Rows.callWith_type1 (thn (ha.run pos pins s σ H _ I h) fun us s1 ⟨vs, H1, I1, r, q1⟩ => ?_) he hpl
  obtain ⟨v, ds, rfl, hd, sh, sw, sz, q⟩ := q1
  obtain ⟨u, rfl, rx⟩ := vals1 r
  obtain ⟨as, r1⟩ := Dp.reads I1 _ v u hd.dp rx
  cases hd with
  | tup g1 g2 =>
    cases rx
    have hdep := SeqAt.depth_of_shaped sh
    have hlay := SeqAt.canLay_of_shaped sh
    exact str_tok r1 sw (PyData.hasDict_of_canLay _ hlay) h0 (by omega) (fun b o e => e) (fun h' u tk hk h1 => ⟨⟨.str _, H1, I1.kept hk, ⟨_, rfl⟩, q⟩, h1⟩) sz
theorem pk_repl (ho : PEk X o to) (hyz : (y == z) = false := by decide)
    (hst : starEach [.Constant (.str y) j c0, .Constant (.str z) k c1] X.env = [(false, eval (.Constant (.str y) j c0) X.env), (false, eval (.Constant (.str z) k c1) X.env)] := by rfl)
    (hbase : attributeBase o "replace" X.env (eval o X.env) = eval o X.env := by rfl) (hline : (apos.endLine == pos.line) = true := by rfl) :
    PEk X (.Call (.Attribute o "replace" apos) [.Constant (.str y) j c0, .Constant (.str z) k c1] [] pos) (CwR.tReplC to y z) := by
  intro pins s σ H Q I h
  refine PySem.Call_method2 hbase hst hline (thn (ho pins s σ H _ I h) fun v s1 q => ?_)
  obtain ⟨⟨v', H1, I1, r1, x, e1, hb, q⟩, hk⟩ := q
  subst e1
  obtain ⟨tx, e2⟩ := r1
  subst e2
  refine ⟨"str", _, PySem.F.plainAttrs_str, PySem.F.slot_str_replace, PySem.F.type_str_replace, typeIs_str _ _ _, (fun _ e => nomatch e), Calls.callWith_builtin rfl (Calls.evalArgs_plain (Calls.spliced_cons ?_))⟩
  refine Calls.Constant_str (Calls.spliced_cons (Calls.Constant_str (Calls.spliced_nil ?_)))
  refine wpAny_mono (PySem.wpAny_toks (PySem.SC.replace (Q := fun v s' => EP X pins σ Q v s') (by show s1.toks ≠ 0; omega) (by show s1.toks + 1 ≠ 0; omega) (by show s1.toks ≠ s1.toks + 1; omega) hyz hb fun t' k => ⟨.str (Txt.replace x y z), H1, I1.tok k, ⟨t', rfl⟩, q⟩)) (fun v s' q => ⟨q.2, ?_⟩) fun _ _ z => z.2
  have : s1.toks + 1 + 1 ≤ s'.toks := q.1
  omega
end
end Sq
set_option Elab.async false
set_option linter.all false
set_option maxRecDepth 100000
set_option maxHeartbeats 2000000
namespace Sq
open PySem PySem.Spec PyProof.Rows L2
/-! ### list of a text; a list times an int; a dict of pairs; the words of a text -/
def signs (z : Str) : List V := z.cps.toList.map fun c => V.str ⟨#[c]⟩
def rListS : List V → Hp → VK → Prop := fun xs H Q => ∃ z : Str, xs = [.str z] ∧ z.length ≤ 64 ∧ ∀ l H2, H l = none → Ext [] H H2 → H2 l = some (.lst (signs z)) → Q (.ref l) H2
theorem vals_at : ∀ {xs : List V} {us : List Value}, xs.length = us.length → (∀ (j : Nat) (x : V) (u : Value), xs[j]? = some x → us[j]? = some u → RelV x u) → Vals xs us
  | [], [], _, _ => .nil
  | x :: xs, u :: us, h, f => .cons (f 0 x u rfl rfl) (vals_at (by simpa using h) fun j y w e1 e2 => f (j + 1) y w (by simpa using e1) (by simpa using e2))
section
variable {X : Cx}
theorem call_listS (hc : X.calm = true) : CallR X (.type "list") rListS := by
  intro pins s σ H xs us Q I r h
  obtain ⟨z, rfl, hz, q⟩ := h
  obtain ⟨u, rfl, t, rfl⟩ := vals1 r
  have hs1 : (64 : Nat) ≤ sizeLine := by decide
  have hzs : z.cps.size ≤ 64 := hz
  refine call_list_str (I.ok.hd hc) z t (fun h' tk acc' c' hk hS hi => ?_) (by omega)
  have hv : Vals (signs z) acc'.toList := by
    refine vals_at (by unfold signs; rw [List.length_map, Array.length_toList, Array.length_toList, hi.1]) fun j x u e1 e2 => ?_
    unfold signs at e1
    rw [List.getElem?_map] at e1
    obtain ⟨c, w, g1, rfl⟩ := hi.2 j u (by simpa using e2)
    have g2 : z.cps.toList[j]? = some c := by simpa using g1
    rw [g2] at e1
    cases e1
    exact ⟨w, rfl⟩
  have hl : (signs z).length ≤ sizeLine := by unfold signs; rw [List.length_map, Array.length_toList]; omega
  exact ⟨.ref s.heap.objs.size, _, I.laid (t' := tk) hk (Nat.le_refl _) (show ObjOk X.prog X.w _ h' _ (.lst (signs z)) from ⟨hl, acc'.toList, c', hv, by simpa using hS⟩), rfl, q _ _ (I.hok.fresh (Nat.le_refl _)) (Ext.new (I.hok.fresh (Nat.le_refl _))) upd_same⟩
/-- [x] * k -/
def rRepF : R2 := fun x y H Q => ∃ l k xs, x = .ref l ∧ y = .int k ∧ H l = some (.lst xs) ∧ 0 ≤ k ∧ k ≤ 64 ∧ xs.length ≤ 64 ∧ ∀ p H2, H p = none → Ext [] H H2 → H2 p = some (.lst (List.replicate k.toNat xs).flatten) → Q (.ref p) H2
theorem op_repF : OpR X (binaryOp .Mult) rRepF := fun pins s σ H x y v u Q I rx ry ⟨l, k, xs, e1, e2, hl, h0, h1, h2, q⟩ =>
  op_rep pins s σ H x y v u Q I rx ry ⟨l, k, xs, e1, e2, hl, by omega, by omega, (by
    have : xs.length * k.toNat ≤ 64 * 64 := Nat.mul_le_mul h2 (by omega)
    have hs : (64 * 64 : Nat) ≤ sizeLine := by decide
    omega), fun p hp => q p _ hp (Ext.new hp) upd_same⟩
/-- dict(xs) of pairs -/
def rDictP (K : PySem.W.Frag) : List V → Hp → VK → Prop := fun xs H Q => ∃ (a : Addr) (ps : List Addr) (kvs : List (Key × V)), xs = [.ref a] ∧ H a = some (.lst (ps.map V.ref)) ∧ Paired (fun p kv => tupF K H p = some [kV kv.1, kv.2]) ps kvs ∧
  ∀ p H2, H p = none → Ext [] H H2 → H2 p = some (.dK (mergeK [] kvs)) → Q (.ref p) H2
theorem paired_imp {α β : Type} {R R' : α → β → Prop} (h : ∀ a b, R a b → R' a b) : ∀ {xs : List α} {ys : List β}, Paired R xs ys → Paired R' xs ys
  | _, _, .nil => .nil
  | _, _, .cons r t => .cons (h _ _ r) (paired_imp h t)
theorem call_dictPK (K : PySem.W.Frag) (hc : X.calm = true) (hK : X.K = K := by rfl) : CallR X (.type "dict") (rDictP K) := by
  subst hK
  exact fun pins s σ H xs us Q I r ⟨a, ps, kvs, e, ha, hp, q⟩ => call_dictP hc pins s σ H xs us Q I r ⟨a, ps, kvs, e, SqL.of ha, paired_imp (fun _ _ h => tupF_sq h) hp, fun p h => q p _ h (Ext.new h) upd_same⟩
/-- x.split() -/
def tWords (to : TE) : TE := fun σ H Q => to σ H fun v H1 => ∃ x : Str, v = .str x ∧ x.length ≤ 100000 ∧ ∀ p H2, H1 p = none → Ext [] H1 H2 → H2 p = some (.lst ((Txt.words x).map V.str)) → Q (.ref p) H2
theorem pe_wordsF {o : Expr} {to : TE} {apos pos : Pos} (ho : PE X o to) (hbase : attributeBase o "split" X.env (eval o X.env) = eval o X.env := by rfl) (hline : (apos.endLine == pos.line) = true := by rfl) :
    PE X (.Call (.Attribute o "split" apos) [] [] pos) (tWords to) := by
  have hs : (100000 : Nat) + 2 ≤ sizeLine := by decide
  have ho2 : PE X o (fun σ H k => ∃ k', to σ H k' ∧ ∀ v H1, k' v H1 → k v H1) := ⟨fun pins s σ H Q I ⟨k', h, m⟩ => thn (ho.run pins s σ H _ I h) fun v s1 ⟨x, H1, I1, r1, q1⟩ => ⟨x, H1, I1, r1, m _ _ q1⟩⟩
  exact ⟨fun pins s σ H Q I h => (pe_words ho2 hbase hline).run pins s σ H Q I ⟨_, h, fun v H1 ⟨x, e, hx, q⟩ => ⟨⟨x, e⟩, x, e, rfl, by omega, fun p hp => q p _ hp (Ext.new hp) upd_same⟩⟩⟩
end
end Sq
set_option Elab.async false
set_option linter.all false
set_option maxRecDepth 100000
set_option maxHeartbeats 2000000
namespace Sq
open PySem PySem.Spec PyProof.Rows L2
/-! ### the words of a formula's text -/
def ftxt (t : Fm) : List Nat := t.data.shown.cps.toList
def LL (s : String) : List Nat := (Str.ofString s).cps.toList
theorem ftup3 (x y z : Str) : (tupleText [x, y, z]).cps.toList = LL "(" ++ (x.cps.toList ++ (LL ", " ++ (y.cps.toList ++ (LL ", " ++ (z.cps.toList ++ LL ")"))))) := by
  show ((("(" : Str) ++ (x ++ ", " ++ (y ++ ", " ++ z))) ++ (")" : Str)).cps.toList = _
  simp only [Str.cps_append, Array.toList_append, List.append_assoc]
  rfl
def jtx : Jn → List Nat
  | .to => LL "('to', "
  | .both => LL "('both', "
  | .either => LL "('either', "
theorem ftxt_bin (j : Jn) (t u : Fm) : ftxt (.bin j t u) = jtx j ++ (ftxt t ++ (LL ", " ++ (ftxt u ++ LL ")"))) := by
  have e : LL "(" ++ ((reprText j.str).cps.toList ++ LL ", ") = jtx j := by cases j <;> decide +kernel
  show (tupleText [reprText j.str, t.data.shown, u.data.shown]).cps.toList = _
  rw [ftup3, ← e]
  simp only [List.append_assoc]
  rfl
theorem ftxt_one : ftxt .one = LL "('one',)" := by decide +kernel
theorem ftxt_none : ftxt .none = LL "('none',)" := by decide +kernel
theorem ftxt_a : ftxt (.name "a") = LL "('name', 'a')" := by decide +kernel
theorem ftxt_b : ftxt (.name "b") = LL "('name', 'b')" := by decide +kernel
theorem ftxt_c : ftxt (.name "c") = LL "('name', 'c')" := by decide +kernel
theorem abc_in {x : Str} (h : x ∈ ABC) : x = "a" ∨ x = "b" ∨ x = "c" := by simpa [ABC] using h
theorem ftxt_len : ∀ t : Fm, AbcF t → (ftxt t).length ≤ 14 * t.sz
  | .name x, h => by
    rcases abc_in (h x (by simp [Fm.names])) with e | e | e <;> subst e
    · rw [ftxt_a]; decide
    · rw [ftxt_b]; decide
    · rw [ftxt_c]; decide
  | .one, _ => by rw [ftxt_one]; decide
  | .none, _ => by rw [ftxt_none]; decide
  | .bin j t u, h => by
    have h1 := ftxt_len t fun x hx => h x (List.mem_append_left _ hx)
    have h2 := ftxt_len u fun x hx => h x (List.mem_append_right _ hx)
    have hj : (jtx j).length ≤ 11 := by cases j <;> decide
    have c1 : (LL ", ").length = 2 := by decide
    have c2 : (LL ")").length = 1 := by decide
    rw [ftxt_bin]
    simp only [List.length_append, Fm.sz, c1, c2]; omega
theorem fshow_ok : ∀ t : Fm, t.data.showable = true
  | .name x => by simp [Fm.data, PyData.showable, PyData.showableAll]
  | .one => by simp [Fm.data, PyData.showable, PyData.showableAll]
  | .none => by simp [Fm.data, PyData.showable, PyData.showableAll]
  | .bin j t u => by simp [Fm.data, PyData.showable, PyData.showableAll, fshow_ok t, fshow_ok u]
/-- a sign put for a sign -/
def sub1 (c d e : Nat) : Nat := if e = c then d else e
theorem repl1 (c d : Nat) : ∀ l : List Nat, PySem.StrLaws.replL [c] [d] l = l.map (sub1 c d)
  | [] => PySem.StrLaws.replL_nil
  | e :: l => by
    by_cases h : e = c
    · subst h
      rw [PySem.StrLaws.replL_hit (by simp) (by simp)]
      show [d] ++ PySem.StrLaws.replL [e] [d] l = _
      rw [repl1 e d l, List.map_cons]
      simp [sub1]
    · rw [PySem.StrLaws.replL_miss (by simpa using h), repl1 c d l, List.map_cons]
      simp [sub1, h]
theorem repl_tl (x : Str) (c d : Nat) : (Txt.replace x ⟨#[c]⟩ ⟨#[d]⟩).cps.toList = x.cps.toList.map (sub1 c d) := by
  rw [PySem.StrLaws.replace_list (show 1 ≤ (#[c] : Array Nat).size from Nat.le_refl 1), ← repl1]
def gap (e : Nat) : Nat := sub1 39 32 (sub1 40 32 e)
theorem wf_shift : ∀ (l : List Nat) (ws : List (List Nat)) (u : List Nat), l.foldl TL.wstep (ws, u) = (ws ++ (l.foldl TL.wstep ([], u)).1, (l.foldl TL.wstep ([], u)).2)
  | [], ws, u => by simp
  | c :: l, ws, u => by
    rw [List.foldl_cons, List.foldl_cons]
    by_cases hc : Unicode.isSpace c = true
    · by_cases hu : u = []
      · have e : ∀ ws : List (List Nat), TL.wstep (ws, u) c = (ws, u) := fun ws => (if_pos hc).trans (if_pos hu)
        rw [e, e]
        exact wf_shift l ws u
      · have e : ∀ ws : List (List Nat), TL.wstep (ws, u) c = (ws ++ [u], []) := fun ws => (if_pos hc).trans (if_neg hu)
        rw [e, e, wf_shift l (ws ++ [u]), wf_shift l ([] ++ [u])]
        simp
    · have e : ∀ ws : List (List Nat), TL.wstep (ws, u) c = (ws, u ++ [c]) := fun ws => if_neg hc
      rw [e, e]
      exact wf_shift l ws (u ++ [c])
def abcL : List (List Nat) := [[97], [98], [99]]
def keep (ws : List (List Nat)) : List (List Nat) := ws.filter fun w => decide (w ∈ abcL)
theorem keep_app (a b : List (List Nat)) : keep (a ++ b) = keep a ++ keep b := List.filter_append ..
theorem keep_no {w : List Nat} {c : Nat} (hc : c ≠ 97 ∧ c ≠ 98 ∧ c ≠ 99) : keep [w ++ [c]] = [] := by
  unfold keep
  rw [List.filter_cons, if_neg]
  · rfl
  · intro h
    have h : w ++ [c] ∈ abcL := of_decide_eq_true h
    have h' : w ++ [c] = [97] ∨ w ++ [c] = [98] ∨ w ++ [c] = [99] := by simpa [abcL] using h
    have key : ∀ d, w ++ [c] = [d] → c = d := fun d e => by
      cases w with
      | nil => simpa using e
      | cons a r => simp at e
    rcases h' with e | e | e
    · exact hc.1 (key _ e)
    · exact hc.2.1 (key _ e)
    · exact hc.2.2 (key _ e)
/-- the words behind a formula's text: its names among them, a bracket at the end -/
theorem fm_words : ∀ (t : Fm), AbcF t → ∃ ws r, ((ftxt t).map gap).foldl TL.wstep ([], []) = (ws, r ++ [41]) ∧ keep ws = t.names.map fun x => x.cps.toList
  | .name x, h => by
    rcases abc_in (h x (by simp [Fm.names])) with e | e | e <;> subst e
    · rw [ftxt_a]; exact ⟨[LL "name", LL ",", LL "a"], [], by decide +kernel, by decide +kernel⟩
    · rw [ftxt_b]; exact ⟨[LL "name", LL ",", LL "b"], [], by decide +kernel, by decide +kernel⟩
    · rw [ftxt_c]; exact ⟨[LL "name", LL ",", LL "c"], [], by decide +kernel, by decide +kernel⟩
  | .one, _ => by rw [ftxt_one]; exact ⟨[LL "one"], LL ",", by decide +kernel, by decide +kernel⟩
  | .none, _ => by rw [ftxt_none]; exact ⟨[LL "none"], LL ",", by decide +kernel, by decide +kernel⟩
  | .bin j t u, h => by
    obtain ⟨w1, r1, e1, k1⟩ := fm_words t fun x hx => h x (List.mem_append_left _ hx)
    obtain ⟨w2, r2, e2, k2⟩ := fm_words u fun x hx => h x (List.mem_append_right _ hx)
    obtain ⟨wj, ej, kj⟩ : ∃ wj, ((jtx j).map gap).foldl TL.wstep ([], []) = (wj, []) ∧ keep wj = [] := by
      cases j
      · exact ⟨[LL "to", LL ","], by decide +kernel, by decide +kernel⟩
      · exact ⟨[LL "both", LL ","], by decide +kernel, by decide +kernel⟩
      · exact ⟨[LL "either", LL ","], by decide +kernel, by decide +kernel⟩
    have ec : ∀ (ws : List (List Nat)) (u : List Nat), ((LL ", ").map gap).foldl TL.wstep (ws, u) = (ws ++ [u ++ [44]], []) := fun ws u => by
      have a : TL.wstep (ws, u) 44 = (ws, u ++ [44]) := if_neg (by decide +kernel)
      have b : TL.wstep (ws, u ++ [44]) 32 = (ws ++ [u ++ [44]], []) := (if_pos (by decide +kernel)).trans (if_neg (by simp))
      show TL.wstep (TL.wstep (ws, u) 44) 32 = _
      rw [a, b]
    have ez : ∀ (ws : List (List Nat)) (u : List Nat), ((LL ")").map gap).foldl TL.wstep (ws, u) = (ws, u ++ [41]) := fun ws u => by
      show TL.wstep (ws, u) 41 = _
      exact if_neg (by decide +kernel)
    refine ⟨wj ++ (w1 ++ ([(r1 ++ [41]) ++ [44]] ++ w2)), r2 ++ [41], ?_, ?_⟩
    · rw [ftxt_bin]
      simp only [List.map_append, List.foldl_append]
      rw [ej, wf_shift _ wj, e1]
      rw [ec, wf_shift _ (_ ++ _), e2, ez]
      simp only [List.append_assoc]
    · rw [keep_app, keep_app, keep_app, kj, k1, k2, keep_no (by decide)]
      show _ = (t.names ++ u.names).map _
      rw [List.map_append]
      rfl
def ostep (ns : List Str) (w : Str) : List Str := if w ∈ ABC ∧ w ∉ ns then ns ++ [w] else ns
theorem ost_ok {ws ns : List Str} (nd : ns.Nodup) (ha : ∀ x ∈ ns, x ∈ ABC) : (ws.foldl ostep ns).Nodup ∧ ∀ x ∈ ws.foldl ostep ns, x ∈ ABC := by
  induction ws generalizing ns with
  | nil => exact ⟨nd, ha⟩
  | cons w ws ih =>
    rw [List.foldl_cons]
    unfold ostep
    split
    · rename_i z
      refine ih (List.nodup_append.mpr ⟨nd, by simp, fun a h b hb e => ?_⟩) fun x hx => ?_
      · have : b = w := by simpa using hb
        subst this e
        exact z.2 h
      · rcases List.mem_append.mp hx with q | q
        · exact ha x q
        · have : x = w := by simpa using q
          rw [this]; exact z.1
    · exact ih nd ha
theorem ost_len (ws : List Str) : (ws.foldl ostep []).length ≤ 3 := by
  obtain ⟨h1, h2⟩ := ost_ok (ws := ws) (ns := []) List.nodup_nil (fun x hx => by cases hx)
  exact nodup_sub h1 h2
theorem ost_keep : ∀ (ws ns : List Str), ws.foldl ostep ns = (ws.filter fun w => decide (w ∈ ABC)).foldl ostep ns
  | [], _ => rfl
  | w :: ws, ns => by
    rw [List.foldl_cons, List.filter_cons]
    by_cases h : w ∈ ABC
    · rw [if_pos (by simpa using h), List.foldl_cons]
      exact ost_keep ws _
    · rw [if_neg (by simpa using h)]
      have e : ostep ns w = ns := if_neg fun z => h z.1
      rw [e]
      exact ost_keep ws ns
theorem ost_gth : ∀ (t : Fm) (ns : List Str), AbcF t → t.names.foldl ostep ns = gth ns t
  | .name x, ns, h => by
    have hx := h x (by simp [Fm.names])
    show ostep ns x = if x ∈ ns then ns else ns ++ [x]
    unfold ostep
    by_cases z : x ∈ ns
    · rw [if_neg fun q => q.2 z, if_pos z]
    · rw [if_pos ⟨hx, z⟩, if_neg z]
  | .one, _, _ => rfl
  | .none, _, _ => rfl
  | .bin _ t u, ns, h => by
    show (t.names ++ u.names).foldl ostep ns = _
    rw [List.foldl_append, ost_gth t ns fun x hx => h x (List.mem_append_left _ hx), ost_gth u _ fun x hx => h x (List.mem_append_right _ hx)]
    rfl
theorem abc_tl {x : Str} : x.cps.toList ∈ abcL ↔ x ∈ ABC := by
  have : abcL = ABC.map fun x => x.cps.toList := by decide +kernel
  rw [this]
  constructor
  · intro h
    obtain ⟨y, hy, e⟩ := List.mem_map.mp h
    have : x = y := by
      obtain ⟨⟨a⟩⟩ := x
      obtain ⟨⟨b⟩⟩ := y
      have : b = a := e
      rw [this]
    rw [this]; exact hy
  · exact fun h => List.mem_map.mpr ⟨x, h, rfl⟩
theorem tl_inj : ∀ {xs ys : List Str}, xs.map (fun x => x.cps.toList) = ys.map (fun x => x.cps.toList) → xs = ys
  | [], [], _ => rfl
  | x :: xs, y :: ys, h => by
    simp only [List.map_cons, List.cons.injEq] at h
    rw [tl_inj h.2]
    obtain ⟨⟨a⟩⟩ := x
    obtain ⟨⟨b⟩⟩ := y
    have : a = b := h.1
    rw [this]
  | [], _ :: _, h => by simp at h
  | _ :: _, [], h => by simp at h
/-- the words of the text, one by one, are the names in their order -/
theorem words_gth {t : Fm} (h : AbcF t) : (Txt.words (Txt.replace (Txt.replace t.data.shown ⟨#[40]⟩ ⟨#[32]⟩) ⟨#[39]⟩ ⟨#[32]⟩)).foldl ostep [] = gth [] t := by
  generalize hx : Txt.replace (Txt.replace t.data.shown ⟨#[40]⟩ ⟨#[32]⟩) ⟨#[39]⟩ ⟨#[32]⟩ = x
  have ex : x.cps.toList = (ftxt t).map gap := by
    rw [← hx, repl_tl, repl_tl, List.map_map]
    rfl
  obtain ⟨ws, r, e, k⟩ := fm_words t h
  have hw : (Txt.words x).map (fun x => x.cps.toList) = ws ++ [r ++ [41]] := by
    have := TL.words_tl x
    rw [show TL.tl x = x.cps.toList from rfl, ex, e] at this
    rw [show (Txt.words x).map (fun x => x.cps.toList) = (Txt.words x).map TL.tl from rfl, this]
    exact if_neg (by simp)
  have hk : ((Txt.words x).filter fun w => decide (w ∈ ABC)) = t.names := by
    refine tl_inj ?_
    have : ((Txt.words x).filter fun w => decide (w ∈ ABC)).map (fun x => x.cps.toList) = keep ((Txt.words x).map fun x => x.cps.toList) := by
      unfold keep
      rw [List.filter_map]
      congr 1
      exact List.filter_congr fun y _ => by simp only [Function.comp, abc_tl]
    rw [this, hw, keep_app, keep_no (by decide), k, List.append_nil]
  rw [ost_keep, hk, ost_gth t [] h]
end Sq
namespace Sq
open PySem L2
def top (i : Nat) : Stmt := PySem.Challenge.pw_sequenthall_k08_most_general_types.main.body.getD i (.Pass ⟨0, 0, 0, 0⟩)
end Sq
set_option Elab.async false
set_option linter.all false
set_option maxRecDepth 100000
set_option maxHeartbeats 2000000
namespace Sq
open PySem PySem.Spec PyProof.Rows L2
local macro_rules | `(tactic| walk_at "rd") => `(tactic| simp only [tCont, tDisp, tPairs, rIndexS, wipe, tNoPart, tDG2, tDGF, tDInF, tDNInF, sDPutF, tDNewF, rSortD, rInS, rInT, rEqLF, tDcF, tDc2F, tLcF, tForF, tAllF, tAnyF, tSumF, iStr, iEnumF, iZipF, iKeysF, iItems, tLZip, tYes, tSeq, tIfS, tNext, tRet, tRetN, tDrop, tTest, tB, tNot, tAnd, tOr, tChain, tOp, tUn, tCB, tCons, tNil, tC, tVar, tIf, tAndV, tOrV, tNotV, tAsg, tPar, tPar3, gName, gSub, gTupF, gCons, gNil, tTupF, tLstF, rI0, rI, rIxF, rIxG, rIxS, rSetF, rSlF, rCatF, rCatL, rTupL, rListT, rListL, rLenT, rLenL, iTupF, iLstF, rAppF, rExtF, rPopF, tBM, tBM0, tSl, tPart, rEq, rNe, tCall, L2.start,
  List.map_cons, List.map_nil, List.length_cons, List.length_nil, Nat.sub_self, List.replicate, List.append_nil, List.cons_append, List.nil_append, List.getElem?_cons_zero, List.getElem?_cons_succ, List.set_cons_zero, List.set_cons_succ,
  exSl, exI, exI2, exB, exS, exR, ex1, ex1', V.int.injEq, V.bl.injEq, V.ref.injEq, V.str.injEq, Option.some.injEq, List.cons.injEq, and_true, true_and, reduceCtorEq, false_and, and_false, or_false, false_or, exists_false, exists_and_left, exists_eq_left', decide_eq_true_eq, decide_true, decide_false, if_false, if_true, ite_true, ite_false, Bool.false_eq_true, Bool.not_true, Bool.not_false, Nat.reduceAdd, Nat.reduceSub, Nat.zero_add, atI_0, atI_1, atI_2, atI_3, ixN_0, ixN_1, ixN_2, cutV_1, cutV_2, Option.some.injEq, HO.lst.injEq, HO.dK.injEq, scal])
local macro_rules | `(tactic| walk_at "rdc") => `(tactic| simp (config := { contextual := true }) only [tCont, tDisp, tPairs, rIndexS, wipe, tNoPart, tDG2, tDGF, tDInF, tDNInF, sDPutF, tDNewF, rSortD, rInS, rInT, rEqLF, tDcF, tDc2F, tLcF, tForF, tAllF, tAnyF, tSumF, iStr, iEnumF, iZipF, iKeysF, iItems, tLZip, tYes, tSeq, tIfS, tNext, tRet, tRetN, tDrop, tTest, tB, tNot, tAnd, tOr, tChain, tOp, tUn, tCB, tCons, tNil, tC, tVar, tIf, tAndV, tOrV, tNotV, tAsg, tPar, tPar3, gName, gSub, gTupF, gCons, gNil, tTupF, tLstF, rI0, rI, rIxF, rIxG, rIxS, rSetF, rSlF, rCatF, rCatL, rTupL, rListT, rListL, rLenT, rLenL, iTupF, iLstF, rAppF, rExtF, rPopF, tBM, tBM0, tSl, tPart, rEq, rNe, tCall, L2.start,
  List.map_cons, List.map_nil, List.length_cons, List.length_nil, Nat.sub_self, List.replicate, List.append_nil, List.cons_append, List.nil_append, List.getElem?_cons_zero, List.getElem?_cons_succ, List.set_cons_zero, List.set_cons_succ,
  exSl, exI, exI2, exB, exS, exR, ex1, ex1', V.int.injEq, V.bl.injEq, V.ref.injEq, V.str.injEq, Option.some.injEq, List.cons.injEq, and_true, true_and, reduceCtorEq, false_and, and_false, or_false, false_or, exists_false, exists_and_left, exists_eq_left', decide_eq_true_eq, decide_true, decide_false, if_false, if_true, ite_true, ite_false, Bool.false_eq_true, Bool.not_true, Bool.not_false, Nat.reduceAdd, Nat.reduceSub, Nat.zero_add, atI_0, atI_1, atI_2, atI_3, ixN_0, ixN_1, ixN_2, cutV_1, cutV_2, Option.some.injEq, HO.lst.injEq, HO.dK.injEq, scal, *])
abbrev s__law_dice : Stmt := top 26
abbrev s__law_roll : Stmt := top 27
abbrev s__law_rounds : Stmt := top 28
/-- names that are still the built-in ones -/
structure Bl (mg : Str → Option Value) : Prop where
  b_len : mg "len" = none
  b_abs : mg "abs" = none
  b_int : mg "int" = none
  b_str : mg "str" = none
  b_tuple : mg "tuple" = none
  b_list : mg "list" = none
  b_dict : mg "dict" = none
  b_sorted : mg "sorted" = none
  b_sum : mg "sum" = none
  b_any : mg "any" = none
  b_all : mg "all" = none
  b_max : mg "max" = none
  b_min : mg "min" = none
  b_range : mg "range" = none
  b_zip : mg "zip" = none
  b_enumerate : mg "enumerate" = none
  b_reversed : mg "reversed" = none
  b_isinstance : mg "isinstance" = none
/-- three numbers in a list of their own -/
def DiceAt (H : Hp) (a : Addr) : Prop := ∃ x y z : Int, H a = some (.lst [.int x, .int y, .int z])
def spDice : Sp := fun vs H Q _ => ∃ c : Int, vs = [.int c] ∧ ∀ p H', H p = none → Ext [] H H' → DiceAt H' p → Q (.ref p) H'
def spRoll : Sp := fun vs H Q _ => ∃ (a : Addr) (m : Int), vs = [.ref a, .int m] ∧ DiceAt H a ∧ 0 < m ∧ m < 1000000 ∧ ∀ r H', 0 ≤ r → r < m → Ext [a] H H' → DiceAt H' a → Q (.int r) H'
section
variable {P : Program} {w : World} {K : PySem.W.Frag} {mg : Str → Option Value} {base : Heap} {f c : Addr} {fd : FuncData}
theorem sc__law_dice : FnScope ["cell"] ["cell"] (defScope s__law_dice) := ⟨rfl, rfl, rfl, by decide +kernel, rfl, by decide +kernel, by decide +kernel⟩
theorem ok_dice (F : Dn K mg "_law_dice" s__law_dice f fd c) (B : Bl mg) : Cal P w K mg base 1 "_law_dice" spDice := by
  refine F.cal (ps := ["cell"]) (fun _ _ _ _ _ _ us hl => match us, hl with | [_], _ => rfl) sc__law_dice (fun vs H Q E h => ?_) (fun A outer s H vs Q E hr h => ?_)
  · obtain ⟨_, rfl, _⟩ := h; rfl
  obtain ⟨n, rfl, q⟩ := h
  refine ⟨_, (pss_cons (ps_if (pt_chain op_lt op_lt (pe_op op_sub pe_int pe_int) (pv 0) pe_int) (pss_one (ps_ret (pe_lstF (pa_cons (pe_callB call_abs (by rfl) B.b_abs (by decide +kernel) (pa_cons (pv 0) pa_nil)) (pa_cons pe_int (pa_cons pe_int pa_nil)))))) pss_nil)
    (pss_one (ps_ret (pe_lstF (pa_cons (pv 0) (pa_cons (pe_op op_add pe_int (pe_op op_mod (pe_callTy call_int1 (by rfl) B.b_int (by decide +kernel) (pa_cons (pv 0) pa_nil)) pe_int)) (pa_cons (pe_callTy call_int1 (by rfl) B.b_int (by decide +kernel) (pa_cons (pe_cmpR op_ge (pv 0) (pe_op op_pow pe_int pe_int) (nomark _)) pa_nil)) pa_nil))))))), ?_⟩
  walk_at "rd"
  have z : 3 ≤ sizeLine := by decide
  have e : ∀ x y u : Int, 3 ≤ sizeLine ∧ ∀ p H2, H p = none → Ext [] H H2 → H2 p = some (.lst [.int x, .int y, .int u]) → Q (.ref p) H2 := fun x y u => ⟨z, fun p H2 hp e h => q p H2 hp e ⟨x, y, u, h⟩⟩
  have e2 : (0 : Int) < 1009 ∧ CPow 10 18 ∧ 3 ≤ sizeLine ∧ ∀ p H2, H p = none → Ext [] H H2 → H2 p = some (.lst [.int n, .int (1 + n % 1009), .int (if (10 : Int) ^ Int.toNat 18 ≤ n then 1 else 0)]) → Q (.ref p) H2 := ⟨by decide, ⟨by decide, by decide, by decide⟩, e _ _ _⟩
  refine ite2 (fun _ => ite2 (fun _ => e _ _ _) fun _ => e2) fun _ => e2

theorem sc__law_roll : FnScope ["dice", "many", "found"] ["dice", "many"] (defScope s__law_roll) := ⟨rfl, rfl, rfl, by decide +kernel, rfl, by decide +kernel, by decide +kernel⟩
theorem ok_roll (F : Dn K mg "_law_roll" s__law_roll f fd c) (B : Bl mg) : Cal P w K mg base 1 "_law_roll" spRoll := by
  refine F.cal (ps := ["dice", "many"]) (fun _ _ _ _ _ _ us hl => match us, hl with | [_, _], _ => rfl) sc__law_roll (fun vs H Q E h => ?_) (fun A outer s H vs Q E hr h => ?_)
  · obtain ⟨_, _, rfl, _⟩ := h; rfl
  obtain ⟨a, m, rfl, ⟨x, y, u, ha⟩, m0, m1, q⟩ := h
  refine ⟨_, (pss_cons (ps_if (PW.pt (pw_or (pt_cmpR op_eq (pe_ix ix_lstF (pv 0) pe_int (fun _ _ => rfl)) pe_int (nomark _)) (pw_or1 (PW.pt (pw_and (pt_cmpR op_eq (pe_ix ix_lstF (pv 0) pe_int (fun _ _ => rfl)) pe_int (nomark _)) (pw_and1 (pt_cmpR op_gt (pe_ix ix_lstF (pv 0) pe_int (fun _ _ => rfl)) pe_int (nomark _)))))))) (pss_cons (ps_set (i := 2) sc__law_roll.nd rfl (by first | exact Or.inl rfl | exact Or.inr rfl) (pe_op op_mod (pe_callTy call_int1 (by rfl) B.b_int (by decide +kernel) (pa_cons (pe_ix ix_lstF (pv 0) pe_int (fun _ _ => rfl)) pa_nil)) (pv 1)))
    (pss_cons (ps_asg (pe_op op_fdivN (pe_ix ix_lstF (pv 0) pe_int (fun _ _ => rfl)) (pv 1)) (pg_sub (pv 0) pe_int set_lstF))
    (pss_one (ps_ret (pv 2))))) pss_nil)
    (pss_cons (ps_asg pe_int (pg_sub (pv 0) pe_int set_lstF))
    (pss_cons (ps_asg (pe_op op_mod (pe_callTy call_int1 (by rfl) B.b_int (by decide +kernel) (pa_cons (pe_op op_add (pe_op op_add (pe_op op_mul (pe_ix ix_lstF (pv 0) pe_int (fun _ _ => rfl)) pe_int) (pe_op op_mul (pe_ix ix_lstF (pv 0) pe_int (fun _ _ => rfl)) pe_int)) pe_int) pa_nil)) pe_int) (pg_sub (pv 0) pe_int set_lstF))
    (pss_cons (ps_asg (pe_op op_add (pe_ix ix_lstF (pv 0) pe_int (fun _ _ => rfl)) pe_int) (pg_sub (pv 0) pe_int set_lstF))
    (pss_one (ps_ret (pe_op op_mod (pe_callTy call_int1 (by rfl) B.b_int (by decide +kernel) (pa_cons (pe_op op_add (pe_op op_fdivN (pe_ix ix_lstF (pv 0) pe_int (fun _ _ => rfl)) pe_int) (pe_ix ix_lstF (pv 0) pe_int (fun _ _ => rfl))) pa_nil)) (pv 1)))))))), ?_⟩
  walk_at "rd"
  have q' := q
  clear q
  walk_at "rdc"
  have q := q'
  have bot : ∀ {p : Prop}, (∀ H2, Ext [a] H H2 → H2 a = some (HO.lst [V.int x, V.int y, V.int 0]) → CMul x 48271 ∧ CMul y 69621 ∧ (0 : Int) < 2147483647 ∧ ∀ H3, Ext [a] H2 H3 → H3 a = some (HO.lst [V.int ((x * 48271 + y * 69621 + 11) % 2147483647), V.int y, V.int 0]) →
      ∀ H4, Ext [a] H3 H4 → H4 a = some (HO.lst [V.int ((x * 48271 + y * 69621 + 11) % 2147483647), V.int (y + 1), V.int 0]) → CDivN ((x * 48271 + y * 69621 + 11) % 2147483647) 7 ∧
        Q (V.int ((((x * 48271 + y * 69621 + 11) % 2147483647).fdiv 7 + (x * 48271 + y * 69621 + 11) % 2147483647) % m)) H4) := fun {p} H2 e2 _ =>
    ⟨.inr (by decide), .inr (by decide), by decide, fun H3 e3 _ H4 e4 h4 => ⟨⟨by decide, by decide⟩, q _ _ (Int.emod_nonneg _ (by omega)) (Int.emod_lt_of_pos _ m0) ((e2.trans e3).trans e4) ⟨_, _, _, h4⟩⟩⟩
  have top : 0 < m ∧ CDivN x m ∧ ∀ H2, Ext [a] H H2 → H2 a = some (HO.lst [V.int (x.fdiv m), V.int y, V.int u]) → Q (V.int (x % m)) H2 :=
    ⟨m0, ⟨by omega, by omega⟩, fun H2 e2 h2 => q _ _ (Int.emod_nonneg _ (by omega)) (Int.emod_lt_of_pos _ m0) e2 ⟨_, _, _, h2⟩⟩
  by_cases h2 : u = 2
  · subst h2
    rw [if_pos rfl]
    exact ⟨⟨by omega, by omega⟩, top.2.2⟩
  · rw [if_neg h2]
    by_cases h1 : u = 1
    · subst h1
      rw [if_pos rfl]
      by_cases h0 : 0 < x
      · rw [if_pos h0]
        exact ⟨⟨by omega, by omega⟩, top.2.2⟩
      · rw [if_neg h0]
        exact bot (p := True)
    · rw [if_neg h1]
      exact bot (p := True)
end
end Sq
set_option Elab.async false
set_option linter.all false
set_option maxRecDepth 100000
set_option maxHeartbeats 2000000
namespace Sq
open PySem PySem.Spec PyProof.Rows L2
theorem units65 {k : Nat} {A : Around} (r : Room k A) : A.units + 65 < cLine := by have := r.un; omega
theorem Ext.overS {S : List Addr} {H H1 H2 : Hp} {D : Addr} (a : Ext S H H1) (n : H D = none) (b : Ext [D] H1 H2) : Ext S H H2 := by
  refine ⟨fun c o e h m => ?_, fun c o e => b.tup c o (a.tup c o e), fun c o u e => b.frz c o u (a.frz c o u e), fun P h => b.tab P (a.tab P h), fun P ps h k => b.tbl P ps (a.tbl P ps h k) fun z => by
    have z' : P = D := by simpa using z
    rw [z', n] at h
    cases h⟩
  refine b.keep c o (a.keep c o e h m) (fun z => ?_) m
  have z' : c = D := by simpa using z
  rw [z', n] at e
  cases e
theorem DiceAt.ext0 {H H' : Hp} {a : Addr} (e : Ext [] H H') : DiceAt H a → DiceAt H' a := fun ⟨x, y, z, h⟩ => ⟨x, y, z, e.lst0 h⟩
theorem hideS_eq {t : TS} : hideS t = t := rfl
end Sq
set_option Elab.async false
set_option linter.all false
set_option maxRecDepth 100000
set_option maxHeartbeats 2000000
namespace Sq
open PySem PySem.Spec PyProof.Rows L2
/-- a statement that is never reached -/
def tNever : TS := fun _ _ _ => False
theorem ps_never {X : Cx} {st : Stmt} : PS X st tNever := ⟨fun _ _ _ _ _ _ h => h.elim⟩
def iEnumL (K : PySem.W.Frag) (ta : TA) : TI := fun σ H R => ta σ H fun vs H1 => ∃ a xs, vs = [.ref a] ∧ H1 a = some (.lst xs) ∧ R (Ite K a) H1
theorem pi_enumLK {X : Cx} (K : PySem.W.Frag) {e : Expr} {ta : TA} {p pos tpos : Pos} {elts : List Expr} {kk : Nat} (hg : Gl X "enumerate") (hm : X.mg "enumerate" = none) (ha : PA X [e] ta) (hs : starEach [e] X.env = [(false, eval e X.env)] := by rfl) (hK : X.K = K := by rfl) :
    PI X (.Tuple elts kk tpos) (.Call (.Name "enumerate" p) [e] [] pos) (iEnumL K ta) := by
  subst hK
  have ha2 : PA X [e] (fun σ H k => ∃ k', ta σ H k' ∧ ∀ vs H1, k' vs H1 → k vs H1) := ⟨fun pos pins s σ H Q I ⟨k', h, m⟩ => thn (ha.run pos pins s σ H _ I h) fun us s1 ⟨vs, H1, I1, r1, q1⟩ => ⟨vs, H1, I1, r1, m _ _ q1⟩⟩
  exact ⟨fun pins s σ H R I h => (pi_enum hg hm ha2 hs).run pins s σ H R I ⟨_, h, fun vs H1 ⟨a, xs, e, hq, q⟩ => ⟨a, xs, e, SqL.of hq, q⟩⟩⟩
end Sq
set_option Elab.async false
set_option linter.all false
set_option maxRecDepth 100000
set_option maxHeartbeats 2000000
namespace Sq
open PySem PySem.Spec PyProof.Rows L2
/-! ### the constants of formulas and terms; texts -/
def namesT : Str := "abcdefghijklmnopqrstuvwxyz"
def joinsT : List Str := ["to", "both", "either"]
structure Gt (K : PySem.W.Frag) (w : World) (mg : Str → Option Value) (aJ aO aN aS : Addr) (uN : Value) : Prop where
  jc : mg "JOINS" = some (.ref aJ)
  jt : WrT K aJ (joinsT.map V.str)
  nc : mg "NAMES" = some uN
  nr : RelV (.str namesT) uN
  oc : mg "ONE" = some (.ref aO)
  ot : WrT K aO [.str "one"]
  zc : mg "NONE" = some (.ref aN)
  zt : WrT K aN [.str "none"]
  sc : mg "SHAPES" = some (.ref aS)
  st : Kd K w aS shapesL
theorem in_joins {t : Fm} : decide (t.hd ∈ joinsT) = t.isB := by
  have := Fm.hd_b (t := t)
  cases e : t.isB with
  | true => rw [e] at this; exact decide_eq_true (by simpa [joinsT] using this.mpr rfl)
  | false => rw [e] at this; exact decide_eq_false (fun z => by have := this.mp (by simpa [joinsT] using z); cases this)
theorem Fm.data_hd (t : Fm) : ∃ ds, t.data = .tuple (.str t.hd :: ds) := by cases t <;> exact ⟨_, rfl⟩
theorem unitsT {k : Nat} {A : Around} (r : Room k A) : A.units + 65 < cLine := by have := r.un; omega
theorem unitsP {k : Nat} {A : Around} (r : Room k A) : A.units + 90 < cLine := by have := r.un; omega
theorem unitsD {k : Nat} {A : Around} (r : Room k A) : A.units < cLine := by have := r.un; omega
theorem op_ninQ {X : Cx} (K : PySem.W.Frag) (hK : X.K = K := by rfl) : OpR X (compareOp .NotIn) (rIn K true) := by subst hK; exact op_notIn_seq
theorem op_inQ {X : Cx} (K : PySem.W.Frag) (hK : X.K = K := by rfl) : OpR X (compareOp .In) (rIn K false) := by subst hK; exact op_in_seq
/-- a text of signs -/
def stx (l : List Nat) : Str := ⟨l.toArray⟩
theorem stx_app (a b : List Nat) : stx a ++ stx b = stx (a ++ b) := by
  show Str.mk (a.toArray ++ b.toArray) = _
  unfold stx
  simp
theorem stx_len (a : List Nat) : (stx a).length = a.length := by show (stx a).cps.size = _; simp [stx]
theorem stx_list (x : Str) : stx x.cps.toList = x := by simp [stx]
theorem stx_inj {a b : List Nat} (h : stx a = stx b) : a = b := by
  have := congrArg (fun x : Str => x.cps.toList) h
  simpa [stx] using this
theorem room_tx {a b : Nat} (h : a ≤ 40000) (k : b ≤ 40000) : a + b ≤ sizeLine := by
  have : (100000 : Nat) ≤ sizeLine := by decide
  omega
def ftell (l : Nat) (f : Fm) : Str := stx (f.tell l)
theorem tell_len : ∀ (f : Fm) (l : Nat), (∀ x ∈ f.names, x.length = 1) → (f.tell l).length ≤ 4 * f.sz
  | .name x, l, h => by
    have := h x (by simp [Fm.names])
    show x.cps.toList.length ≤ 4
    rw [Array.length_toList]
    have : x.cps.size = 1 := this
    omega
  | .one, l, _ => by simp [Fm.tell, Fm.sz]
  | .none, l, _ => by simp [Fm.tell, Fm.sz]
  | .bin j s t, l, h => by
    have h1 := tell_len s j.ll fun x hx => h x (List.mem_append_left _ hx)
    have h2 := tell_len t j.rl fun x hx => h x (List.mem_append_right _ hx)
    unfold Fm.tell
    split <;> simp only [List.length_append, List.length_cons, List.length_nil, Fm.sz] <;> omega
theorem abc_len {x : Str} (h : x ∈ ABC) : x.length = 1 := by
  rcases abc_in h with e | e | e <;> subst e <;> decide +kernel
theorem abc_let {x : Str} (h : x ∈ ABC) : Let x := by
  rcases abc_in h with e | e | e <;> subst e
  · exact ⟨97, by decide +kernel, by decide, by decide⟩
  · exact ⟨98, by decide +kernel, by decide, by decide⟩
  · exact ⟨99, by decide +kernel, by decide, by decide⟩
theorem tell_le {f : Fm} (h : AbcF f) (hd : f.dep ≤ 12) (l : Nat) : (f.tell l).length ≤ 16384 := by
  have h1 := tell_len f l fun x hx => abc_len (h x hx)
  have h2 := Fm.sz_le f
  have h3 : 2 ^ f.dep ≤ 2 ^ 12 := Nat.pow_le_pow_right (by omega) hd
  omega
end Sq
set_option Elab.async false
set_option linter.all false
set_option maxRecDepth 100000
set_option maxHeartbeats 4000000
namespace Sq
open PySem PySem.Spec PyProof.Rows L2 RZ
local macro_rules | `(tactic| walk_at "rd") => `(tactic| simp only [tCont, tNever, iEnumL, rTIndex, rKdIx, rKdNin, tDG2, rU, tTIdx, tDisp, tPairs, rIndexS, wipe, tNoPart, tDG2, tDGF, tDInF, tDNInF, sDPutF, tDNewF, rSortD, rInS, rInT, rEqLF, tDcF, tDc2F, tLcF, tForF, tAllF, tAnyF, tSumF, iStr, iEnumF, iZipF, iKeysF, iItems, tLZip, tYes, tSeq, tIfS, tNext, tRet, tRetN, tDrop, tTest, tB, tNot, tAnd, tOr, tChain, tOp, tUn, tCB, tCons, tNil, tC, tVar, tIf, tAndV, tOrV, tNotV, tAsg, tPar, tPar3, gName, gSub, gTupF, gCons, gNil, tTupF, tLstF, rI0, rI, rIxF, rIxG, rIxS, rSetF, rSlF, rCatF, rCatL, rTupL, rListT, rListL, rLenT, rLenL, iTupF, iLstF, rAppF, rExtF, rPopF, tBM, tBM0, tSl, tPart, rEq, rNe, tCall, L2.start,
  List.map_cons, List.map_nil, List.length_cons, List.length_nil, Nat.sub_self, List.replicate, List.append_nil, List.cons_append, List.nil_append, List.getElem?_cons_zero, List.getElem?_cons_succ, List.set_cons_zero, List.set_cons_succ,
  exSl, exI, exI2, exB, exS, exR, ex1, ex1', V.int.injEq, V.bl.injEq, V.ref.injEq, V.str.injEq, Option.some.injEq, List.cons.injEq, and_true, true_and, reduceCtorEq, false_and, and_false, or_false, false_or, exists_false, exists_and_left, exists_eq_left', decide_eq_true_eq, decide_true, decide_false, if_false, if_true, ite_true, ite_false, Bool.false_eq_true, Bool.not_true, Bool.not_false, Nat.reduceAdd, Nat.reduceSub, Nat.zero_add, atI_0, atI_1, atI_2, atI_3, ixN_0, ixN_1, ixN_2, cutV_1, cutV_2, Option.some.injEq, HO.lst.injEq, HO.dK.injEq, scal])
local macro_rules | `(tactic| walk_at "rdc") => `(tactic| simp (config := { contextual := true }) only [tCont, tNever, iEnumL, rTIndex, rKdIx, rKdNin, tDG2, rU, tTIdx, tDisp, tPairs, rIndexS, wipe, tNoPart, tDG2, tDGF, tDInF, tDNInF, sDPutF, tDNewF, rSortD, rInS, rInT, rEqLF, tDcF, tDc2F, tLcF, tForF, tAllF, tAnyF, tSumF, iStr, iEnumF, iZipF, iKeysF, iItems, tLZip, tYes, tSeq, tIfS, tNext, tRet, tRetN, tDrop, tTest, tB, tNot, tAnd, tOr, tChain, tOp, tUn, tCB, tCons, tNil, tC, tVar, tIf, tAndV, tOrV, tNotV, tAsg, tPar, tPar3, gName, gSub, gTupF, gCons, gNil, tTupF, tLstF, rI0, rI, rIxF, rIxG, rIxS, rSetF, rSlF, rCatF, rCatL, rTupL, rListT, rListL, rLenT, rLenL, iTupF, iLstF, rAppF, rExtF, rPopF, tBM, tBM0, tSl, tPart, rEq, rNe, tCall, L2.start,
  List.map_cons, List.map_nil, List.length_cons, List.length_nil, Nat.sub_self, List.replicate, List.append_nil, List.cons_append, List.nil_append, List.getElem?_cons_zero, List.getElem?_cons_succ, List.set_cons_zero, List.set_cons_succ,
  exSl, exI, exI2, exB, exS, exR, ex1, ex1', V.int.injEq, V.bl.injEq, V.ref.injEq, V.str.injEq, Option.some.injEq, List.cons.injEq, and_true, true_and, reduceCtorEq, false_and, and_false, or_false, false_or, exists_false, exists_and_left, exists_eq_left', decide_eq_true_eq, decide_true, decide_false, if_false, if_true, ite_true, ite_false, Bool.false_eq_true, Bool.not_true, Bool.not_false, Nat.reduceAdd, Nat.reduceSub, Nat.zero_add, atI_0, atI_1, atI_2, atI_3, ixN_0, ixN_1, ixN_2, cutV_1, cutV_2, Option.some.injEq, HO.lst.injEq, HO.dK.injEq, scal, *])
/-- a def that stands under a second name -/
structure DnA (K : PySem.W.Frag) (mg : Str → Option Value) (x y : Str) (st : Stmt) (f : Addr) (fd : FuncData) (c : Addr) : Prop where
  ex : ∃ (oc : Value) (od : Option Addr) (kV doc pm : Value) (an : Option Addr) (ct : Value) (osl : Array (Option Value)),
    fd = PySem.W.fnOf x x (defArgs st) (defBody st) (defScope st) .none kV doc pm an (.ref c) ct ∧ K.lookup f = some ⟨oc, od, .func fd, osl⟩ ∧ PySem.W.codeIn K (.ref c) x = true
  mgf : mg y = some (.ref f)
  kp : PySem.W.keepIn K (.ref f) = true
theorem DnA.cal {P : Program} {w : World} {K : PySem.W.Frag} {mg : Str → Option Value} {base : Heap} {x y : Str} {st : Stmt} {f c : Addr} {fd : FuncData} {N ps : List Str} {k : Nat} {sp : Sp} (F : DnA K mg x y st f fd c) (hb : BindOk x st ps) (S : FnScope N ps (defScope st)) (len : ∀ vs H Q E, sp vs H Q E → vs.length = ps.length)
    (hbody : ∀ (A : Around) (outer : List Env) (s : Shared) (H : Hp) (vs : List V) (Q : VK) (E : XK), Room k (A.deeper (envOfC x (defScope st) s.heap.objs.size f (.ref c))) → sp vs H Q E →
      ∃ t, PSs (CxD P w K mg base N x st f c A outer s H E) (defBody st) t ∧ t { nx := fun _ H' => Q .non H', rt := Q } (start N vs) H) : Cal P w K mg base (k + 1) y sp := by
  obtain ⟨oc, od, kV, doc, pm, an, ct, osl, rfl, lk, hcd⟩ := F.ex
  refine ⟨f, _, ps, [], fn_of lk hcd S len fun A outer s H vs Q E hr hsp => ?_, F.mgf, F.kp, .all (hb kV doc pm an (.ref c) ct), .nil⟩
  obtain ⟨t, h, q⟩ := hbody A outer s H vs Q E hr hsp
  exact ⟨t, h.nox, q⟩
end Sq
set_option Elab.async false
set_option linter.all false
set_option maxRecDepth 100000
set_option maxHeartbeats 4000000
namespace Sq
open PySem PySem.Spec PyProof.Rows L2 RZ
local macro_rules | `(tactic| walk_at "rd") => `(tactic| simp only [tCont, tNever, iEnumL, rTIndex, rKdIx, rKdNin, tDG2, rU, tTIdx, iZipS, tDisp, tPairs, rIndexS, wipe, tNoPart, tDG2, tDGF, tDInF, tDNInF, sDPutF, tDNewF, rSortD, rInS, rInT, rEqLF, tDcF, tDc2F, tLcF, tForF, tAllF, tAnyF, tSumF, iStr, iEnumF, iZipF, iKeysF, iItems, tLZip, tYes, tSeq, tIfS, tNext, tRet, tRetN, tDrop, tTest, tB, tNot, tAnd, tOr, tChain, tOp, tUn, tCB, tCons, tNil, tC, tVar, tIf, tAndV, tOrV, tNotV, tAsg, tPar, tPar3, gName, gSub, gTupF, gCons, gNil, tTupF, tLstF, rI0, rI, rIxF, rIxG, rIxS, rSetF, rSlF, rCatF, rCatL, rTupL, rListT, rListL, rLenT, rLenL, iTupF, iLstF, rAppF, rExtF, rPopF, tBM, tBM0, tSl, tPart, rEq, rNe, tCall, L2.start,
  List.map_cons, List.map_nil, List.length_cons, List.length_nil, Nat.sub_self, List.replicate, List.append_nil, List.cons_append, List.nil_append, List.getElem?_cons_zero, List.getElem?_cons_succ, List.set_cons_zero, List.set_cons_succ,
  exSl, exI, exI2, exB, exS, exR, ex1, ex1', V.int.injEq, V.bl.injEq, V.ref.injEq, V.str.injEq, Option.some.injEq, List.cons.injEq, and_true, true_and, reduceCtorEq, false_and, and_false, or_false, false_or, exists_false, exists_and_left, exists_eq_left', decide_eq_true_eq, decide_true, decide_false, if_false, if_true, ite_true, ite_false, Bool.false_eq_true, Bool.not_true, Bool.not_false, Nat.reduceAdd, Nat.reduceSub, Nat.zero_add, atI_0, atI_1, atI_2, atI_3, ixN_0, ixN_1, ixN_2, cutV_1, cutV_2, Option.some.injEq, HO.lst.injEq, HO.dK.injEq, scal])
local macro_rules | `(tactic| walk_at "rdc") => `(tactic| simp (config := { contextual := true }) only [tCont, tNever, iEnumL, rTIndex, rKdIx, rKdNin, tDG2, rU, tTIdx, iZipS, tDisp, tPairs, rIndexS, wipe, tNoPart, tDG2, tDGF, tDInF, tDNInF, sDPutF, tDNewF, rSortD, rInS, rInT, rEqLF, tDcF, tDc2F, tLcF, tForF, tAllF, tAnyF, tSumF, iStr, iEnumF, iZipF, iKeysF, iItems, tLZip, tYes, tSeq, tIfS, tNext, tRet, tRetN, tDrop, tTest, tB, tNot, tAnd, tOr, tChain, tOp, tUn, tCB, tCons, tNil, tC, tVar, tIf, tAndV, tOrV, tNotV, tAsg, tPar, tPar3, gName, gSub, gTupF, gCons, gNil, tTupF, tLstF, rI0, rI, rIxF, rIxG, rIxS, rSetF, rSlF, rCatF, rCatL, rTupL, rListT, rListL, rLenT, rLenL, iTupF, iLstF, rAppF, rExtF, rPopF, tBM, tBM0, tSl, tPart, rEq, rNe, tCall, L2.start,
  List.map_cons, List.map_nil, List.length_cons, List.length_nil, Nat.sub_self, List.replicate, List.append_nil, List.cons_append, List.nil_append, List.getElem?_cons_zero, List.getElem?_cons_succ, List.set_cons_zero, List.set_cons_succ,
  exSl, exI, exI2, exB, exS, exR, ex1, ex1', V.int.injEq, V.bl.injEq, V.ref.injEq, V.str.injEq, Option.some.injEq, List.cons.injEq, and_true, true_and, reduceCtorEq, false_and, and_false, or_false, false_or, exists_false, exists_and_left, exists_eq_left', decide_eq_true_eq, decide_true, decide_false, if_false, if_true, ite_true, ite_false, Bool.false_eq_true, Bool.not_true, Bool.not_false, Nat.reduceAdd, Nat.reduceSub, Nat.zero_add, atI_0, atI_1, atI_2, atI_3, ixN_0, ixN_1, ixN_2, cutV_1, cutV_2, Option.some.injEq, HO.lst.injEq, HO.dK.injEq, scal, *])
abbrev lettT : Str := "abcdefghijklmnopqrstuvwxyz"
abbrev alnT : Str := "abcdefghijklmnopqrstuvwxyz0123456789"
def inSg (z : Str) (c : Nat) : Bool := !(Builtin.Str.occurrences z ⟨#[c]⟩ 0 z.length 1).isEmpty
/-- what is_name tells of a text -/
def nmB (x : Str) : Bool := decide (1 ≤ x.length ∧ x.length ≤ 8) && (match x.cps.toList with | c :: _ => inSg lettT c | [] => false) && x.cps.toList.all (inSg alnT)
section
variable {P : Program} {w : World} {K : PySem.W.Frag} {mg : Str → Option Value} {base : Heap} {f c aJ aO aN aS tb : Addr} {uN : Value} {fd : FuncData} {NS : List Str}
def Pt.ok : Pt → Bool
  | .n s => nmB s
  | .f _ => true
  | .t u => u.nms.all nmB
theorem Tm.ok_parts (t : Tm) : t.nms.all nmB = t.parts.all Pt.ok := by
  cases t <;> simp [Tm.nms, Tm.parts, Pt.ok, Bool.and_assoc]
/-- plain enough to be walked -/
structure Tm.Ok (t : Tm) : Prop where
  n : ∀ x ∈ t.nms, x.length ≤ 60 ∧ PyData.strOk x = true
  f : ∀ g ∈ t.fms, g.dep ≤ 12 ∧ AbcF g
theorem Tm.Ok.sub {t u : Tm} (h : t.Ok) (k : u ∈ t.subs) : u.Ok := ⟨fun x q => h.n x (nms_sub k q), fun g q => h.f g (fms_sub k q)⟩
theorem Tm.Ok.shaped {t : Tm} (h : t.Ok) (hd : t.dep ≤ 64) : SeqAt.shaped t.data = true := by
  unfold SeqAt.shaped
  rw [Tm.lay_data t (fun x q => (h.n x q).2) (fun g q => Fm.lay_data g fun x hx => by
    rcases abc_in ((h.f g q).2 x hx) with e | e | e <;> subst e <;> decide +kernel), Tm.depth_data, decide_eq_true hd]
  rfl
theorem Tm.part_n {t : Tm} {s : Str} (h : Pt.n s ∈ t.parts) : s ∈ t.nms := by
  cases t <;> simp [parts] at h <;> simp [nms, h]
  rcases h with h | h <;> simp [h]
theorem Tm.part_f {t : Tm} {g : Fm} (h : Pt.f g ∈ t.parts) : g ∈ t.fms := by
  cases t <;> simp [parts] at h <;> simp [fms, h]
theorem Tm.part_t {t u : Tm} (h : Pt.t u ∈ t.parts) : u ∈ t.subs := by
  cases t <;> simp [parts] at h <;> simp [subs, h]
  all_goals (rcases h with h | h | h <;> simp [h])
end
end Sq
set_option Elab.async false
set_option linter.all false
set_option maxRecDepth 100000
set_option maxHeartbeats 2000000
namespace Sq
open PySem PySem.Spec PyProof.Rows L2
namespace Tm
/-- all places, the outer ahead, then from the left -/
def plc : Tm → List (List Nat)
  | var _ => [[]]
  | fn _ _ t => [] :: (plc t).map (0 :: ·)
  | app t u => [] :: ((plc t).map (0 :: ·) ++ (plc u).map (1 :: ·))
  | pair t u => [] :: ((plc t).map (0 :: ·) ++ (plc u).map (1 :: ·))
  | fst t => [] :: (plc t).map (0 :: ·)
  | snd t => [] :: (plc t).map (0 :: ·)
  | lft t _ => [] :: (plc t).map (0 :: ·)
  | rgt _ t => [] :: (plc t).map (0 :: ·)
  | cs t _ u _ v => [] :: ((plc t).map (0 :: ·) ++ ((plc u).map (1 :: ·) ++ (plc v).map (2 :: ·)))
  | unit => [[]]
  | absd t _ => [] :: (plc t).map (0 :: ·)
def plcS : Nat → List Tm → List (List Nat)
  | _, [] => []
  | k, u :: us => (plc u).map (k :: ·) ++ plcS (k + 1) us
theorem plc_eq (t : Tm) : t.plc = [] :: plcS 0 t.subs := by cases t <;> simp [plc, plcS, subs]
theorem plcS_snoc : ∀ (us : List Tm) (k : Nat) (u : Tm), plcS k (us ++ [u]) = plcS k us ++ u.plc.map ((k + us.length) :: ·)
  | [], k, u => by simp [plcS]
  | w :: us, k, u => by
    rw [List.cons_append, plcS, plcS, plcS_snoc us (k + 1) u, List.length_cons, List.append_assoc]
    have : k + 1 + us.length = k + (us.length + 1) := by omega
    rw [this]
theorem plcS_take {us : List Tm} {j : Nat} {u : Tm} (h : us[j]? = some u) : plcS 0 (us.take (j + 1)) = plcS 0 (us.take j) ++ u.plc.map (j :: ·) := by
  have hj : j < us.length := (List.getElem?_eq_some_iff.mp h).1
  rw [List.take_add_one, h]
  show plcS 0 (us.take j ++ [u]) = _
  rw [plcS_snoc, List.length_take, Nat.min_eq_left (by omega), Nat.zero_add]
theorem plc_len (t : Tm) : t.plc.length = t.sz := by
  induction t <;> simp_all [plc, sz]
  omega
theorem plc_at : ∀ (t : Tm) (p : List Nat), p ∈ t.plc → ∃ u, at? t p = some u
  | t, [], _ => ⟨t, rfl⟩
  | t, k :: p, h => by
    have aux : ∀ (u : Tm) (j : Nat), t.subs[j]? = some u → (∀ q, q ∈ u.plc → ∃ w, at? u q = some w) → k :: p ∈ u.plc.map (j :: ·) → ∃ w, at? t (k :: p) = some w := fun u j hj ih hm => by
      obtain ⟨q, hq, e⟩ := List.mem_map.mp hm
      cases e
      obtain ⟨w, hw⟩ := ih _ hq
      refine ⟨w, ?_⟩
      show (match t.subs[k]? with | some u => at? u p | .none => none) = _
      rw [hj]; exact hw
    cases t with
    | var n => simp [plc] at h
    | unit => simp [plc] at h
    | fn n f t => rw [plc, List.mem_cons] at h; exact aux t 0 rfl (fun q hq => plc_at t q hq) (h.resolve_left (by simp))
    | fst t => rw [plc, List.mem_cons] at h; exact aux t 0 rfl (fun q hq => plc_at t q hq) (h.resolve_left (by simp))
    | snd t => rw [plc, List.mem_cons] at h; exact aux t 0 rfl (fun q hq => plc_at t q hq) (h.resolve_left (by simp))
    | lft t f => rw [plc, List.mem_cons] at h; exact aux t 0 rfl (fun q hq => plc_at t q hq) (h.resolve_left (by simp))
    | rgt f t => rw [plc, List.mem_cons] at h; exact aux t 0 rfl (fun q hq => plc_at t q hq) (h.resolve_left (by simp))
    | absd t f => rw [plc, List.mem_cons] at h; exact aux t 0 rfl (fun q hq => plc_at t q hq) (h.resolve_left (by simp))
    | app t u =>
      rw [plc, List.mem_cons, List.mem_append] at h
      rcases h.resolve_left (by simp) with h | h
      · exact aux t 0 rfl (fun q hq => plc_at t q hq) h
      · exact aux u 1 rfl (fun q hq => plc_at u q hq) h
    | pair t u =>
      rw [plc, List.mem_cons, List.mem_append] at h
      rcases h.resolve_left (by simp) with h | h
      · exact aux t 0 rfl (fun q hq => plc_at t q hq) h
      · exact aux u 1 rfl (fun q hq => plc_at u q hq) h
    | cs t n u m v =>
      rw [plc, List.mem_cons, List.mem_append, List.mem_append] at h
      rcases h.resolve_left (by simp) with h | h | h
      · exact aux t 0 rfl (fun q hq => plc_at t q hq) h
      · exact aux u 1 rfl (fun q hq => plc_at u q hq) h
      · exact aux v 2 rfl (fun q hq => plc_at v q hq) h
/-- a place's length is less than the depth -/
theorem at_dep : ∀ (p : List Nat) (t u : Tm), at? t p = some u → p.length + u.dep ≤ t.dep
  | [], t, u, h => by cases h; simp
  | k :: p, t, u, h => by
    have h : (match t.subs[k]? with | some w => at? w p | .none => none) = some u := h
    cases e : t.subs[k]? with
    | none => rw [e] at h; cases h
    | some w =>
      rw [e] at h
      have h1 := at_dep p w u h
      have h2 := dep_sub (List.mem_of_getElem? e)
      simp only [List.length_cons]
      omega
/-- the numbers in a place are parts' numbers -/
theorem at_small : ∀ (p : List Nat) (t u : Tm), at? t p = some u → ∀ k ∈ p, k < 3
  | [], _, _, _, _, hk => by cases hk
  | j :: p, t, u, h, k, hk => by
    have h : (match t.subs[j]? with | some w => at? w p | .none => none) = some u := h
    cases e : t.subs[j]? with
    | none => rw [e] at h; cases h
    | some w =>
      rw [e] at h
      rcases List.mem_cons.mp hk with z | z
      · subst z
        have := (List.getElem?_eq_some_iff.mp e).1
        have := t.subs_le
        omega
      · exact at_small p w u h k z
theorem at_size : ∀ (p : List Nat) (t u : Tm), at? t p = some u → u.sz ≤ t.sz
  | [], t, u, h => by cases h; exact Nat.le_refl _
  | k :: p, t, u, h => by
    have h : (match t.subs[k]? with | some w => at? w p | .none => none) = some u := h
    cases e : t.subs[k]? with
    | none => rw [e] at h; cases h
    | some w =>
      rw [e] at h
      have h1 := at_size p w u h
      have h2 : w.sz < t.sz := by
        have hm := List.mem_of_getElem? e
        cases t <;> simp only [subs, List.mem_cons, List.not_mem_nil, or_false] at hm <;> (try exact hm.elim)
        all_goals (simp only [sz]; first | (subst hm; omega) | (rcases hm with h | h <;> subst h <;> omega) | (rcases hm with h | h | h <;> subst h <;> omega))
      omega
/-! ### what below tells -/
def belowD (t : Tm) : List PyData := (t.subs.zip t.bnds).map fun q => .tuple [q.1.data, .tuple (q.2.map PyData.str)]
def pick : Pt → Option PyData
  | .t u => some (.tuple [u.data, .tuple []])
  | _ => none
theorem below_pick {t : Tm} (h1 : t.kind ≠ "fun") (h2 : t.kind ≠ "case") : t.belowD = t.parts.filterMap pick := by
  cases t with
  | fn _ _ _ => exact absurd rfl h1
  | cs _ _ _ _ _ => exact absurd rfl h2
  | _ => first | rfl | simp [belowD, subs, bnds, parts, pick]
/-- other terms among the parts -/
def putP : List Pt → List Tm → List Pt
  | [], _ => []
  | .t _ :: ps, u :: us => .t u :: putP ps us
  | p :: ps, us => p :: putP ps us
theorem putP_parts {t : Tm} {us : List Tm} (h : us.length = t.subs.length) : (t.withS us).parts = putP t.parts us ∧ (t.withS us).kind = t.kind := by
  cases t <;> rcases us with _ | ⟨a, _ | ⟨b, _ | ⟨c, _ | ⟨d, us⟩⟩⟩⟩ <;> simp [subs] at h <;> exact ⟨rfl, rfl⟩
def cntT : List Pt → Nat
  | [] => 0
  | .t _ :: ps => cntT ps + 1
  | _ :: ps => cntT ps
theorem cnt_subs (t : Tm) : cntT t.parts = t.subs.length := by cases t <;> rfl
end Tm
end Sq
set_option Elab.async false
set_option linter.all false
set_option maxRecDepth 100000
set_option maxHeartbeats 2000000
namespace Sq
open PySem PySem.Spec PyProof.Rows L2
/-! ### drawn terms, plainly -/
def NX : List Str := ["q", "x0", "x1", "x2", "x3"]
theorem nx_cases {x : Str} (h : x ∈ NX) : x = "q" ∨ x = "x0" ∨ x = "x1" ∨ x = "x2" ∨ x = "x3" := by simpa [NX] using h
theorem nx_x {n : Nat} (h : n ≤ 3) : (Str.ofString "x" ++ Str.ofString (toString (n : Int))) ∈ NX := by
  have : n = 0 ∨ n = 1 ∨ n = 2 ∨ n = 3 := by omega
  rcases this with h | h | h | h <;> subst h <;> decide +kernel
/-- formulas as the law draws them -/
def FGd (f : Fm) : Prop := f.dep ≤ 4 ∧ AbcF f
structure Gd (d : Nat) (t : Tm) : Prop where
  dep : t.dep ≤ 5 + 2 * d
  sz : t.sz + 2 ≤ 4 * 2 ^ d
  n : ∀ x ∈ t.nms, x ∈ NX
  f : ∀ g ∈ t.fms, FGd g
theorem pow_succ4 (d : Nat) : 4 * 2 ^ (d + 1) = 4 * 2 ^ d + 4 * 2 ^ d := by rw [Nat.pow_succ]; omega
theorem pow_pos4 (d : Nat) : 4 ≤ 4 * 2 ^ d := by have := Nat.two_pow_pos d; omega
theorem Gd.var {d : Nat} {x : Str} (h : x ∈ NX) : Gd d (.var x) :=
  ⟨by simp only [Tm.dep]; omega, by have := pow_pos4 d; simp only [Tm.sz]; omega, fun y hy => by rw [show y = x by simpa [Tm.nms] using hy]; exact h, fun g hg => by simp [Tm.fms] at hg⟩
theorem Gd.unit {d : Nat} : Gd d .unit := ⟨by simp only [Tm.dep]; omega, by have := pow_pos4 d; simp only [Tm.sz]; omega, fun y hy => by simp [Tm.nms] at hy, fun g hg => by simp [Tm.fms] at hg⟩
theorem Gd.absd {d : Nat} {x : Str} {f : Fm} (h : x ∈ NX) (hf : FGd f) : Gd d (.absd (.var x) f) :=
  ⟨by have := hf.1; simp only [Tm.dep]; omega, by have := pow_pos4 d; simp only [Tm.sz]; omega, fun y hy => by rw [show y = x by simpa [Tm.nms] using hy]; exact h, fun g hg => by rw [show g = f by simpa [Tm.fms] using hg]; exact hf⟩
theorem Gd.fst {d : Nat} {x : Str} (h : x ∈ NX) : Gd d (.fst (.var x)) :=
  ⟨by simp only [Tm.dep]; omega, by have := pow_pos4 d; simp only [Tm.sz]; omega, fun y hy => by rw [show y = x by simpa [Tm.nms] using hy]; exact h, fun g hg => by simp [Tm.fms] at hg⟩
theorem Gd.snd {d : Nat} {x : Str} (h : x ∈ NX) : Gd d (.snd (.var x)) :=
  ⟨by simp only [Tm.dep]; omega, by have := pow_pos4 d; simp only [Tm.sz]; omega, fun y hy => by rw [show y = x by simpa [Tm.nms] using hy]; exact h, fun g hg => by simp [Tm.fms] at hg⟩
theorem Gd.useA {d : Nat} {x : Str} {t : Tm} (h : x ∈ NX) (ht : Gd d t) : Gd (d + 1) (.app (.var x) t) :=
  ⟨by have := ht.dep; simp only [Tm.dep]; omega, by have := ht.sz; have := pow_pos4 d; rw [pow_succ4]; simp only [Tm.sz]; omega, fun y hy => by
    simp only [Tm.nms, List.mem_append, List.mem_singleton] at hy
    rcases hy with hy | hy
    · rw [hy]; exact h
    · exact ht.n y hy, fun g hg => ht.f g (by simpa [Tm.fms] using hg)⟩
theorem Gd.fn {d : Nat} {x : Str} {f : Fm} {t : Tm} (h : x ∈ NX) (hf : FGd f) (ht : Gd d t) : Gd (d + 1) (.fn x f t) :=
  ⟨by have := ht.dep; have := hf.1; simp only [Tm.dep]; omega, by have := ht.sz; have := pow_pos4 d; rw [pow_succ4]; simp only [Tm.sz]; omega, fun y hy => by
    simp only [Tm.nms, List.mem_cons] at hy
    rcases hy with hy | hy
    · rw [hy]; exact h
    · exact ht.n y hy, fun g hg => by
    simp only [Tm.fms, List.mem_cons] at hg
    rcases hg with hg | hg
    · rw [hg]; exact hf
    · exact ht.f g hg⟩
theorem Gd.cut {d : Nat} {x : Str} {f : Fm} {t u : Tm} (h : x ∈ NX) (hf : FGd f) (ht : Gd d t) (hu : Gd d u) : Gd (d + 1) (.app (.fn x f t) u) :=
  ⟨by have := ht.dep; have := hu.dep; have := hf.1; simp only [Tm.dep]; omega, by have := ht.sz; have := hu.sz; rw [pow_succ4]; simp only [Tm.sz]; omega, fun y hy => by
    simp only [Tm.nms, List.mem_append, List.mem_cons] at hy
    rcases hy with (hy | hy) | hy
    · rw [hy]; exact h
    · exact ht.n y hy
    · exact hu.n y hy, fun g hg => by
    simp only [Tm.fms, List.mem_append, List.mem_cons] at hg
    rcases hg with (hg | hg) | hg
    · rw [hg]; exact hf
    · exact ht.f g hg
    · exact hu.f g hg⟩
theorem Gd.pair {d : Nat} {t u : Tm} (ht : Gd d t) (hu : Gd d u) : Gd (d + 1) (.pair t u) :=
  ⟨by have := ht.dep; have := hu.dep; simp only [Tm.dep]; omega, by have := ht.sz; have := hu.sz; rw [pow_succ4]; simp only [Tm.sz]; omega, fun y hy => by
    simp only [Tm.nms, List.mem_append] at hy
    exact hy.elim (ht.n y) (hu.n y), fun g hg => by
    simp only [Tm.fms, List.mem_append] at hg
    exact hg.elim (ht.f g) (hu.f g)⟩
theorem Gd.lft {d : Nat} {f : Fm} {t : Tm} (hf : FGd f) (ht : Gd d t) : Gd (d + 1) (.lft t f) :=
  ⟨by have := ht.dep; have := hf.1; simp only [Tm.dep]; omega, by have := ht.sz; have := pow_pos4 d; rw [pow_succ4]; simp only [Tm.sz]; omega, fun y hy => ht.n y (by simpa [Tm.nms] using hy), fun g hg => by
    simp only [Tm.fms, List.mem_cons] at hg
    rcases hg with hg | hg
    · rw [hg]; exact hf
    · exact ht.f g hg⟩
theorem Gd.rgt {d : Nat} {f : Fm} {t : Tm} (hf : FGd f) (ht : Gd d t) : Gd (d + 1) (.rgt f t) :=
  ⟨by have := ht.dep; have := hf.1; simp only [Tm.dep]; omega, by have := ht.sz; have := pow_pos4 d; rw [pow_succ4]; simp only [Tm.sz]; omega, fun y hy => ht.n y (by simpa [Tm.nms] using hy), fun g hg => by
    simp only [Tm.fms, List.mem_cons] at hg
    rcases hg with hg | hg
    · rw [hg]; exact hf
    · exact ht.f g hg⟩
theorem Gd.cs {d : Nat} {x y : Str} {t u : Tm} (h : x ∈ NX) (hy : y ∈ NX) (ht : Gd d t) (hu : Gd d u) : Gd (d + 1) (.cs (.var x) y t y u) :=
  ⟨by have := ht.dep; have := hu.dep; simp only [Tm.dep]; omega, by have := ht.sz; have := hu.sz; rw [pow_succ4]; simp only [Tm.sz]; omega, fun z hz => by
    simp only [Tm.nms, List.mem_append, List.mem_cons, List.not_mem_nil, or_false] at hz
    rcases hz with (hz | (hz | hz)) | (hz | hz)
    · rw [hz]; exact h
    · rw [hz]; exact hy
    · exact ht.n z hz
    · rw [hz]; exact hy
    · exact hu.n z hz, fun g hg => by
    simp only [Tm.fms, List.mem_append, List.nil_append] at hg
    exact hg.elim (ht.f g) (hu.f g)⟩
/-! ### their texts by repr -/
theorem tup_len (ts : List Str) (h : ts ≠ []) : (tupleText ts).length ≤ piled ts + 1 := by
  have h1 := join_length_add ts h
  have e1 : (Str.ofString "(").length = 1 := by decide
  have e2 : ∀ b : Bool, (Str.ofString (if b = true then ",)" else ")")).length ≤ 2 := fun b => by cases b <;> decide
  have h2 := e2 (ts.length == 1)
  show ((Str.ofString "(") ++ Str.join ", " ts ++ Str.ofString (if ts.length == 1 then ",)" else ")")).length ≤ _
  have la : ∀ a b : Str, (a ++ b).length = a.length + b.length := fun a b => by show (a.cps ++ b.cps).size = _; rw [Array.size_append]; rfl
  rw [la, la]
  omega
theorem rep_nx {x : Str} (h : x ∈ NX) : (reprText x).length ≤ 6 := by rcases nx_cases h with e | e | e | e | e <;> subst e <;> decide +kernel
theorem rep_kind (t : Tm) : (reprText t.kind).length ≤ 10 := by cases t <;> (simp only [Tm.kind]; decide +kernel)
theorem rep_fm {f : Fm} (h : FGd f) : f.data.shown.length ≤ 210 := by
  have h1 := ftxt_len f h.2
  have h2 := Fm.sz_le f
  have h3 : 2 ^ f.dep ≤ 2 ^ 4 := Nat.pow_le_pow_right (by omega) h.1
  have h4 : (ftxt f).length = f.data.shown.cps.size := by unfold ftxt; rw [Array.length_toList]
  show f.data.shown.cps.size ≤ 210
  omega
theorem tshow_ok : ∀ t : Tm, t.data.showable = true := fun t => by
  induction t <;> simp_all [Tm.data, PyData.showable, PyData.showableAll, fshow_ok]
theorem tshow_len : ∀ t : Tm, (∀ x ∈ t.nms, x ∈ NX) → (∀ g ∈ t.fms, FGd g) → t.data.shown.length ≤ 300 * t.sz
  | .var n, hn, hf => by
    have k := rep_kind (.var n); simp only [Tm.kind] at k
    have h1 := rep_nx (hn n (by simp [Tm.nms]))
    have := tup_len [reprText (Str.ofString "var"), reprText n] (by simp)
    simp only [piled, List.map_cons, List.map_nil, List.sum_cons, List.sum_nil] at this
    refine Nat.le_trans this ?_
    simp only [Tm.sz]; omega
  | .fn n f t, hn, hf => by
    have k := rep_kind (.fn n f t); simp only [Tm.kind] at k
    have h1 := rep_nx (hn n (by simp [Tm.nms]))
    have h2 := rep_fm (hf f (by simp [Tm.fms]))
    have h3 := tshow_len t (fun x q => hn x (by simp [Tm.nms, q])) (fun g q => hf g (by simp [Tm.fms, q]))
    have := tup_len [reprText (Str.ofString "fun"), reprText n, f.data.shown, t.data.shown] (by simp)
    simp only [piled, List.map_cons, List.map_nil, List.sum_cons, List.sum_nil] at this
    refine Nat.le_trans this ?_
    simp only [Tm.sz]; omega
  | .app t u, hn, hf => by
    have k := rep_kind (.app t u); simp only [Tm.kind] at k
    have h3 := tshow_len t (fun x q => hn x (by simp [Tm.nms, q])) (fun g q => hf g (by simp [Tm.fms, q]))
    have h4 := tshow_len u (fun x q => hn x (by simp [Tm.nms, q])) (fun g q => hf g (by simp [Tm.fms, q]))
    have := tup_len [reprText (Str.ofString "app"), t.data.shown, u.data.shown] (by simp)
    simp only [piled, List.map_cons, List.map_nil, List.sum_cons, List.sum_nil] at this
    refine Nat.le_trans this ?_
    simp only [Tm.sz]; omega
  | .pair t u, hn, hf => by
    have k := rep_kind (.pair t u); simp only [Tm.kind] at k
    have h3 := tshow_len t (fun x q => hn x (by simp [Tm.nms, q])) (fun g q => hf g (by simp [Tm.fms, q]))
    have h4 := tshow_len u (fun x q => hn x (by simp [Tm.nms, q])) (fun g q => hf g (by simp [Tm.fms, q]))
    have := tup_len [reprText (Str.ofString "pair"), t.data.shown, u.data.shown] (by simp)
    simp only [piled, List.map_cons, List.map_nil, List.sum_cons, List.sum_nil] at this
    refine Nat.le_trans this ?_
    simp only [Tm.sz]; omega
  | .fst t, hn, hf => by
    have k := rep_kind (.fst t); simp only [Tm.kind] at k
    have h3 := tshow_len t (fun x q => hn x (by simp [Tm.nms, q])) (fun g q => hf g (by simp [Tm.fms, q]))
    have := tup_len [reprText (Str.ofString "first"), t.data.shown] (by simp)
    simp only [piled, List.map_cons, List.map_nil, List.sum_cons, List.sum_nil] at this
    refine Nat.le_trans this ?_
    simp only [Tm.sz]; omega
  | .snd t, hn, hf => by
    have k := rep_kind (.snd t); simp only [Tm.kind] at k
    have h3 := tshow_len t (fun x q => hn x (by simp [Tm.nms, q])) (fun g q => hf g (by simp [Tm.fms, q]))
    have := tup_len [reprText (Str.ofString "second"), t.data.shown] (by simp)
    simp only [piled, List.map_cons, List.map_nil, List.sum_cons, List.sum_nil] at this
    refine Nat.le_trans this ?_
    simp only [Tm.sz]; omega
  | .lft t f, hn, hf => by
    have k := rep_kind (.lft t f); simp only [Tm.kind] at k
    have h2 := rep_fm (hf f (by simp [Tm.fms]))
    have h3 := tshow_len t (fun x q => hn x (by simp [Tm.nms, q])) (fun g q => hf g (by simp [Tm.fms, q]))
    have := tup_len [reprText (Str.ofString "left"), t.data.shown, f.data.shown] (by simp)
    simp only [piled, List.map_cons, List.map_nil, List.sum_cons, List.sum_nil] at this
    refine Nat.le_trans this ?_
    simp only [Tm.sz]; omega
  | .rgt f t, hn, hf => by
    have k := rep_kind (.rgt f t); simp only [Tm.kind] at k
    have h2 := rep_fm (hf f (by simp [Tm.fms]))
    have h3 := tshow_len t (fun x q => hn x (by simp [Tm.nms, q])) (fun g q => hf g (by simp [Tm.fms, q]))
    have := tup_len [reprText (Str.ofString "right"), f.data.shown, t.data.shown] (by simp)
    simp only [piled, List.map_cons, List.map_nil, List.sum_cons, List.sum_nil] at this
    refine Nat.le_trans this ?_
    simp only [Tm.sz]; omega
  | .cs t n u m v, hn, hf => by
    have k := rep_kind (.cs t n u m v); simp only [Tm.kind] at k
    have h1 := rep_nx (hn n (by simp [Tm.nms]))
    have h2 := rep_nx (hn m (by simp [Tm.nms]))
    have h3 := tshow_len t (fun x q => hn x (by simp [Tm.nms, q])) (fun g q => hf g (by simp [Tm.fms, q]))
    have h4 := tshow_len u (fun x q => hn x (by simp [Tm.nms, q])) (fun g q => hf g (by simp [Tm.fms, q]))
    have h5 := tshow_len v (fun x q => hn x (by simp [Tm.nms, q])) (fun g q => hf g (by simp [Tm.fms, q]))
    have := tup_len [reprText (Str.ofString "case"), t.data.shown, reprText n, u.data.shown, reprText m, v.data.shown] (by simp)
    simp only [piled, List.map_cons, List.map_nil, List.sum_cons, List.sum_nil] at this
    refine Nat.le_trans this ?_
    simp only [Tm.sz]; omega
  | .unit, _, _ => by
    have : (PyData.shown Tm.unit.data).length ≤ 300 := by decide +kernel
    simp only [Tm.sz]; omega
  | .absd t f, hn, hf => by
    have k := rep_kind (.absd t f); simp only [Tm.kind] at k
    have h2 := rep_fm (hf f (by simp [Tm.fms]))
    have h3 := tshow_len t (fun x q => hn x (by simp [Tm.nms, q])) (fun g q => hf g (by simp [Tm.fms, q]))
    have := tup_len [reprText (Str.ofString "absurd"), t.data.shown, f.data.shown] (by simp)
    simp only [piled, List.map_cons, List.map_nil, List.sum_cons, List.sum_nil] at this
    refine Nat.le_trans this ?_
    simp only [Tm.sz]; omega
end Sq
set_option Elab.async false
set_option linter.all false
set_option maxRecDepth 100000
set_option maxHeartbeats 4000000
namespace Sq
open PySem PySem.Spec PyProof.Rows L2 RZ
/-- dict(d) -/
def rDictC : List V → Hp → VK → Prop := fun xs H Q => ∃ (a : Addr) (kvs : List (Key × V)), xs = [.ref a] ∧ dctF H a = some kvs ∧ ∀ p H2, H p = none → Ext [] H H2 → H2 p = some (.dK kvs) → Q (.ref p) H2
theorem call_dictC {X : Cx} : CallR X (.type "dict") rDictC := fun pins s σ H xs us Q I r ⟨a, kvs, e, h, q⟩ =>
  call_dictD pins s σ H xs us Q I r ⟨a, kvs, e, dctF_rd h, fun p hp => q p _ hp (Ext.new hp) upd_same⟩
local macro_rules | `(tactic| walk_at "rd") => `(tactic| simp only [tCont, tNever, iEnumL, iRng1, rPop0, rTIndex, rKdIx, rKdNin, tDG2, rU, tTIdx, iZipS, rDictC, tDisp, tPairs, rIndexS, wipe, tNoPart, tDG2, tDGF, tDInF, tDNInF, sDPutF, tDNewF, rSortD, rInS, rInT, rEqLF, tDcF, tDc2F, tLcF, tForF, tAllF, tAnyF, tSumF, iStr, iEnumF, iZipF, iKeysF, iItems, tLZip, tYes, tSeq, tIfS, tNext, tRet, tRetN, tDrop, tTest, tB, tNot, tAnd, tOr, tChain, tOp, tUn, tCB, tCons, tNil, tC, tVar, tIf, tAndV, tOrV, tNotV, tAsg, tPar, tPar3, gName, gSub, gTupF, gCons, gNil, tTupF, tLstF, rI0, rI, rIxF, rIxG, rIxS, rSetF, rSlF, rCatF, rCatL, rTupL, rListT, rListL, rLenT, rLenL, iTupF, iLstF, rAppF, rExtF, rPopF, tBM, tBM0, tSl, tPart, rEq, rNe, tCall, L2.start,
  List.map_cons, List.map_nil, List.length_cons, List.length_nil, Nat.sub_self, List.replicate, List.append_nil, List.cons_append, List.nil_append, List.getElem?_cons_zero, List.getElem?_cons_succ, List.set_cons_zero, List.set_cons_succ,
  exSl, exI, exI2, exB, exS, exR, ex1, ex1', V.int.injEq, V.bl.injEq, V.ref.injEq, V.str.injEq, Option.some.injEq, List.cons.injEq, and_true, true_and, reduceCtorEq, false_and, and_false, or_false, false_or, exists_false, exists_and_left, exists_eq_left', decide_eq_true_eq, decide_true, decide_false, if_false, if_true, ite_true, ite_false, Bool.false_eq_true, Bool.not_true, Bool.not_false, Nat.reduceAdd, Nat.reduceSub, Nat.zero_add, atI_0, atI_1, atI_2, atI_3, ixN_0, ixN_1, ixN_2, cutV_1, cutV_2, Option.some.injEq, HO.lst.injEq, HO.dK.injEq, scal])
local macro_rules | `(tactic| walk_at "rdc") => `(tactic| simp (config := { contextual := true }) only [tCont, tNever, iEnumL, iRng1, rPop0, rTIndex, rKdIx, rKdNin, tDG2, rU, tTIdx, iZipS, rDictC, tDisp, tPairs, rIndexS, wipe, tNoPart, tDG2, tDGF, tDInF, tDNInF, sDPutF, tDNewF, rSortD, rInS, rInT, rEqLF, tDcF, tDc2F, tLcF, tForF, tAllF, tAnyF, tSumF, iStr, iEnumF, iZipF, iKeysF, iItems, tLZip, tYes, tSeq, tIfS, tNext, tRet, tRetN, tDrop, tTest, tB, tNot, tAnd, tOr, tChain, tOp, tUn, tCB, tCons, tNil, tC, tVar, tIf, tAndV, tOrV, tNotV, tAsg, tPar, tPar3, gName, gSub, gTupF, gCons, gNil, tTupF, tLstF, rI0, rI, rIxF, rIxG, rIxS, rSetF, rSlF, rCatF, rCatL, rTupL, rListT, rListL, rLenT, rLenL, iTupF, iLstF, rAppF, rExtF, rPopF, tBM, tBM0, tSl, tPart, rEq, rNe, tCall, L2.start,
  List.map_cons, List.map_nil, List.length_cons, List.length_nil, Nat.sub_self, List.replicate, List.append_nil, List.cons_append, List.nil_append, List.getElem?_cons_zero, List.getElem?_cons_succ, List.set_cons_zero, List.set_cons_succ,
  exSl, exI, exI2, exB, exS, exR, ex1, ex1', V.int.injEq, V.bl.injEq, V.ref.injEq, V.str.injEq, Option.some.injEq, List.cons.injEq, and_true, true_and, reduceCtorEq, false_and, and_false, or_false, false_or, exists_false, exists_and_left, exists_eq_left', decide_eq_true_eq, decide_true, decide_false, if_false, if_true, ite_true, ite_false, Bool.false_eq_true, Bool.not_true, Bool.not_false, Nat.reduceAdd, Nat.reduceSub, Nat.zero_add, atI_0, atI_1, atI_2, atI_3, ixN_0, ixN_1, ixN_2, cutV_1, cutV_2, Option.some.injEq, HO.lst.injEq, HO.dK.injEq, scal, *])
section
variable {P : Program} {w : World} {K : PySem.W.Frag} {mg : Str → Option Value} {base : Heap} {f c : Addr} {fd : FuncData} {NS : List Str}
abbrev s__law_formula : Stmt := top 29
abbrev n__law_formula : List Str := ["dice", "deep", "kind", "join"]
theorem sc__law_formula : FnScope n__law_formula ["dice", "deep"] (defScope s__law_formula) := ⟨rfl, rfl, rfl, by decide +kernel, rfl, by decide +kernel, by decide +kernel⟩
def spLF (K : PySem.W.Frag) (k : Nat) : Sp := fun vs H Q _ => ∃ (a : Addr) (d : Nat), vs = [.ref a, .int (d : Nat)] ∧ d + 1 < k ∧ DiceAt H a ∧
  ∀ (v' : V) (t : Fm) (H' : Hp), Ext [a] H H' → DiceAt H' a → Td K H' v' t.data → t.dep ≤ d + 1 → AbcF t → Q v' H'
theorem ok_formula (F : Dn K mg "_law_formula" s__law_formula f fd c) (B : Bl mg) (G__law_roll : Cal P w K mg base 1 "_law_roll" spRoll) : ∀ k, Cal P w K mg base k "_law_formula" (spLF K k) := by
  refine F.calRec (ps := ["dice", "deep"]) (fun _ _ _ _ _ _ us hl => match us, hl with | [_, _], _ => rfl) (fun vs H Q E ⟨_, _, _, h, _⟩ => by omega) fun k G__law_formula => ?_
  refine F.ok sc__law_formula (fun vs H Q E h => ?_) (fun A outer s H vs Q E hr h => ?_)
  · obtain ⟨_, _, rfl, _⟩ := h; rfl
  obtain ⟨a, d, rfl, hk, hdi, q⟩ := h
  refine ⟨_, (pss_cons (ps_set (i := 2) sc__law_formula.nd rfl (by first | exact Or.inl rfl | exact Or.inr rfl) (C8.pe_c G__law_roll hr (by omega) (by rfl) (pa_cons (pv 0) (pa_cons pe_int pa_nil))))
    (pss_cons (ps_if (PW.pt (pw_or (pt_cmpR op_eq (pv 1) pe_int (nomark _)) (pw_or1 (pt_cmpR op_lt (pv 2) pe_int (nomark _))))) (pss_one (ps_ret (pe_ix ix_lstF (pe_lstF (pa_cons (pe_tupK K (pa_cons pe_str (pa_cons pe_str pa_nil))) (pa_cons (pe_tupK K (pa_cons pe_str (pa_cons pe_str pa_nil))) (pa_cons (pe_tupK K (pa_cons pe_str (pa_cons pe_str pa_nil))) (pa_cons (pe_tupK K (pa_cons pe_str (pa_cons pe_str pa_nil))) (pa_cons (pe_tupK K (pa_cons pe_str pa_nil)) (pa_cons (pe_tupK K (pa_cons pe_str pa_nil)) pa_nil))))))) (C8.pe_c G__law_roll hr (by omega) (by rfl) (pa_cons (pv 0) (pa_cons pe_int pa_nil))) (fun _ _ => rfl)))) pss_nil)
    (pss_cons (ps_set (i := 3) sc__law_formula.nd rfl (by first | exact Or.inl rfl | exact Or.inr rfl) (pe_ix ix_lstF (pe_lstF (pa_cons pe_str (pa_cons pe_str (pa_cons pe_str (pa_cons pe_str (pa_cons pe_str (pa_cons pe_str pa_nil))))))) (pe_op op_sub (pv 2) pe_int) (fun _ _ => rfl)))
    (pss_one (ps_ret (pe_tupK K (pa_cons (pv 3) (pa_cons (C8.pe_c G__law_formula hr (by omega) (by rfl) (pa_cons (pv 0) (pa_cons (pe_op op_sub (pv 1) pe_int) pa_nil))) (pa_cons (C8.pe_c G__law_formula hr (by omega) (by rfl) (pa_cons (pv 0) (pa_cons (pe_op op_sub (pv 1) pe_int) pa_nil))) pa_nil))))))))), ?_⟩
  have dext : ∀ {H1 H2 : Hp}, DiceAt H1 a → Ext [] H1 H2 → DiceAt H2 a := fun ⟨x, y, z, h⟩ e => ⟨x, y, z, e.lst0 h⟩
  walk_at "rd"
  refine ⟨a, 9, rfl, hdi, by decide, by decide, fun r H1 r0 r1 e1 hd1 => ?_⟩
  dsimp only
  have join : 3 ≤ r → ∃ j : Jn, atI [V.str (Str.ofString "to"), V.str (Str.ofString "to"), V.str (Str.ofString "to"), V.str (Str.ofString "both"), V.str (Str.ofString "either"), V.str (Str.ofString "either")] (r - 3) = some (V.str j.str) := fun h => by
    have : r = 3 ∨ r = 4 ∨ r = 5 ∨ r = 6 ∨ r = 7 ∨ r = 8 := by omega
    rcases this with z | z | z | z | z | z <;> subst z
    · exact ⟨.to, by rfl⟩
    · exact ⟨.to, by rfl⟩
    · exact ⟨.to, by rfl⟩
    · exact ⟨.both, by rfl⟩
    · exact ⟨.either, by rfl⟩
    · exact ⟨.either, by rfl⟩
  refine ite2 (fun _ => ?pick1) fun h0 => ⟨r, rfl, ite2 (fun _ => ?pick2) fun h3 => ?_⟩
  case pick1 | pick2 =>
    refine ⟨by decide, fun p1 H2 e2 h2 => ⟨by decide, fun p2 H3 e3 h3 => ⟨by decide, fun p3 H4 e4 h4 => ⟨by decide, fun p4 H5 e5 h5 => ⟨by decide, fun p5 H6 e6 h6 => ⟨by decide, fun p6 H7 e7 h7 => ⟨by decide, fun p8 H8 n8 e8 h8 => ?_⟩⟩⟩⟩⟩⟩⟩
    have x7 := e7.trans e8
    have x6 := e6.trans x7
    have x5 := e5.trans x6
    have x4 := e4.trans x5
    have x3 := e3.trans x4
    have x2 := e2.trans x3
    refine ⟨a, 6, rfl, dext hd1 x2, by decide, by decide, fun r2 H9 r20 r21 e9 hd9 => ⟨_, r2, rfl, e9.lst h8 ?_, ?_⟩⟩
    · intro hm
      have : p8 = a := by simpa using hm
      obtain ⟨x, y, z, hx⟩ := dext hd1 (e2.trans (e3.trans (e4.trans (e5.trans (e6.trans e7)))))
      rw [this, hx] at n8
      cases n8
    · have eAll : Ext [a] H H9 := (e1.trans x2.any).trans e9
      have nmq : ∀ (p : Addr) (x : Str), x ∈ ABC → tupF K H8 p = some [V.str "name", V.str x] → Q (.ref p) H9 := fun p x hx hp => q _ (.name x) _ eAll hd9 (.tup (tupF_ext e9 hp) (.cons (.str _) (.cons (.str _) .nil))) (Nat.le_add_left _ _) (fun y hy => by
        have : y = x := by simpa [Fm.names] using hy
        rw [this]; exact hx)
      have : r2 = 0 ∨ r2 = 1 ∨ r2 = 2 ∨ r2 = 3 ∨ r2 = 4 ∨ r2 = 5 := by omega
      rcases this with z | z | z | z | z | z <;> subst z
      · exact ⟨_, by rfl, nmq p1 "a" (by decide) (tupF_ext x3 h2)⟩
      · exact ⟨_, by rfl, nmq p2 "b" (by decide) (tupF_ext x4 h3)⟩
      · exact ⟨_, by rfl, nmq p3 "c" (by decide) (tupF_ext x5 h4)⟩
      · exact ⟨_, by rfl, nmq p4 "a" (by decide) (tupF_ext x6 h5)⟩
      · exact ⟨_, by rfl, q _ .one _ eAll hd9 (.tup (tupF_ext e9 (tupF_ext x7 h6)) (.cons (.str _) .nil)) (Nat.le_add_left _ _) (fun y hy => by cases hy)⟩
      · exact ⟨_, by rfl, q _ .none _ eAll hd9 (.tup (tupF_ext e9 (tupF_ext e8 h7)) (.cons (.str _) .nil)) (Nat.le_add_left _ _) (fun y hy => by cases hy)⟩
  obtain ⟨j, hj⟩ := join (by omega)
  obtain ⟨d', rfl⟩ : ∃ d', d = d' + 1 := ⟨d - 1, by omega⟩
  have ed : (((d' + 1 : Nat) : Int) - 1) = (d' : Nat) := by omega
  rw [ed]
  refine ⟨by decide, fun p2 H2 n2 e2 h2 => ⟨r, rfl, _, h2, _, hj, a, d', rfl, by omega, dext hd1 e2, fun v1 t1 H3 e3 hd3 ht1 htd1 hns1 => ⟨a, d', rfl, by omega, hd3, fun v2 t2 H4 e4 hd4 ht2 htd2 hns2 => ⟨by decide, fun p H5 e5 h5 => q _ (.bin j t1 t2) _ ((((e1.trans e2.any).trans e3).trans e4).trans e5.any) (dext hd4 e5) (.tup h5 (.cons (.str _) (.cons ((ht1.ext e4).ext e5) (.cons (ht2.ext e5) .nil)))) (by simp only [Fm.dep]; omega) fun x hx => ?_⟩⟩⟩⟩
  rcases List.mem_append.mp hx with z | z
  · exact hns1 x z
  · exact hns2 x z
/-- a dict that is not locked -/
def TabD (K : PySem.W.Frag) (H : Hp) (a : Addr) (l : Tab) : Prop := ∃ kvs, H a = some (.dK kvs) ∧ TabK K H kvs l
theorem TabD.a {H : Hp} {a : Addr} {l : Tab} (h : TabD K H a l) : TabA K H a l := let ⟨kvs, h, r⟩ := h; ⟨kvs, dctF_dK h, r⟩
theorem TabD.ext {S : List Addr} {H H' : Hp} {a : Addr} {l : Tab} (e : Ext S H H') (n : a ∉ S) : TabD K H a l → TabD K H' a l := fun ⟨kvs, h, r⟩ => ⟨kvs, e.dK h n, r.ext e⟩
theorem TabD.ext0 {H H' : Hp} {a : Addr} {l : Tab} (e : Ext [] H H') : TabD K H a l → TabD K H' a l := TabD.ext e (fun z => nomatch z)
theorem TabD.ne {H : Hp} {a b : Addr} {l : Tab} (h : TabD K H b l) (k : DiceAt H a) : b ∉ [a] := fun z => by
  obtain ⟨x, y, w, e⟩ := k
  obtain ⟨kvs, h, _⟩ := h
  rw [show b = a by simpa using z, e] at h
  cases h
abbrev s__law_with : Stmt := top 32
abbrev n__law_with : List Str := ["context", "name", "what", "found"]
theorem sc__law_with : FnScope n__law_with ["context", "name", "what"] (defScope s__law_with) := ⟨rfl, rfl, rfl, by decide +kernel, rfl, by decide +kernel, by decide +kernel⟩
def spWith (K : PySem.W.Frag) : Sp := fun vs H Q _ => ∃ (a : Addr) (n : Str) (v : V) (l : Tab) (t : Fm), vs = [.ref a, .str n, v] ∧ TabA K H a l ∧ Td K H v t.data ∧ l.length ≤ 1000 ∧ ∀ p H', H p = none → Ext [] H H' → TabD K H' p (putL l n t) → Q (.ref p) H'
theorem ok_with (F : Dn K mg "_law_with" s__law_with f fd c) (B : Bl mg) : Cal P w K mg base 1 "_law_with" (spWith K) := by
  refine F.cal (ps := ["context", "name", "what"]) (fun _ _ _ _ _ _ us hl => match us, hl with | [_, _, _], _ => rfl) sc__law_with (fun vs H Q E h => ?_) (fun A outer s H vs Q E hr h => ?_)
  · obtain ⟨_, _, _, _, _, rfl, _⟩ := h; rfl
  obtain ⟨a, n, v, l, t, rfl, ⟨kvs, hk, hr'⟩, ht, hl, q⟩ := h
  refine ⟨_, (pss_cons (ps_set (i := 3) sc__law_with.nd rfl (by first | exact Or.inl rfl | exact Or.inr rfl) (pe_callTy call_dictC (by rfl) B.b_dict (by decide +kernel) (pa_cons (pv 0) pa_nil)))
    (pss_cons (ps_dputF (hu_of hr) (pv 3) (pv 1) (pv 2) rfl)
    (pss_one (ps_ret (pv 3))))), ?_⟩
  walk_at "rd"
  have hz : (100000 : Nat) ≤ sizeLine := by decide
  have hkl := hr'.length
  refine ⟨kvs, hk, fun p H1 n1 e1 h1 => ⟨kvs, h1, by omega, fun H2 e2 h2 => q p H2 n1 (e1.over n1 e2) ⟨_, h2, ((hr'.ext e1).ext e2).put ((ht.ext e1).ext e2)⟩⟩⟩
end
end Sq
set_option Elab.async false
set_option linter.all false
set_option maxRecDepth 100000
set_option maxHeartbeats 2000000
namespace Sq
open PySem PySem.Spec PyProof.Rows L2
/-! ### terms with numbers for bound names; what putting means -/
inductive Nb
  | fv (s : Str)
  | bv (i : Nat)
  | fn (f : Fm) (t : Nb)
  | app (t u : Nb)
  | pair (t u : Nb)
  | fst (t : Nb)
  | snd (t : Nb)
  | lft (t : Nb) (f : Fm)
  | rgt (f : Fm) (t : Nb)
  | cs (t u v : Nb)
  | unit
  | absd (t : Nb) (f : Fm)
deriving DecidableEq
abbrev NE := Str → Nat → Nb
def NE.up (e : NE) (b : Str) (d : Nat) : NE := fun y k => if y = b then .bv (k - d - 1) else e y k
def NE.put (e : NE) (x : Str) (g : Nat → Nb) : NE := fun y k => if y = x then g k else e y k
def NE.nil : NE := fun y _ => .fv y
namespace Tm
/-- free names, from the left, with their repeats -/
def fvs : Tm → List Str
  | var y => [y]
  | fn b _ t => t.fvs.filter fun z => decide (z ≠ b)
  | app t u => t.fvs ++ u.fvs
  | pair t u => t.fvs ++ u.fvs
  | fst t => t.fvs
  | snd t => t.fvs
  | lft t _ => t.fvs
  | rgt _ t => t.fvs
  | cs t b u c v => t.fvs ++ ((u.fvs.filter fun z => decide (z ≠ b)) ++ (v.fvs.filter fun z => decide (z ≠ c)))
  | unit => []
  | absd t _ => t.fvs
def ev : Tm → NE → Nat → Nb
  | var y, e, d => e y d
  | fn b f t, e, d => .fn f (t.ev (e.up b d) (d + 1))
  | app t u, e, d => .app (t.ev e d) (u.ev e d)
  | pair t u, e, d => .pair (t.ev e d) (u.ev e d)
  | fst t, e, d => .fst (t.ev e d)
  | snd t, e, d => .snd (t.ev e d)
  | lft t f, e, d => .lft (t.ev e d) f
  | rgt f t, e, d => .rgt f (t.ev e d)
  | cs t b u c v, e, d => .cs (t.ev e d) (u.ev (e.up b d) (d + 1)) (v.ev (e.up c d) (d + 1))
  | unit, _, _ => .unit
  | absd t f, e, d => .absd (t.ev e d) f
theorem ev_congr : ∀ (t : Tm) {e e' : NE} {d : Nat}, (∀ y ∈ t.fvs, ∀ k, d ≤ k → e y k = e' y k) → t.ev e d = t.ev e' d := by
  have hup : ∀ (b : Str) (u : Tm) {e e' : NE} {d : Nat}, (∀ y ∈ u.fvs.filter (fun z => decide (z ≠ b)), ∀ k, d ≤ k → e y k = e' y k) → ∀ y ∈ u.fvs, ∀ k, d + 1 ≤ k → e.up b d y k = e'.up b d y k := fun b u e e' d h y hy k hk => by
    unfold NE.up
    by_cases q : y = b
    · rw [if_pos q, if_pos q]
    · rw [if_neg q, if_neg q]; exact h y (List.mem_filter.mpr ⟨hy, decide_eq_true q⟩) k (by omega)
  intro t
  induction t with
  | var y => intro e e' d h; exact h y (by simp [fvs]) d (Nat.le_refl _)
  | fn b f t ih => intro e e' d h; simp only [ev]; rw [ih (hup b t h)]
  | app t u i1 i2 => intro e e' d h; simp only [ev]; rw [i1 fun y hy => h y (by simp [fvs, hy]), i2 fun y hy => h y (by simp [fvs, hy])]
  | pair t u i1 i2 => intro e e' d h; simp only [ev]; rw [i1 fun y hy => h y (by simp [fvs, hy]), i2 fun y hy => h y (by simp [fvs, hy])]
  | fst t ih => intro e e' d h; simp only [ev]; rw [ih fun y hy => h y (by simp [fvs, hy])]
  | snd t ih => intro e e' d h; simp only [ev]; rw [ih fun y hy => h y (by simp [fvs, hy])]
  | lft t f ih => intro e e' d h; simp only [ev]; rw [ih fun y hy => h y (by simp [fvs, hy])]
  | rgt f t ih => intro e e' d h; simp only [ev]; rw [ih fun y hy => h y (by simp [fvs, hy])]
  | absd t f ih => intro e e' d h; simp only [ev]; rw [ih fun y hy => h y (by simp [fvs, hy])]
  | unit => intro e e' d h; rfl
  | cs t b u c v i1 i2 i3 =>
    intro e e' d h
    simp only [ev]
    rw [i1 fun y hy => h y (by simp [fvs, hy]), i2 (hup b u fun y hy => h y (by rw [fvs]; simp only [List.mem_append]; exact .inr (.inl hy))), i3 (hup c v fun y hy => h y (by rw [fvs]; simp only [List.mem_append]; exact .inr (.inr hy)))]
/-- the numbers by the names bound -/
def num : Tm → List Str → Nb
  | var y, G => if y ∈ G then .bv (G.idxOf y) else .fv y
  | fn b f t, G => .fn f (t.num (b :: G))
  | app t u, G => .app (t.num G) (u.num G)
  | pair t u, G => .pair (t.num G) (u.num G)
  | fst t, G => .fst (t.num G)
  | snd t, G => .snd (t.num G)
  | lft t f, G => .lft (t.num G) f
  | rgt f t, G => .rgt f (t.num G)
  | cs t b u c v, G => .cs (t.num G) (u.num (b :: G)) (v.num (c :: G))
  | unit, _ => .unit
  | absd t f, G => .absd (t.num G) f
def envG (G : List Str) : NE := fun y k => if y ∈ G then .bv (G.idxOf y + (k - G.length)) else .fv y
theorem num_ev : ∀ (t : Tm) (G : List Str), t.num G = t.ev (envG G) G.length := by
  have hup : ∀ (b : Str) (u : Tm) (G : List Str), u.ev (envG (b :: G)) (b :: G).length = u.ev ((envG G).up b G.length) (G.length + 1) := fun b u G => by
    refine ev_congr u fun y _ k hk => ?_
    rw [List.length_cons] at hk
    unfold envG NE.up
    by_cases q : y = b
    · subst q
      rw [if_pos (List.mem_cons_self), if_pos rfl, List.idxOf_cons_self]
      congr 1; simp
      omega
    · rw [if_neg q]
      dsimp only
      by_cases hm : y ∈ G
      · rw [if_pos (List.mem_cons_of_mem _ hm), if_pos hm, show (b :: G).idxOf y = G.idxOf y + 1 by rw [List.idxOf_cons, show (b == y) = false from beq_eq_false_iff_ne.mpr fun z => q z.symm]; rfl]
        congr 1; simp
        omega
      · rw [if_neg (fun z => (List.mem_cons.mp z).elim q hm), if_neg hm]
  intro t
  induction t with
  | var y => intro G; simp only [num, ev, envG]; split <;> simp
  | fn b f t ih => intro G; simp only [num, ev]; rw [ih, hup]
  | cs t b u c v i1 i2 i3 => intro G; simp only [num, ev]; rw [i1, i2, i3, hup, hup]
  | _ => intro G; simp only [num, ev, *]
theorem num_nil (t : Tm) : t.num [] = t.ev NE.nil 0 := by
  rw [num_ev]
  exact ev_congr t fun y _ k _ => by simp [envG, NE.nil]
end Tm
/-- t' is t with s in x's place, none caught -/
structure PutR (t : Tm) (x : Str) (s t' : Tm) : Prop where
  ev : ∀ (e : NE) (d : Nat), t'.ev e d = t.ev (e.put x (s.ev e)) d
  fv : ∀ y, y ∈ t'.fvs ↔ (y ∈ t.fvs ∧ y ≠ x) ∨ (x ∈ t.fvs ∧ y ∈ s.fvs)
  dep : t'.dep + 1 ≤ t.dep + s.dep
  ok : t'.Ok
structure BrR (b : Str) (t : Tm) (x : Str) (s : Tm) (b' : Str) (u : Tm) : Prop where
  ev : ∀ (e : NE) (d : Nat), u.ev (e.up b' d) (d + 1) = t.ev ((e.put x (s.ev e)).up b d) (d + 1)
  fv : ∀ y, (y ∈ u.fvs ∧ y ≠ b') ↔ ((y ∈ t.fvs ∧ y ≠ b) ∧ y ≠ x) ∨ ((x ∈ t.fvs ∧ x ≠ b) ∧ y ∈ s.fvs)
  dep : u.dep + 1 ≤ t.dep + s.dep
  nok : b'.length ≤ 60 ∧ PyData.strOk b' = true
  ok : u.Ok
inductive AwayR (b : Str) (t : Tm) (x : Str) (s : Tm) : Str → Tm → Prop
  | same (h : b = x ∨ b ∉ s.fvs ∨ x ∉ t.fvs) : AwayR b t x s b t
  | new {b' : Str} {u : Tm} (h1 : b' ∉ s.fvs) (h2 : b' ∉ t.fvs) (h3 : b' ≠ x) (hb : b ≠ x) (hx : x ∈ t.fvs) (nm : b'.length ≤ 60 ∧ PyData.strOk b' = true) (r : PutR t b (.var b') u) : AwayR b t x s b' u
theorem PutR.none {t s : Tm} {x : Str} (h : x ∉ t.fvs) (ok : t.Ok) : PutR t x s t := by
  refine ⟨fun e d => (Tm.ev_congr t fun y hy k _ => ?_), fun y => ?_, by have := s.dep_pos; omega, ok⟩
  · unfold NE.put
    rw [if_neg fun z => h (by rw [← z]; exact hy)]
  · constructor
    · exact fun hy => .inl ⟨hy, fun z => h (by rw [← z]; exact hy)⟩
    · rintro (h1 | h1)
      · exact h1.1
      · exact absurd h1.1 h
theorem AwayR.dep {b x b' : Str} {t s u : Tm} (a : AwayR b t x s b' u) : u.dep ≤ t.dep := by
  cases a with
  | same h => exact Nat.le_refl _
  | new h1 h2 h3 hb hx nm r =>
    have h := r.dep
    have e : (Tm.var b').dep = 1 := rfl
    rw [e] at h
    omega
theorem AwayR.nok {b x b' : Str} {t s u : Tm} (a : AwayR b t x s b' u) (h : b.length ≤ 60 ∧ PyData.strOk b = true) : b'.length ≤ 60 ∧ PyData.strOk b' = true := by
  cases a with
  | same _ => exact h
  | new _ _ _ _ _ nm _ => exact nm
theorem AwayR.ok {b x b' : Str} {t s u : Tm} (a : AwayR b t x s b' u) (h : t.Ok) : u.Ok := by
  cases a with
  | same _ => exact h
  | new _ _ _ _ _ _ r => exact r.ok
/-- its free names lie among others -/
theorem AwayR.fvs {b x b' : Str} {t s u : Tm} (a : AwayR b t x s b' u) {y : Str} (hy : y ∈ u.fvs) : (y ∈ t.fvs ∧ (y ≠ b ∨ b' = b)) ∨ y = b' := by
  cases a with
  | same _ => exact .inl ⟨hy, .inr rfl⟩
  | new h1 h2 h3 hb hx nm r =>
    rcases (r.fv y).mp hy with h | h
    · exact .inl ⟨h.1, .inl h.2⟩
    · exact .inr (by simpa [Tm.fvs] using h.2)
theorem BrR.of {b x b' : Str} {t s u0 u : Tm} (a : AwayR b t x s b' u0) (h : (u = u0 ∧ b' = x) ∨ (b' ≠ x ∧ PutR u0 x s u)) (ht : t.Ok) (hb0 : b.length ≤ 60 ∧ PyData.strOk b = true) : BrR b t x s b' u := by
  have hsp := s.dep_pos
  cases a with
  | same h0 =>
    rcases h with ⟨rfl, rfl⟩ | ⟨hne, r⟩
    · refine ⟨fun e d => Tm.ev_congr _ fun y _ k _ => ?_, fun y => ?_, by omega, hb0, ht⟩
      · unfold NE.up NE.put
        split
        · rfl
        · rename_i q; simp [q]
      · constructor
        · exact fun ⟨p, q⟩ => .inl ⟨⟨p, q⟩, q⟩
        · rintro (p | p)
          · exact p.1
          · exact absurd rfl p.1.2
    · have h0 : b ∉ s.fvs ∨ x ∉ t.fvs := h0.resolve_left hne
      refine ⟨fun e d => ?_, fun y => ?_, r.dep, hb0, r.ok⟩
      · rw [r.ev]
        refine Tm.ev_congr t fun y hy k hk => ?_
        by_cases q1 : y = x
        · subst q1
          unfold NE.put
          rw [if_pos rfl]
          show _ = NE.up _ b d y k
          unfold NE.up
          rw [if_neg (fun z => hne z.symm)]
          dsimp only
          rw [if_pos rfl]
          refine Tm.ev_congr s fun z hz k' hk' => ?_
          rw [if_neg fun w => (h0.elim (fun g => g (by rw [← w]; exact hz)) fun g => g hy)]
        · unfold NE.put NE.up
          simp [q1]
      · have hfv := r.fv y
        constructor
        · rintro ⟨p, q⟩
          rcases hfv.mp p with g | g
          · exact .inl ⟨⟨g.1, q⟩, g.2⟩
          · exact .inr ⟨⟨g.1, fun z => hne z.symm⟩, g.2⟩
        · rintro (p | p)
          · exact ⟨hfv.mpr (.inl ⟨p.1.1, p.2⟩), p.1.2⟩
          · exact ⟨hfv.mpr (.inr ⟨p.1.1, p.2⟩), fun z => h0.elim (fun g => g (by rw [← z]; exact p.2)) fun g => g p.1.1⟩
  | new h1 h2 h3 hb hx nm r0 =>
    rcases h with ⟨_, h⟩ | ⟨hne, r⟩
    · exact absurd h h3
    have hd0 := r0.dep
    have e1 : (Tm.var b').dep = 1 := rfl
    rw [e1] at hd0
    have hd1 := r.dep
    refine ⟨fun e d => ?_, fun y => ?_, by omega, nm, r.ok⟩
    · rw [r.ev, r0.ev]
      refine Tm.ev_congr t fun y hy k hk => ?_
      show NE.put (NE.put (e.up b' d) x _) b (fun k => NE.put (e.up b' d) x _ b' k) y k = NE.up _ b d y k
      by_cases q : y = b
      · subst q
        show (if y = y then NE.put (e.up b' d) x _ b' k else _) = _
        rw [if_pos rfl]
        unfold NE.put NE.up
        rw [if_neg h3, if_pos rfl, if_pos rfl]
      · show (if y = b then _ else NE.put (e.up b' d) x _ y k) = (if y = b then _ else NE.put e x _ y k)
        rw [if_neg q, if_neg q]
        by_cases q1 : y = x
        · subst q1
          unfold NE.put
          rw [if_pos rfl, if_pos rfl]
          refine Tm.ev_congr s fun z hz k' hk' => ?_
          unfold NE.up
          rw [if_neg fun w => h1 (by rw [← w]; exact hz)]
        · unfold NE.put
          rw [if_neg q1, if_neg q1]
          unfold NE.up
          rw [if_neg fun w => h2 (by rw [← w]; exact hy)]
    · have g0 := r0.fv
      have gx := g0 x
      have gy := g0 y
      have hfv := r.fv y
      have ev : ∀ z : Str, z ∈ (Tm.var b').fvs ↔ z = b' := fun z => by simp [Tm.fvs]
      rw [ev] at gx gy
      constructor
      · rintro ⟨p, q⟩
        rcases hfv.mp p with ⟨g, g2⟩ | ⟨g, g2⟩
        · rcases gy.mp g with w | w
          · exact .inl ⟨w, g2⟩
          · exact absurd w.2 q
        · exact .inr ⟨⟨hx, fun z => hb z.symm⟩, g2⟩
      · rintro (⟨p, q⟩ | ⟨p, q⟩)
        · exact ⟨hfv.mpr (.inl ⟨gy.mpr (.inl p), q⟩), fun z => h2 (by rw [← z]; exact p.1)⟩
        · exact ⟨hfv.mpr (.inr ⟨gx.mpr (.inl p), q⟩), fun z => h1 (by rw [← z]; exact q)⟩
theorem Tm.Ok.fnI {b : Str} {f : Fm} {t : Tm} (h : t.Ok) (hb : b.length ≤ 60 ∧ PyData.strOk b = true) (hf : f.dep ≤ 12 ∧ AbcF f) : (Tm.fn b f t).Ok :=
  ⟨fun x hx => by rw [Tm.nms, List.mem_cons] at hx; exact hx.elim (fun e => by rw [e]; exact hb) (h.n x), fun g hg => by rw [Tm.fms, List.mem_cons] at hg; exact hg.elim (fun e => by rw [e]; exact hf) (h.f g)⟩
theorem PutR.var {x y : Str} {s : Tm} (hs : s.Ok) (hy : (Tm.var y).Ok) : PutR (.var y) x s (if y = x then s else .var y) := by
  by_cases q : y = x
  · subst q
    rw [if_pos rfl]
    refine ⟨fun e d => by simp [Tm.ev, NE.put], fun z => ?_, by show s.dep + 1 ≤ 1 + s.dep; omega, hs⟩
    simp [Tm.fvs]
  · rw [if_neg q]
    exact PutR.none (by simp [Tm.fvs]; exact fun z => q z.symm) hy
theorem PutR.fnI {b b' x : Str} {f : Fm} {t s u : Tm} (r : BrR b t x s b' u) (hf : f.dep ≤ 12 ∧ AbcF f) : PutR (.fn b f t) x s (.fn b' f u) := by
  have hd := r.dep
  have hs := s.dep_pos
  refine ⟨fun e d => ?_, fun y => ?_, ?_, r.ok.fnI r.nok hf⟩
  · simp only [Tm.ev]; rw [r.ev]
  · have := r.fv y
    simp only [Tm.fvs, List.mem_filter, decide_eq_true_eq]
    exact this
  · simp only [Tm.dep]; omega
theorem PutR.csI {b b' c c' x : Str} {t t' s u u' v v' : Tm} (r0 : PutR t x s t') (r1 : BrR b u x s b' u') (r2 : BrR c v x s c' v') : PutR (.cs t b u c v) x s (.cs t' b' u' c' v') := by
  have h0 := r0.dep
  have h1 := r1.dep
  have h2 := r2.dep
  refine ⟨fun e d => ?_, fun y => ?_, ?_, ⟨fun z hz => ?_, fun g hg => ?_⟩⟩
  · simp only [Tm.ev]; rw [r0.ev, r1.ev, r2.ev]
  · have a0 := r0.fv y
    have a1 := r1.fv y
    have a2 := r2.fv y
    simp only [Tm.fvs, List.mem_append, List.mem_filter, decide_eq_true_eq]
    rw [a0, a1, a2]
    constructor
    · rintro (h | h) <;> rcases h with h | h <;> (try rcases h with h | h) <;> simp [h]
      all_goals (try (exact .inr (.inl h.1)))
    · rintro (⟨h | h | h, q⟩ | ⟨h | h | h, q⟩) <;> simp [h, q]
  · simp only [Tm.dep]; omega
  · simp only [Tm.nms, List.mem_append, List.mem_cons] at hz
    rcases hz with (h | h | h) | h | h
    · exact r0.ok.n _ h
    · rw [h]; exact r1.nok
    · exact r1.ok.n _ h
    · rw [h]; exact r2.nok
    · exact r2.ok.n _ h
  · simp only [Tm.fms, List.mem_append] at hg
    rcases hg with (h | h) | h
    · exact r0.ok.f _ h
    · exact r1.ok.f _ h
    · exact r2.ok.f _ h
/-- all parts of a term that binds nothing -/
theorem PutR.withS {t s : Tm} {x : Str} {us : List Tm} (hk : t.kind ≠ "fun" ∧ t.kind ≠ "case" ∧ t.kind ≠ "var") (ht : t.Ok) (hl : us.length = t.subs.length) (h : ∀ (j : Nat) (u u' : Tm), t.subs[j]? = some u → us[j]? = some u' → PutR u x s u') : PutR t x s (t.withS us) := by
  have hsp := s.dep_pos
  cases t with
  | var y => exact absurd rfl hk.2.2
  | fn b f t => exact absurd rfl hk.1
  | cs t b u c v => exact absurd rfl hk.2.1
  | unit =>
    have : us = [] := by simpa [Tm.subs] using hl
    subst this
    exact PutR.none (by simp [Tm.fvs]) ht
  | app a b =>
    match us, hl with
    | [a', b'], _ =>
      have r1 := h 0 a a' rfl rfl
      have r2 := h 1 b b' rfl rfl
      have h1 := r1.dep
      have h2 := r2.dep
      refine ⟨fun e d => by simp only [Tm.withS, Tm.ev]; rw [r1.ev, r2.ev], fun y => ?_, by simp only [Tm.withS, Tm.dep]; omega, ⟨fun z hz => ?_, fun g hg => ?_⟩⟩
      · simp only [Tm.withS, Tm.fvs, List.mem_append]
        rw [r1.fv, r2.fv]
        constructor
        · rintro ((p | p) | p | p) <;> simp [p]
        · rintro (⟨p | p, q⟩ | ⟨p | p, q⟩) <;> simp [p, q]
      · simp only [Tm.withS, Tm.nms, List.mem_append] at hz; exact hz.elim (r1.ok.n _) (r2.ok.n _)
      · simp only [Tm.withS, Tm.fms, List.mem_append] at hg; exact hg.elim (r1.ok.f _) (r2.ok.f _)
  | pair a b =>
    match us, hl with
    | [a', b'], _ =>
      have r1 := h 0 a a' rfl rfl
      have r2 := h 1 b b' rfl rfl
      have h1 := r1.dep
      have h2 := r2.dep
      refine ⟨fun e d => by simp only [Tm.withS, Tm.ev]; rw [r1.ev, r2.ev], fun y => ?_, by simp only [Tm.withS, Tm.dep]; omega, ⟨fun z hz => ?_, fun g hg => ?_⟩⟩
      · simp only [Tm.withS, Tm.fvs, List.mem_append]
        rw [r1.fv, r2.fv]
        constructor
        · rintro ((p | p) | p | p) <;> simp [p]
        · rintro (⟨p | p, q⟩ | ⟨p | p, q⟩) <;> simp [p, q]
      · simp only [Tm.withS, Tm.nms, List.mem_append] at hz; exact hz.elim (r1.ok.n _) (r2.ok.n _)
      · simp only [Tm.withS, Tm.fms, List.mem_append] at hg; exact hg.elim (r1.ok.f _) (r2.ok.f _)
  | fst a =>
    match us, hl with
    | [a'], _ =>
      have r := h 0 a a' rfl rfl
      have h1 := r.dep
      exact ⟨fun e d => by simp only [Tm.withS, Tm.ev]; rw [r.ev], r.fv, by simp only [Tm.withS, Tm.dep]; omega, ⟨r.ok.n, r.ok.f⟩⟩
  | snd a =>
    match us, hl with
    | [a'], _ =>
      have r := h 0 a a' rfl rfl
      have h1 := r.dep
      exact ⟨fun e d => by simp only [Tm.withS, Tm.ev]; rw [r.ev], r.fv, by simp only [Tm.withS, Tm.dep]; omega, ⟨r.ok.n, r.ok.f⟩⟩
  | lft a f =>
    match us, hl with
    | [a'], _ =>
      have r := h 0 a a' rfl rfl
      have h1 := r.dep
      have hf := ht.f f (by simp [Tm.fms])
      exact ⟨fun e d => by simp only [Tm.withS, Tm.ev]; rw [r.ev], r.fv, by simp only [Tm.withS, Tm.dep]; omega, ⟨r.ok.n, fun g hg => (List.mem_cons.mp hg).elim (fun e => by rw [e]; exact hf) (r.ok.f g)⟩⟩
  | rgt f a =>
    match us, hl with
    | [a'], _ =>
      have r := h 0 a a' rfl rfl
      have h1 := r.dep
      have hf := ht.f f (by simp [Tm.fms])
      exact ⟨fun e d => by simp only [Tm.withS, Tm.ev]; rw [r.ev], r.fv, by simp only [Tm.withS, Tm.dep]; omega, ⟨r.ok.n, fun g hg => (List.mem_cons.mp hg).elim (fun e => by rw [e]; exact hf) (r.ok.f g)⟩⟩
  | absd a f =>
    match us, hl with
    | [a'], _ =>
      have r := h 0 a a' rfl rfl
      have h1 := r.dep
      have hf := ht.f f (by simp [Tm.fms])
      exact ⟨fun e d => by simp only [Tm.withS, Tm.ev]; rw [r.ev], r.fv, by simp only [Tm.withS, Tm.dep]; omega, ⟨r.ok.n, fun g hg => (List.mem_cons.mp hg).elim (fun e => by rw [e]; exact hf) (r.ok.f g)⟩⟩
end Sq
set_option Elab.async false
set_option linter.all false
set_option maxRecDepth 100000
set_option maxHeartbeats 2000000
namespace Sq
open PySem PySem.Spec PyProof.Rows L2
/-! ### formulas of terms, where names have formulas -/
abbrev Ctx := Str → Option Fm
def Ctx.up (G : Ctx) (x : Str) (f : Fm) : Ctx := fun y => if y = x then some f else G y
theorem lk_put (l : Tab) (n : Str) (t : Fm) : lk (putL l n t) = Ctx.up (lk l) n t := by
  funext x
  unfold putL Ctx.up
  split
  · rename_i h
    have key : ∀ l : Tab, (lk l n).isSome = true → lk (l.map fun p => if p.1 = n then (p.1, t) else p) x = if x = n then some t else lk l x := fun l => by
      induction l with
      | nil => intro h; cases h
      | cons p l ih =>
        intro h
        obtain ⟨k, u⟩ := p
        rw [List.map_cons]
        by_cases e : k = n
        · subst e
          simp only [if_true, lk]
          by_cases e2 : k = x
          · simp [e2]
          · have e3 : ¬ x = k := fun z => e2 z.symm
            simp only [if_neg e2, if_neg e3]
            by_cases hs : (lk l k).isSome = true
            · rw [ih hs, if_neg e3]
            · have hn : k ∉ l.map (·.1) := lk_none.mp (by simpa using hs)
              have : (l.map fun p => if p.1 = k then (p.1, t) else p) = l := by
                exact (List.map_congr_left fun p hp => if_neg fun z => hn (List.mem_map.mpr ⟨p, hp, z⟩)).trans (List.map_id' l)
              rw [this]
        · simp only [if_neg e, lk]
          simp only [lk, if_neg e] at h
          by_cases e2 : k = x
          · have : ¬ x = n := fun z => e (e2.trans z)
            simp [e2, this]
          · simp only [if_neg e2]; exact ih h
    exact key l h
  · rename_i h
    exact lk_snoc (by simpa using h) x
namespace Tm
def ty : Tm → Ctx → Option Fm
  | var x, G => G x
  | unit, _ => some .one
  | fn x f t, G => (ty t (G.up x f)).map (Fm.bin .to f)
  | app t u, G => match ty t G with
    | some (.bin .to a b) => if ty u G = some a then some b else none
    | _ => none
  | pair t u, G => match ty t G with
    | some a => (ty u G).map (Fm.bin .both a)
    | _ => none
  | fst t, G => match ty t G with
    | some (.bin .both a _) => some a
    | _ => none
  | snd t, G => match ty t G with
    | some (.bin .both _ b) => some b
    | _ => none
  | lft t f, G => (ty t G).map fun a => Fm.bin .either a f
  | rgt f t, G => (ty t G).map fun b => Fm.bin .either f b
  | cs t x u y v, G => match ty t G with
    | some (.bin .either a b) => match ty u (G.up x a) with
      | some c => if ty v (G.up y b) = some c then some c else none
      | _ => none
    | _ => none
  | absd t f, G => if ty t G = some Fm.none then some f else none
theorem ty_congr : ∀ (t : Tm) {G G' : Ctx}, (∀ x ∈ t.fvs, G x = G' x) → t.ty G = t.ty G' := by
  have hup : ∀ (x : Str) (f : Fm) (u : Tm) {G G' : Ctx}, (∀ y ∈ u.fvs.filter (fun z => decide (z ≠ x)), G y = G' y) → ∀ y ∈ u.fvs, G.up x f y = G'.up x f y := fun x f u G G' h y hy => by
    unfold Ctx.up
    by_cases q : y = x
    · rw [if_pos q, if_pos q]
    · rw [if_neg q, if_neg q]; exact h y (List.mem_filter.mpr ⟨hy, decide_eq_true q⟩)
  intro t
  induction t with
  | var x => intro G G' h; exact h x (by simp [fvs])
  | unit => intro G G' h; rfl
  | fn x f t ih => intro G G' h; simp only [ty]; rw [ih (hup x f t h)]
  | app t u i1 i2 => intro G G' h; simp only [ty]; rw [i1 fun y hy => h y (by simp [fvs, hy]), i2 fun y hy => h y (by simp [fvs, hy])]
  | pair t u i1 i2 => intro G G' h; simp only [ty]; rw [i1 fun y hy => h y (by simp [fvs, hy]), i2 fun y hy => h y (by simp [fvs, hy])]
  | fst t ih => intro G G' h; simp only [ty]; rw [ih fun y hy => h y (by simp [fvs, hy])]
  | snd t ih => intro G G' h; simp only [ty]; rw [ih fun y hy => h y (by simp [fvs, hy])]
  | lft t f ih => intro G G' h; simp only [ty]; rw [ih fun y hy => h y (by simp [fvs, hy])]
  | rgt f t ih => intro G G' h; simp only [ty]; rw [ih fun y hy => h y (by simp [fvs, hy])]
  | absd t f ih => intro G G' h; simp only [ty]; rw [ih fun y hy => h y (by simp [fvs, hy])]
  | cs t x u y v i1 i2 i3 =>
    intro G G' h
    have k1 : ∀ z ∈ t.fvs, G z = G' z := fun z hz => h z (by simp [fvs, hz])
    have k2 : ∀ a, u.ty (G.up x a) = u.ty (G'.up x a) := fun a => i2 (hup x a u fun z hz => h z (by rw [fvs]; simp only [List.mem_append]; exact .inr (.inl hz)))
    have k3 : ∀ a, v.ty (G.up y a) = v.ty (G'.up y a) := fun a => i3 (hup y a v fun z hz => h z (by rw [fvs]; simp only [List.mem_append]; exact .inr (.inr hz)))
    simp only [ty]
    rw [i1 k1]
    simp only [k2, k3]
/-- a typed term's free names have formulas -/
theorem ty_fvs : ∀ (t : Tm) {G : Ctx} {g : Fm}, t.ty G = some g → ∀ x ∈ t.fvs, G x ≠ none := by
  have hup : ∀ (x : Str) (f : Fm) (u : Tm) {G : Ctx}, (∀ y ∈ u.fvs, G.up x f y ≠ none) → ∀ y ∈ u.fvs.filter (fun z => decide (z ≠ x)), G y ≠ none := fun x f u G h y hy => by
    obtain ⟨h1, h2⟩ := List.mem_filter.mp hy
    have := h y h1
    unfold Ctx.up at this
    rwa [if_neg (of_decide_eq_true h2)] at this
  intro t
  induction t with
  | var x => intro G g h y hy; rw [show y = x by simpa [fvs] using hy]; simp only [ty] at h; rw [h]; simp
  | unit => intro G g h y hy; simp [fvs] at hy
  | fn x f t ih =>
    intro G g h
    simp only [ty, Option.map_eq_some_iff] at h
    obtain ⟨a, ha, _⟩ := h
    exact hup x f t (ih ha)
  | app t u i1 i2 =>
    intro G g h y hy
    simp only [ty] at h
    split at h
    · rename_i a b e
      split at h
      · rename_i e2
        simp only [fvs, List.mem_append] at hy
        exact hy.elim (i1 e y) (i2 e2 y)
      · cases h
    · cases h
  | pair t u i1 i2 =>
    intro G g h y hy
    simp only [ty] at h
    split at h
    · rename_i a e
      rw [Option.map_eq_some_iff] at h
      obtain ⟨b, e2, _⟩ := h
      simp only [fvs, List.mem_append] at hy
      exact hy.elim (i1 e y) (i2 e2 y)
    · cases h
  | fst t ih =>
    intro G g h
    simp only [ty] at h
    split at h
    · rename_i e; exact ih e
    · cases h
  | snd t ih =>
    intro G g h
    simp only [ty] at h
    split at h
    · rename_i e; exact ih e
    · cases h
  | lft t f ih =>
    intro G g h
    simp only [ty, Option.map_eq_some_iff] at h
    obtain ⟨a, ha, _⟩ := h
    exact ih ha
  | rgt f t ih =>
    intro G g h
    simp only [ty, Option.map_eq_some_iff] at h
    obtain ⟨a, ha, _⟩ := h
    exact ih ha
  | absd t f ih =>
    intro G g h
    simp only [ty] at h
    split at h
    · rename_i e; exact ih e
    · cases h
  | cs t x u y v i1 i2 i3 =>
    intro G g h z hz
    simp only [ty] at h
    split at h
    · rename_i a b e
      split at h
      · rename_i c e2
        split at h
        · rename_i e3
          simp only [fvs, List.mem_append] at hz
          rcases hz with hz | hz | hz
          · exact i1 e z hz
          · exact hup x a u (i2 e2) z hz
          · exact hup y b v (i3 e3) z hz
        · cases h
      · cases h
    · cases h
/-- more names with formulas change nothing -/
theorem ty_more {t : Tm} {G G' : Ctx} {g : Fm} (h : t.ty G = some g) (k : ∀ x ∈ t.fvs, ∀ f, G x = some f → G' x = some f) : t.ty G' = some g := by
  rw [← h]
  refine (ty_congr t fun x hx => ?_).symm
  cases e : G x with
  | none => exact absurd e (ty_fvs t h x hx)
  | some f => rw [k x hx f e]
/-- how large formulas may be -/
structure TyB (N : Nat) (t : Tm) (G : Ctx) : Prop where
  c : ∀ x f, G x = some f → f.dep ≤ N ∧ AbcF f
  f : ∀ f ∈ t.fms, f.dep ≤ N ∧ AbcF f
theorem TyB.up {N : Nat} {t : Tm} {G : Ctx} {x : Str} {f : Fm} (h : TyB N t G) (hf : f.dep ≤ N ∧ AbcF f) {u : Tm} (hu : ∀ g ∈ u.fms, g ∈ t.fms) : TyB N u (G.up x f) :=
  ⟨fun y g e => by
    unfold Ctx.up at e
    split at e
    · cases e; exact hf
    · exact h.c y g e, fun g hg => h.f g (hu g hg)⟩
theorem TyB.sub {N : Nat} {t u : Tm} {G : Ctx} (h : TyB N t G) (hu : ∀ g ∈ u.fms, g ∈ t.fms) : TyB N u G := ⟨h.c, fun g hg => h.f g (hu g hg)⟩
theorem TyB.mono {N M : Nat} {t : Tm} {G : Ctx} (h : TyB N t G) (k : N ≤ M) : TyB M t G := ⟨fun x f e => ⟨Nat.le_trans (h.c x f e).1 k, (h.c x f e).2⟩, fun f hf => ⟨Nat.le_trans (h.f f hf).1 k, (h.f f hf).2⟩⟩
theorem abc_bin {j : Jn} {a b : Fm} : AbcF (.bin j a b) ↔ AbcF a ∧ AbcF b :=
  ⟨fun h => ⟨fun x hx => h x (List.mem_append_left _ hx), fun x hx => h x (List.mem_append_right _ hx)⟩, fun h x hx => (List.mem_append.mp hx).elim (h.1 x) (h.2 x)⟩
/-- how much a term's formula may be deeper than its names' -/
def gr : Tm → Nat
  | var _ => 0
  | unit => 0
  | fn _ _ t => t.gr + 1
  | app t u => max t.gr u.gr
  | pair t u => max t.gr u.gr + 1
  | fst t => t.gr
  | snd t => t.gr
  | lft t _ => t.gr + 1
  | rgt _ t => t.gr + 1
  | absd t _ => t.gr
  | cs t _ u _ v => t.gr + max u.gr v.gr
theorem ty_dep : ∀ (t : Tm) {G : Ctx} {g : Fm} {N : Nat}, t.ty G = some g → TyB N t G → 1 ≤ N → g.dep ≤ N + t.gr ∧ AbcF g := by
  intro t
  induction t with
  | var x => intro G g N h b _; have := b.c x g h; exact ⟨by omega, this.2⟩
  | unit => intro G g N h b _; cases h; exact ⟨by simp only [Fm.dep]; omega, fun y hy => nomatch hy⟩
  | fn x f t ih =>
    intro G g N h b hN
    simp only [ty, Option.map_eq_some_iff] at h
    obtain ⟨a, ha, rfl⟩ := h
    have hf := b.f f (by simp [fms])
    have := ih ha (b.up hf fun q hq => by simp [fms, hq]) hN
    exact ⟨by simp only [Fm.dep, gr]; omega, abc_bin.mpr ⟨hf.2, this.2⟩⟩
  | app t u i1 i2 =>
    intro G g N h b hN
    simp only [ty] at h
    split at h
    · rename_i a c e
      split at h
      · cases h
        have := i1 e (b.sub fun q hq => by simp [fms, hq]) hN
        simp only [Fm.dep] at this
        exact ⟨by simp only [gr]; omega, (abc_bin.mp this.2).2⟩
      · cases h
    · cases h
  | pair t u i1 i2 =>
    intro G g N h b hN
    simp only [ty] at h
    split at h
    · rename_i a e
      rw [Option.map_eq_some_iff] at h
      obtain ⟨c, e2, rfl⟩ := h
      have h1 := i1 e (b.sub fun q hq => by simp [fms, hq]) hN
      have h2 := i2 e2 (b.sub fun q hq => by simp [fms, hq]) hN
      exact ⟨by simp only [Fm.dep, gr]; omega, abc_bin.mpr ⟨h1.2, h2.2⟩⟩
    · cases h
  | fst t ih =>
    intro G g N h b hN
    simp only [ty] at h
    split at h
    · rename_i a c e
      cases h
      have := ih e (b.sub fun q hq => by simp [fms, hq]) hN
      simp only [Fm.dep] at this
      exact ⟨by simp only [gr]; omega, (abc_bin.mp this.2).1⟩
    · cases h
  | snd t ih =>
    intro G g N h b hN
    simp only [ty] at h
    split at h
    · rename_i a c e
      cases h
      have := ih e (b.sub fun q hq => by simp [fms, hq]) hN
      simp only [Fm.dep] at this
      exact ⟨by simp only [gr]; omega, (abc_bin.mp this.2).2⟩
    · cases h
  | lft t f ih =>
    intro G g N h b hN
    simp only [ty, Option.map_eq_some_iff] at h
    obtain ⟨a, ha, rfl⟩ := h
    have hf := b.f f (by simp [fms])
    have := ih ha (b.sub fun q hq => by simp [fms, hq]) hN
    exact ⟨by simp only [Fm.dep, gr]; omega, abc_bin.mpr ⟨this.2, hf.2⟩⟩
  | rgt f t ih =>
    intro G g N h b hN
    simp only [ty, Option.map_eq_some_iff] at h
    obtain ⟨a, ha, rfl⟩ := h
    have hf := b.f f (by simp [fms])
    have := ih ha (b.sub fun q hq => by simp [fms, hq]) hN
    exact ⟨by simp only [Fm.dep, gr]; omega, abc_bin.mpr ⟨hf.2, this.2⟩⟩
  | absd t f ih =>
    intro G g N h b hN
    simp only [ty] at h
    split at h
    · cases h
      have hf := b.f f (by simp [fms])
      exact ⟨by omega, hf.2⟩
    · cases h
  | cs t x u y v i1 i2 i3 =>
    intro G g N h b hN
    simp only [ty] at h
    split at h
    · rename_i a c e
      have h1 := i1 e (b.sub fun q hq => by simp [fms, hq]) hN
      simp only [Fm.dep] at h1
      split at h
      · rename_i d e2
        split at h
        · cases h
          have h2 := i2 (N := N + t.gr) e2 ((b.mono (Nat.le_add_right _ _)).up ⟨by omega, (abc_bin.mp h1.2).1⟩ fun q hq => by simp [fms, hq]) (by omega)
          exact ⟨by simp only [gr]; omega, h2.2⟩
        · cases h
      · cases h
    · cases h
end Tm
end Sq
set_option Elab.async false
set_option linter.all false
set_option maxRecDepth 100000
set_option maxHeartbeats 2000000
namespace Sq
open PySem PySem.Spec PyProof.Rows L2
/-! ### drawn terms have the formula that was asked -/
/-- the parts of pairs are taken of names alone -/
def Tm.pv : Tm → Bool
  | .fst (.var _) => true
  | .snd (.var _) => true
  | .fst _ => false
  | .snd _ => false
  | .var _ => true
  | .unit => true
  | .fn _ _ t => pv t
  | .app t u => pv t && pv u
  | .pair t u => pv t && pv u
  | .lft t _ => pv t
  | .rgt _ t => pv t
  | .absd t _ => pv t
  | .cs t _ u _ v => pv t && pv u && pv v
structure Dr (d : Nat) (t : Tm) (l : Tab) (g : Fm) : Prop where
  gd : Gd d t
  ty : t.ty (lk l) = some g
  gr : t.gr ≤ d
  pv : t.pv = true
variable {d : Nat} {t u : Tm} {l : Tab} {f g a b : Fm} {x y : Str}
theorem Dr.var (hx : x ∈ NX) (h : lk l x = some g) : Dr d (.var x) l g := ⟨.var hx, h, Nat.zero_le _, rfl⟩
theorem Dr.unit : Dr d .unit l .one := ⟨.unit, rfl, Nat.zero_le _, rfl⟩
theorem Dr.fn (hx : x ∈ NX) (hf : FGd f) (h : Dr d t (putL l x f) g) : Dr (d + 1) (.fn x f t) l (.bin .to f g) := ⟨.fn hx hf h.gd, by
  have := h.ty
  rw [lk_put] at this
  simp only [Tm.ty, this]; rfl, by have := h.gr; simp only [Tm.gr]; omega, h.pv⟩
theorem Dr.cut (hx : x ∈ NX) (hf : FGd f) (h : Dr d t (putL l x f) g) (k : Dr d u l f) : Dr (d + 1) (.app (.fn x f t) u) l g := ⟨.cut hx hf h.gd k.gd, by
  have := h.ty
  rw [lk_put] at this
  simp only [Tm.ty, this, Option.map_some, k.ty, if_true], by have := h.gr; have := k.gr; simp only [Tm.gr]; omega, by simp only [Tm.pv, h.pv, k.pv, Bool.and_self]⟩
theorem Dr.pair (h : Dr d t l a) (k : Dr d u l b) : Dr (d + 1) (.pair t u) l (.bin .both a b) := ⟨.pair h.gd k.gd, by simp only [Tm.ty, h.ty, k.ty, Option.map_some], by have := h.gr; have := k.gr; simp only [Tm.gr]; omega, by simp only [Tm.pv, h.pv, k.pv, Bool.and_self]⟩
theorem Dr.lft (hf : FGd f) (h : Dr d t l a) : Dr (d + 1) (.lft t f) l (.bin .either a f) := ⟨.lft hf h.gd, by simp only [Tm.ty, h.ty, Option.map_some], by have := h.gr; simp only [Tm.gr]; omega, h.pv⟩
theorem Dr.rgt (hf : FGd f) (h : Dr d t l b) : Dr (d + 1) (.rgt f t) l (.bin .either f b) := ⟨.rgt hf h.gd, by simp only [Tm.ty, h.ty, Option.map_some], by have := h.gr; simp only [Tm.gr]; omega, h.pv⟩
theorem Dr.absd (hx : x ∈ NX) (h : lk l x = some .none) (hf : FGd g) : Dr d (.absd (.var x) g) l g := ⟨.absd hx hf, by simp only [Tm.ty, h, if_true], Nat.zero_le _, rfl⟩
theorem Dr.fst (hx : x ∈ NX) (h : lk l x = some (.bin .both g b)) : Dr d (.fst (.var x)) l g := ⟨.fst hx, by simp only [Tm.ty, h], Nat.zero_le _, rfl⟩
theorem Dr.snd (hx : x ∈ NX) (h : lk l x = some (.bin .both a g)) : Dr d (.snd (.var x)) l g := ⟨.snd hx, by simp only [Tm.ty, h], Nat.zero_le _, rfl⟩
theorem Dr.useA (hx : x ∈ NX) (h : lk l x = some (.bin .to a g)) (k : Dr d t l a) : Dr (d + 1) (.app (.var x) t) l g := ⟨.useA hx k.gd, by simp only [Tm.ty, h, k.ty, if_true], by have := k.gr; simp only [Tm.gr]; omega, by simp only [Tm.pv, k.pv, Bool.and_self]⟩
/-- what was typed with q at hand and without it is typed where more names are -/
theorem ty_q {rl : Tab} (h : t.ty (lk (putL (putL rl "q" .one) y a)) = some g) (hq : (Str.ofString "q") ∉ t.fvs) (hr : ∀ z f, lk rl z = some f → lk l z = some f) : t.ty (Ctx.up (lk l) y a) = some g := by
  rw [lk_put, lk_put] at h
  refine Tm.ty_more h fun z hz f e => ?_
  unfold Ctx.up at e ⊢
  by_cases h1 : z = y
  · rw [if_pos h1] at e ⊢; exact e
  · rw [if_neg h1] at e ⊢
    rw [if_neg (fun k => hq (by rw [← k]; exact hz))] at e
    exact hr z f e
theorem Dr.cs {rl : Tab} (hx : x ∈ NX) (hy : y ∈ NX) (h : lk l x = some (.bin .either a b)) (k1 : Dr d t (putL (putL rl "q" .one) y a) g) (k2 : Dr d u (putL (putL rl "q" .one) y b) g) (hq1 : (Str.ofString "q") ∉ t.fvs) (hq2 : (Str.ofString "q") ∉ u.fvs)
    (hr : ∀ z f, lk rl z = some f → lk l z = some f) : Dr (d + 1) (.cs (.var x) y t y u) l g := ⟨.cs hx hy k1.gd k2.gd, by
  simp only [Tm.ty, h, ty_q k1.ty hq1 hr, ty_q k2.ty hq2 hr, if_true], by have := k1.gr; have := k2.gr; simp only [Tm.gr]; omega, by simp only [Tm.pv, k1.pv, k2.pv, Bool.and_self]⟩
theorem lk_filter {l : Tab} {n : Str} {z : Str} {f : Fm} (h : lk (l.filter fun p => decide (p.1 ≠ n)) z = some f) : lk l z = some f := by
  induction l with
  | nil => cases h
  | cons p l ih =>
    obtain ⟨k, u⟩ := p
    rw [List.filter_cons] at h
    split at h
    · rename_i hk
      simp only [lk] at h ⊢
      split at h
      · rename_i e; rw [if_pos e]; exact h
      · rename_i e; rw [if_neg e]; exact ih h
    · rename_i hk
      have hk : k = n := by simpa using hk
      have := ih h
      simp only [lk]
      by_cases e : k = z
      · exfalso
        have hm := lk_mem h
        rw [List.mem_filter] at hm
        exact of_decide_eq_true hm.2 (e ▸ hk)
      · rw [if_neg e]; exact this
end Sq
set_option Elab.async false
set_option linter.all false
set_option maxRecDepth 100000
set_option maxHeartbeats 4000000
namespace Sq
open PySem PySem.Spec PyProof.Rows L2 RZ
local macro_rules | `(tactic| walk_at "rd") => `(tactic| simp only [tCont, tNever, iEnumL, iRng1, rPop0, rTIndex, rKdIx, rKdNin, tDG2, rU, tTIdx, iZipS, rDictC, rDictP, tDisp, tPairs, rIndexS, wipe, tNoPart, tDG2, tDGF, tDInF, tDNInF, sDPutF, tDNewF, rSortD, rInS, rInT, rEqLF, tDcF, tDc2F, tLcF, tForF, tAllF, tAnyF, tSumF, iStr, iEnumF, iZipF, iKeysF, iItems, tLZip, tYes, tSeq, tIfS, tNext, tRet, tRetN, tDrop, tTest, tB, tNot, tAnd, tOr, tChain, tOp, tUn, tCB, tCons, tNil, tC, tVar, tIf, tAndV, tOrV, tNotV, tAsg, tPar, tPar3, gName, gSub, gTupF, gCons, gNil, tTupF, tLstF, rI0, rI, rIxF, rIxG, rIxS, rSetF, rSlF, rCatF, rCatL, rTupL, rListT, rListL, rLenT, rLenL, iTupF, iLstF, rAppF, rExtF, rPopF, tBM, tBM0, tSl, tPart, rEq, rNe, tCall, L2.start,
  List.map_cons, List.map_nil, List.length_cons, List.length_nil, Nat.sub_self, List.replicate, List.append_nil, List.cons_append, List.nil_append, List.getElem?_cons_zero, List.getElem?_cons_succ, List.set_cons_zero, List.set_cons_succ,
  exSl, exI, exI2, exB, exS, exR, ex1, ex1', V.int.injEq, V.bl.injEq, V.ref.injEq, V.str.injEq, Option.some.injEq, List.cons.injEq, and_true, true_and, reduceCtorEq, false_and, and_false, or_false, false_or, exists_false, exists_and_left, exists_eq_left', decide_eq_true_eq, decide_true, decide_false, if_false, if_true, ite_true, ite_false, Bool.false_eq_true, Bool.not_true, Bool.not_false, Nat.reduceAdd, Nat.reduceSub, Nat.zero_add, atI_0, atI_1, atI_2, atI_3, ixN_0, ixN_1, ixN_2, cutV_1, cutV_2, Option.some.injEq, HO.lst.injEq, HO.dK.injEq, scal])
local macro_rules | `(tactic| walk_at "rdc") => `(tactic| simp (config := { contextual := true }) only [tCont, tNever, iEnumL, iRng1, rPop0, rTIndex, rKdIx, rKdNin, tDG2, rU, tTIdx, iZipS, rDictC, rDictP, tDisp, tPairs, rIndexS, wipe, tNoPart, tDG2, tDGF, tDInF, tDNInF, sDPutF, tDNewF, rSortD, rInS, rInT, rEqLF, tDcF, tDc2F, tLcF, tForF, tAllF, tAnyF, tSumF, iStr, iEnumF, iZipF, iKeysF, iItems, tLZip, tYes, tSeq, tIfS, tNext, tRet, tRetN, tDrop, tTest, tB, tNot, tAnd, tOr, tChain, tOp, tUn, tCB, tCons, tNil, tC, tVar, tIf, tAndV, tOrV, tNotV, tAsg, tPar, tPar3, gName, gSub, gTupF, gCons, gNil, tTupF, tLstF, rI0, rI, rIxF, rIxG, rIxS, rSetF, rSlF, rCatF, rCatL, rTupL, rListT, rListL, rLenT, rLenL, iTupF, iLstF, rAppF, rExtF, rPopF, tBM, tBM0, tSl, tPart, rEq, rNe, tCall, L2.start,
  List.map_cons, List.map_nil, List.length_cons, List.length_nil, Nat.sub_self, List.replicate, List.append_nil, List.cons_append, List.nil_append, List.getElem?_cons_zero, List.getElem?_cons_succ, List.set_cons_zero, List.set_cons_succ,
  exSl, exI, exI2, exB, exS, exR, ex1, ex1', V.int.injEq, V.bl.injEq, V.ref.injEq, V.str.injEq, Option.some.injEq, List.cons.injEq, and_true, true_and, reduceCtorEq, false_and, and_false, or_false, false_or, exists_false, exists_and_left, exists_eq_left', decide_eq_true_eq, decide_true, decide_false, if_false, if_true, ite_true, ite_false, Bool.false_eq_true, Bool.not_true, Bool.not_false, Nat.reduceAdd, Nat.reduceSub, Nat.zero_add, atI_0, atI_1, atI_2, atI_3, ixN_0, ixN_1, ixN_2, cutV_1, cutV_2, Option.some.injEq, HO.lst.injEq, HO.dK.injEq, scal, *])
theorem td_strs {K : PySem.W.Frag} {H : Hp} : ∀ ns : List Str, TdAll K H (ns.map V.str) (ns.map PyData.str)
  | [] => .nil
  | n :: ns => .cons (.str n) (td_strs ns)
theorem sh_strs {ns : List Str} (h : ∀ n ∈ ns, n ∈ NX) : SeqAt.shaped (.list (ns.map PyData.str)) = true := by
  have : PyData.canLayAll0 (ns.map PyData.str) = true ∧ PyData.depthAll (ns.map PyData.str) = 0 := by
    induction ns with
    | nil => exact ⟨by rw [List.map_nil, PyData.canLayAll0], by rw [List.map_nil, PyData.depthAll]⟩
    | cons x l ih =>
      have ih := ih fun n hn => h n (List.mem_cons_of_mem _ hn)
      have hx : PyData.strOk x = true := by
        rcases nx_cases (h x List.mem_cons_self) with e | e | e | e | e <;> subst e <;> decide +kernel
      exact ⟨by rw [List.map_cons, PyData.canLayAll0, ih.1, PyData.canLay0, hx]; rfl, by rw [List.map_cons, PyData.depthAll, ih.2, PyData.depth]; rfl⟩
  unfold SeqAt.shaped
  rw [PyData.canLay0, PyData.depth, this.1, this.2]
  rfl
/-- a drawn context where d is still to come -/
structure CtxO (l : Tab) (d : Nat) : Prop where
  n : ∀ p ∈ l, p.1 ∈ NX ∧ FGd p.2
  nd : (l.map (·.1)).Nodup
  few : l.length + d ≤ 4
theorem FGd.sh {NS : List Str} {f : Fm} (h : FGd f) (hN : NsOk NS) (hA : ∀ x ∈ ABC, x ∈ NS) : SeqAt.shaped f.data = true := Fm.shaped hN (fun x hx => hA x (h.2 x hx)) (by have := h.1; omega)
theorem TabK.keys {K : PySem.W.Frag} {H : Hp} : ∀ {kvs : List (Key × V)} {l : Tab}, TabK K H kvs l → kvs.map (·.1) = (l.map (·.1)).map Sum.inr
  | _, _, .nil => rfl
  | _, _, .cons _ r => by rw [List.map_cons, List.map_cons, List.map_cons, r.keys]
theorem FGd.b {j : Jn} {s t : Fm} (h : FGd (.bin j s t)) : FGd s ∧ FGd t := by
  have h1 := h.1
  simp only [Fm.dep] at h1
  exact ⟨⟨by omega, fun x hx => h.2 x (List.mem_append_left _ hx)⟩, ⟨by omega, fun x hx => h.2 x (List.mem_append_right _ hx)⟩⟩
theorem hd_is {g : Fm} {j : Jn} (h : V.str g.hd = V.str j.str) : ∃ s t, g = .bin j s t := by
  have h := V.str.inj h
  cases g with
  | bin k s t => have e : k = j := Jn.inj h; subst e; exact ⟨s, t, rfl⟩
  | name x => cases j <;> exact absurd h (by simp only [Fm.hd, Jn.str]; decide)
  | one => cases j <;> exact absurd h (by simp only [Fm.hd, Jn.str]; decide)
  | none => cases j <;> exact absurd h (by simp only [Fm.hd, Jn.str]; decide)
theorem lg4 {n : Nat} (h : n ≤ 3) : ((n : Nat) : Int).natAbs.log2 < 1920 := by
  have : n = 0 ∨ n = 1 ∨ n = 2 ∨ n = 3 := by omega
  rcases this with h | h | h | h <;> subst h <;> decide
theorem ln4 {n : Nat} (h : n ≤ 3) : (Str.ofString "x").length + (Str.ofString (toString ((n : Nat) : Int))).length ≤ sizeLine := by
  have : n = 0 ∨ n = 1 ∨ n = 2 ∨ n = 3 := by omega
  rcases this with h | h | h | h <;> subst h <;> decide +kernel
theorem td_nn {K : PySem.W.Frag} {H : Hp} {v : V} {t : Tm} (h : Td K H v t.data) : v ≠ .non := by
  obtain ⟨_, _, rfl, _, _⟩ := tm_hd h
  exact fun z => by cases z
theorem putL_len (l : Tab) (n : Str) (t : Fm) : (putL l n t).length ≤ l.length + 1 := by
  unfold putL; split <;> simp
theorem putL_keys (l : Tab) (n : Str) (t : Fm) : ∀ p ∈ putL l n t, p ∈ l ∨ p = (n, t) := fun p hp => by
  unfold putL at hp
  split at hp
  · obtain ⟨q, hq, e⟩ := List.mem_map.mp hp
    split at e
    · rename_i h
      right
      rw [← e, h]
    · left; rw [← e]; exact hq
  · simpa using hp
theorem putL_nd {l : Tab} {n : Str} {t : Fm} (h : (l.map (·.1)).Nodup) : ((putL l n t).map (·.1)).Nodup := by
  unfold putL
  split
  · have : (l.map fun p => if p.1 = n then (p.1, t) else p).map (·.1) = l.map (·.1) := by
      rw [List.map_map]
      refine List.map_congr_left fun p _ => ?_
      show (if p.1 = n then (p.1, t) else p).1 = p.1
      split <;> rfl
    rw [this]; exact h
  · rename_i hn
    have hn : lk l n = none := by simpa using hn
    rw [List.map_append, List.nodup_append]
    refine ⟨h, by simp, fun a ha b hb => ?_⟩
    have : b = n := by simpa using hb
    subst this
    rintro rfl
    exact lk_none.mp hn ha
theorem CtxO.put {l : Tab} {d : Nat} {n : Str} {t : Fm} (h : CtxO l (d + 1)) (hn : n ∈ NX) (ht : FGd t) : CtxO (putL l n t) d :=
  ⟨fun p hp => (putL_keys l n t p hp).elim (h.n p) fun e => by rw [e]; exact ⟨hn, ht⟩, putL_nd h.nd, by have := putL_len l n t; have := h.few; omega⟩
theorem CtxO.less {l : Tab} {d : Nat} (h : CtxO l (d + 1)) : CtxO l d := ⟨h.n, h.nd, by have := h.few; omega⟩
theorem CtxO.len {l : Tab} {d : Nat} (h : CtxO l d) : l.length ≤ 4 := by have := h.few; omega
section
variable {P : Program} {w : World} {K : PySem.W.Frag} {mg : Str → Option Value} {base : Heap} {f c : Addr} {fd : FuncData} {NS : List Str}
def spMk (K : PySem.W.Frag) (k : Nat) : Sp := fun vs H Q _ => ∃ (a b : Addr) (gv : V) (g : Fm) (l : Tab) (d : Nat), vs = [.ref a, gv, .ref b, .int (d : Nat)] ∧ 2 * d + 3 ≤ k ∧ DiceAt H a ∧ Td K H gv g.data ∧ FGd g ∧ TabD K H b l ∧ CtxO l d ∧
  ∀ v' H', Ext [a] H H' → DiceAt H' a → (v' = .non ∨ ∃ t, Dr d t l g ∧ Td K H' v' t.data) → Q v' H'
def spUs (K : PySem.W.Frag) (k : Nat) : Sp := fun vs H Q _ => ∃ (a b : Addr) (gv : V) (g : Fm) (l : Tab) (d : Nat), vs = [.ref a, gv, .ref b, .int (d : Nat)] ∧ 2 * d + 2 ≤ k ∧ DiceAt H a ∧ Td K H gv g.data ∧ FGd g ∧ TabD K H b l ∧ CtxO l d ∧
  ∀ v' H', Ext [a] H H' → DiceAt H' a → (v' = .non ∨ ∃ t, Dr d t l g ∧ Td K H' v' t.data) → Q v' H'
abbrev s__law_make : Stmt := top 30
abbrev n__law_make : List Str := ["dice", "goal", "context", "deep", "known", "name", "side", "arg", "body", "one", "two", "part"]
theorem sc__law_make : FnScope n__law_make ["dice", "goal", "context", "deep"] (defScope s__law_make) := ⟨rfl, rfl, rfl, by decide +kernel, rfl, by decide +kernel, by decide +kernel⟩
theorem step_make (F : Dn K mg "_law_make" s__law_make f fd c) (B : Bl mg) (hN : NsOk NS) (hA : ∀ x ∈ ABC, x ∈ NS) (k : Nat) (G__law_roll : Cal P w K mg base 1 "_law_roll" spRoll) (G__law_with : Cal P w K mg base 1 "_law_with" (spWith K)) (hk : 1 ≤ k)
    (G__law_make : CalG P w K mg base k "_law_make" (spMk K k)) (G__law_use : CalG P w K mg base k "_law_use" (spUs K k)) : CalG P w K mg base (k + 1) "_law_make" (spMk K (k + 1)) := by
  refine F.calG (ps := ["dice", "goal", "context", "deep"]) (fun _ _ _ _ _ _ us hl => match us, hl with | [_, _, _, _], _ => rfl) sc__law_make (fun vs H Q E h => ?_) (fun A outer s H vs Q E hr hg0 h => ?_)
  · obtain ⟨_, _, _, _, _, _, rfl, _⟩ := h; rfl
  obtain ⟨a, b, gv, g, l, d, rfl, hkd, hdi, hg, hgd, hl, hc, q⟩ := h
  refine ⟨_, (pss_cons (ps_setLcF (i := 4) (own := [("name", 5)]) rfl sc__law_make.nd rfl rfl (sw_true rfl rfl rfl (by decide +kernel)) (pi_lstK K (pe_callB (call_sortedF rfl) (by rfl) B.b_sorted (by decide +kernel) (pa_cons (pv 2) pa_nil))) (blkOk_by (own := [("name", 5)]) (N := n__law_make) (sc := defScope s__law_make) (by decide +kernel)) (fun _ _ _ _ _ => (pg_name (i := 5) sc__law_make.nd rfl (by first | exact Or.inl rfl | exact Or.inr rfl))) (fun _ _ _ _ _ => pts_one (pt_cmpR (op_eqK K hr.units) (pe_dgetF (hu_of hr) (pv 2) (pv 5) (fun _ _ => rfl)) (pv 1) (nomark _))) (fun _ _ _ _ _ => (pv 5)))
    (pss_cons (ps_if (PW.pt (pw_and (pt_cmpR (op_neLK K hr.units) (pv 4) (pe_lstF pa_nil) (nomark _)) (pw_and1 (PW.pt (pw_or (pt_cmpR op_eq (pv 3) pe_int (nomark _)) (pw_or1 (pt_cmpR op_eq (C8.pe_c G__law_roll hr (by omega) (by rfl) (pa_cons (pv 0) (pa_cons pe_int pa_nil))) pe_int (nomark _)))))))) (pss_one (ps_ret (pe_tupK K (pa_cons pe_str (pa_cons (pe_ix ix_lstF (pv 4) (C8.pe_c G__law_roll hr (by omega) (by rfl) (pa_cons (pv 0) (pa_cons (pe_callB call_lenL (by rfl) B.b_len (by decide +kernel) (pa_cons (pv 4) pa_nil)) pa_nil))) (fun _ _ => rfl)) pa_nil))))) pss_nil)
    (PSs.hide (pss_cons (ps_if (PW.pt (pw_and (pt_cmpR op_gt (pv 3) pe_int (nomark _)) (pw_and1 (pt_cmpR op_eq (C8.pe_c G__law_roll hr (by omega) (by rfl) (pa_cons (pv 0) (pa_cons pe_int pa_nil))) pe_int (nomark _))))) (pss_cons (ps_set (i := 6) sc__law_make.nd rfl (by first | exact Or.inl rfl | exact Or.inr rfl) (pe_ix ix_lstF (pe_lstF (pa_cons (pe_tupK K (pa_cons pe_str (pa_cons pe_str pa_nil))) (pa_cons (pe_tupK K (pa_cons pe_str (pa_cons (pe_tupK K (pa_cons pe_str (pa_cons pe_str pa_nil))) (pa_cons (pe_tupK K (pa_cons pe_str (pa_cons pe_str pa_nil))) pa_nil)))) (pa_cons (pe_tupK K (pa_cons pe_str (pa_cons (pe_tupK K (pa_cons pe_str (pa_cons pe_str pa_nil))) (pa_cons (pe_tupK K (pa_cons pe_str pa_nil)) pa_nil)))) (pa_cons (pe_tupK K (pa_cons pe_str pa_nil)) pa_nil))))) (C8.pe_c G__law_roll hr (by omega) (by rfl) (pa_cons (pv 0) (pa_cons pe_int pa_nil))) (fun _ _ => rfl)))
    (pss_cons (ps_set (i := 7) sc__law_make.nd rfl (by first | exact Or.inl rfl | exact Or.inr rfl) (pe_cG G__law_make hr (by omega) hg0 (by rfl) (pa_cons (pv 0) (pa_cons (pv 6) (pa_cons (pv 2) (pa_cons (pe_op op_sub (pv 3) pe_int) pa_nil))))))
    (pss_one (ps_if (pt_cmpR op_notN (pv 7) pe_non (nomark _)) (pss_cons (ps_set (i := 5) sc__law_make.nd rfl (by first | exact Or.inl rfl | exact Or.inr rfl) (pe_op op_add_str pe_str (pe_callTy call_str_int (by rfl) B.b_str (by decide +kernel) (pa_cons (pe_callB call_lenD (by rfl) B.b_len (by decide +kernel) (pa_cons (pv 2) pa_nil)) pa_nil))))
    (pss_cons (ps_set (i := 8) sc__law_make.nd rfl (by first | exact Or.inl rfl | exact Or.inr rfl) (pe_cG G__law_make hr (by omega) hg0 (by rfl) (pa_cons (pv 0) (pa_cons (pv 1) (pa_cons (C8.pe_c G__law_with hr (by omega) (by rfl) (pa_cons (pv 2) (pa_cons (pv 5) (pa_cons (pv 6) pa_nil)))) (pa_cons (pe_op op_sub (pv 3) pe_int) pa_nil))))))
    (pss_one (ps_if (pt_cmpR op_notN (pv 8) pe_non (nomark _)) (pss_one (ps_ret (pe_tupK K (pa_cons pe_str (pa_cons (pe_tupK K (pa_cons pe_str (pa_cons (pv 5) (pa_cons (pv 6) (pa_cons (pv 8) pa_nil))))) (pa_cons (pv 7) pa_nil)))))) pss_nil)))) pss_nil)))) pss_nil)
    (PSs.hide (pss_cons (ps_if (pt_cmpR (op_eqK K hr.units) (pv 1) (pe_tupK K (pa_cons pe_str pa_nil)) (nomark _)) (pss_one (ps_ret (pe_tupK K (pa_cons pe_str pa_nil)))) pss_nil)
    (PSs.hide (pss_cons (ps_if (PW.pt (pw_and (pt_cmpR op_eq (pe_ix (ix_tupK K) (pv 1) pe_int (fun _ _ => rfl)) pe_str (nomark _)) (pw_and1 (pt_cmpR op_gt (pv 3) pe_int (nomark _))))) (pss_cons (ps_set (i := 5) sc__law_make.nd rfl (by first | exact Or.inl rfl | exact Or.inr rfl) (pe_op op_add_str pe_str (pe_callTy call_str_int (by rfl) B.b_str (by decide +kernel) (pa_cons (pe_callB call_lenD (by rfl) B.b_len (by decide +kernel) (pa_cons (pv 2) pa_nil)) pa_nil))))
    (pss_cons (ps_set (i := 8) sc__law_make.nd rfl (by first | exact Or.inl rfl | exact Or.inr rfl) (pe_cG G__law_make hr (by omega) hg0 (by rfl) (pa_cons (pv 0) (pa_cons (pe_ix (ix_tupK K) (pv 1) pe_int (fun _ _ => rfl)) (pa_cons (C8.pe_c G__law_with hr (by omega) (by rfl) (pa_cons (pv 2) (pa_cons (pv 5) (pa_cons (pe_ix (ix_tupK K) (pv 1) pe_int (fun _ _ => rfl)) pa_nil)))) (pa_cons (pe_op op_sub (pv 3) pe_int) pa_nil))))))
    (pss_one (ps_ret (pe_ifExp (pt_cmpR op_isN (pv 8) pe_non (nomark _)) pe_non (pe_tupK K (pa_cons pe_str (pa_cons (pv 5) (pa_cons (pe_ix (ix_tupK K) (pv 1) pe_int (fun _ _ => rfl)) (pa_cons (pv 8) pa_nil)))))))))) pss_nil)
    (PSs.hide (pss_cons (ps_if (PW.pt (pw_and (pt_cmpR op_eq (pe_ix (ix_tupK K) (pv 1) pe_int (fun _ _ => rfl)) pe_str (nomark _)) (pw_and1 (pt_cmpR op_gt (pv 3) pe_int (nomark _))))) (pss_cons (ps_par (i := 9) (j := 10) (by rfl) sc__law_make.nd rfl rfl (by decide) rfl rfl (pa_cons (pe_cG G__law_make hr (by omega) hg0 (by rfl) (pa_cons (pv 0) (pa_cons (pe_ix (ix_tupK K) (pv 1) pe_int (fun _ _ => rfl)) (pa_cons (pv 2) (pa_cons (pe_op op_sub (pv 3) pe_int) pa_nil))))) (pa_cons (pe_cG G__law_make hr (by omega) hg0 (by rfl) (pa_cons (pv 0) (pa_cons (pe_ix (ix_tupK K) (pv 1) pe_int (fun _ _ => rfl)) (pa_cons (pv 2) (pa_cons (pe_op op_sub (pv 3) pe_int) pa_nil))))) pa_nil)) (by rfl))
    (pss_one (ps_ret (pe_ifExp (PW.pt (pw_or (pt_cmpR op_isN (pv 9) pe_non (nomark _)) (pw_or1 (pt_cmpR op_isN (pv 10) pe_non (nomark _))))) pe_non (pe_tupK K (pa_cons pe_str (pa_cons (pv 9) (pa_cons (pv 10) pa_nil)))))))) pss_nil)
    (PSs.hide (pss_cons (ps_if (PW.pt (pw_and (pt_cmpR op_eq (pe_ix (ix_tupK K) (pv 1) pe_int (fun _ _ => rfl)) pe_str (nomark _)) (pw_and1 (pt_cmpR op_gt (pv 3) pe_int (nomark _))))) (pss_cons (ps_set (i := 11) sc__law_make.nd rfl (by first | exact Or.inl rfl | exact Or.inr rfl) (pe_cG G__law_make hr (by omega) hg0 (by rfl) (pa_cons (pv 0) (pa_cons (pe_ix (ix_tupK K) (pv 1) pe_int (fun _ _ => rfl)) (pa_cons (pv 2) (pa_cons (pe_op op_sub (pv 3) pe_int) pa_nil))))))
    (pss_cons (ps_if (pt_cmpR op_notN (pv 11) pe_non (nomark _)) (pss_one (ps_ret (pe_tupK K (pa_cons pe_str (pa_cons (pv 11) (pa_cons (pe_ix (ix_tupK K) (pv 1) pe_int (fun _ _ => rfl)) pa_nil)))))) pss_nil)
    (pss_cons (ps_set (i := 11) sc__law_make.nd rfl (by first | exact Or.inl rfl | exact Or.inr rfl) (pe_cG G__law_make hr (by omega) hg0 (by rfl) (pa_cons (pv 0) (pa_cons (pe_ix (ix_tupK K) (pv 1) pe_int (fun _ _ => rfl)) (pa_cons (pv 2) (pa_cons (pe_op op_sub (pv 3) pe_int) pa_nil))))))
    (pss_one (ps_ret (pe_ifExp (pt_cmpR op_isN (pv 11) pe_non (nomark _)) pe_non (pe_tupK K (pa_cons pe_str (pa_cons (pe_ix (ix_tupK K) (pv 1) pe_int (fun _ _ => rfl)) (pa_cons (pv 11) pa_nil)))))))))) pss_nil)
    (PSs.hide (pss_one (ps_ret (pe_cG G__law_use hr (by omega) hg0 (by rfl) (pa_cons (pv 0) (pa_cons (pv 1) (pa_cons (pv 2) (pa_cons (pv 3) pa_nil)))))))))))))))))))), ?_⟩
  have hz : (100000 : Nat) ≤ sizeLine := by decide
  have hcl := hc.len
  obtain ⟨kvs, hkvd, htk⟩ := id hl
  have hkv := dctF_dK hkvd
  have hkeys : kvs.map (·.1) = (l.map (·.1)).map Sum.inr := htk.keys
  walk_at "rd"
  refine ⟨kvs, hkv, l.map (·.1), hkeys, by rw [List.length_map]; omega, fun ys p1 H1 pm so n1 e1 h1 => ⟨_, h1, ?_⟩⟩
  have hys : ∀ y ∈ ys, y ∈ NX := fun y hy => by
    obtain ⟨p, hp, e⟩ := List.mem_map.mp (pm.mem_iff.mp hy)
    rw [← e]; exact (hc.n p hp).1
  refine lc_go walk_list (fun D i zs H' => Ext [] H1 H' ∧ ∃ ns : List Str, zs = ns.map V.str ∧ ∀ n ∈ ns, n ∈ NX ∧ lk l n = some g) (fun D hD => ⟨Ext.new hD, [], rfl, fun _ z => nomatch z⟩) (fun D i zs H' ⟨e, _⟩ => SqL.of (e.lst0 h1)) (fun D j x zs H2 H3 hD hj ⟨e2, ns, hns, hnx⟩ hl5 hDy y => ?_) fun D zs H2 hD ⟨e2, ns, hns, hnx⟩ hDy hl5 => ?_
  · obtain ⟨rfl, hx⟩ := y
    rw [List.getElem?_map] at hx
    cases hy : ys[j]? with
    | none => rw [hy] at hx; cases hx
    | some n =>
      rw [hy] at hx
      cases hx
      have hnm : n ∈ l.map (·.1) := pm.mem_iff.mp (List.mem_of_getElem? hy)
      walk_at "rd"
      rcases htk.val n with ⟨h1', _⟩ | ⟨t', v', h1', h2', h3'⟩
      · exact absurd (lk_none.mp h1') (fun z => z hnm)
      have ht' := (hc.n _ (lk_mem h1')).2
      have hnx' := (hc.n _ (lk_mem h1')).1
      subst hns
      have hyl : ys.length ≤ 4 := by have := pm.length_eq; rw [List.length_map] at this; omega
      rw [List.length_map] at hj
      refine ⟨kvs, dctF_ext (e1.trans e2) (fun z => nomatch z) hkv, v', h2', t'.data, g.data, (h3'.ext e1).ext e2, (hg.ext e1).ext e2, ht'.sh hN hA, hgd.sh hN hA, _, rfl, ?_⟩
      refine ite2 (fun hcd => ⟨_, hDy, by omega, ns.map V.str ++ [V.str n], by rw [List.length_append, List.length_singleton]; omega, upd_same, e2.over hD (Ext.setL List.mem_cons_self hDy), ns ++ [n], by simp, fun m hm => ?_⟩) fun _ => ⟨_, by omega, hDy, e2, ns, rfl, hnx⟩
      rw [if_neg Bool.false_ne_true, Fm.eqv_data] at hcd
      rcases List.mem_append.mp hm with z | z
      · exact hnx m z
      · rw [show m = n by simpa using z]; exact ⟨hnx', by rw [h1', of_decide_eq_true hcd]⟩
  · subst hns
    walk_at "rd"
    generalize hT : (hideS _ : TS) = T
    have tail : ∀ x4 x5 x6 x7 x8 x9 x10 x11 H2, Ext [a] H H2 → DiceAt H2 a → T { nx := fun x H' => Q V.non H', rt := Q } [some (V.ref a), some gv, some (V.ref b), some (V.int d), x4, x5, x6, x7, x8, x9, x10, x11] H2 := by
      intro x4 x5 x6 x7 x8 x9 x10 x11 H2 e2 d2
      rw [← hT, hideS_eq]
      walk_at "rd"
      generalize hT2 : (hideS _ : TS) = T2
      have tail2 : ∀ x4 x5 x6 x7 x8 x9 x10 x11 H2, Ext [a] H H2 → DiceAt H2 a → T2 { nx := fun x H' => Q V.non H', rt := Q } [some (V.ref a), some gv, some (V.ref b), some (V.int d), x4, x5, x6, x7, x8, x9, x10, x11] H2 := by
        intro x4 x5 x6 x7 x8 x9 x10 x11 H2 e2 d2
        rw [← hT2, hideS_eq]
        walk_at "rd"
        generalize hT3 : (hideS _ : TS) = T3
        have hg2 := hg.ext e2
        refine ⟨by omega, fun p3 H3 e3 g3 => ⟨g.data, Fm.one.data, hg2.ext e3, .tup g3 (.cons (.str _) .nil), hgd.sh hN hA, by decide +kernel, _, rfl, ?_⟩⟩
        have e03 := e2.trans e3.any
        have d3 := DiceAt.ext0 e3 d2
        have hg3 := hg2.ext e3
        rw [if_neg Bool.false_ne_true, Fm.eqv_data]
        have tail3 : ∀ x4 x5 x6 x7 x8 x9 x10 x11 H2, Ext [a] H H2 → DiceAt H2 a → T3 { nx := fun x H' => Q V.non H', rt := Q } [some (V.ref a), some gv, some (V.ref b), some (V.int d), x4, x5, x6, x7, x8, x9, x10, x11] H2 := by
          intro x4 x5 x6 x7 x8 x9 x10 x11 H2 e2 d2
          rw [← hT3, hideS_eq]
          walk_at "rd"
          generalize hT4 : (hideS _ : TS) = T4
          have tail4 : ∀ x4 x5 x6 x7 x8 x9 x10 x11 H2, Ext [a] H H2 → DiceAt H2 a → T4 { nx := fun x H' => Q V.non H', rt := Q } [some (V.ref a), some gv, some (V.ref b), some (V.int d), x4, x5, x6, x7, x8, x9, x10, x11] H2 := by
            intro x4 x5 x6 x7 x8 x9 x10 x11 H2 e2 d2
            rw [← hT4, hideS_eq]
            walk_at "rd"
            generalize hT5 : (hideS _ : TS) = T5
            have tail5 : ∀ x4 x5 x6 x7 x8 x9 x10 x11 H2, Ext [a] H H2 → DiceAt H2 a → T5 { nx := fun x H' => Q V.non H', rt := Q } [some (V.ref a), some gv, some (V.ref b), some (V.int d), x4, x5, x6, x7, x8, x9, x10, x11] H2 := by
              intro x4 x5 x6 x7 x8 x9 x10 x11 H2 e2 d2
              rw [← hT5, hideS_eq]
              walk_at "rd"
              generalize hT6 : (hideS _ : TS) = T6
              have tail6 : ∀ x4 x5 x6 x7 x8 x9 x10 x11 H2, Ext [a] H H2 → DiceAt H2 a → T6 { nx := fun x H' => Q V.non H', rt := Q } [some (V.ref a), some gv, some (V.ref b), some (V.int d), x4, x5, x6, x7, x8, x9, x10, x11] H2 := by
                intro x4 x5 x6 x7 x8 x9 x10 x11 H2 e2 d2
                rw [← hT6, hideS_eq]
                walk_at "rd"
                exact ⟨a, b, gv, g, l, d, rfl, by omega, d2, hg.ext e2, hgd, hl.ext e2 (hl.ne hdi), hc, fun v' H' e' d' h => q v' H' (e2.trans e') d' h⟩
              obtain ⟨gp, gws, hgv, hgp⟩ := fd_hd (hg.ext e2)
              refine ⟨gp, hgv, _, hgp, _, atI_0, rfl, ite2 (fun h => ite2 (fun h0 => ?_) fun _ => tail6 _ _ _ _ _ _ _ _ H2 e2 d2) fun _ => tail6 _ _ _ _ _ _ _ _ H2 e2 d2⟩
              obtain ⟨s1, s2, rfl⟩ := hd_is (j := .either) h
              obtain ⟨g1, g2⟩ := hgd.b
              obtain ⟨gp', u1, u2, e, hp', hu1, hu2⟩ := fd_b (hg.ext e2)
              rw [hgv] at e
              cases e
              obtain ⟨d', rfl⟩ : ∃ d', d = d' + 1 := ⟨d - 1, by omega⟩
              have ed : (((d' + 1 : Nat) : Int) - 1) = (d' : Nat) := by omega
              rw [ed]
              have hbn := hl.ne hdi
              refine ⟨gp, hgv, _, hp', _, atI_1, a, b, u1, s1, l, d', rfl, by omega, d2, hu1, g1, hl.ext e2 hbn, hc.less, fun v1 H3 e3 d3 hv1 => ?_⟩
              have e03 := e2.trans e3
              dsimp only
              rcases hv1 with rfl | ⟨t1, ht1, htd1⟩
              case inr =>
                rw [if_pos (by simp [td_nn htd1])]
                refine ⟨gp, hgv, _, tupF_ext e3 hp', _, atI_2, by omega, fun p H5 e5 g5 => q _ H5 (e03.trans e5.any) (DiceAt.ext0 e5 d3) (.inr ⟨_, .lft g2 ht1, ?_⟩)⟩
                exact .tup g5 (.cons (.str _) (.cons (htd1.ext e5) (.cons ((hu2.ext e3).ext e5) .nil)))
              rw [if_neg (by decide)]
              refine ⟨gp, hgv, _, tupF_ext e3 hp', _, atI_2, a, b, u2, s2, l, d', rfl, by omega, d3, hu2.ext e3, g2, hl.ext e03 hbn, hc.less, fun v2 H4 e4 d4 hv2 => ?_⟩
              have e04 := e03.trans e4
              dsimp only
              rcases hv2 with rfl | ⟨t2, ht2, htd2⟩
              · rw [if_pos rfl]; exact q _ _ e04 d4 (.inl rfl)
              rw [if_neg (td_nn htd2)]
              refine ⟨gp, hgv, _, tupF_ext (e3.trans e4) hp', _, atI_1, by omega, fun p H5 e5 g5 => q _ H5 (e04.trans e5.any) (DiceAt.ext0 e5 d4) (.inr ⟨_, .rgt g1 ht2, ?_⟩)⟩
              exact .tup g5 (.cons (.str _) (.cons ((hu1.ext (e3.trans e4)).ext e5) (.cons (htd2.ext e5) .nil)))
            obtain ⟨gp, gws, hgv, hgp⟩ := fd_hd (hg.ext e2)
            refine ⟨gp, hgv, _, hgp, _, atI_0, rfl, ite2 (fun h => ite2 (fun h0 => ?_) fun _ => tail5 _ _ _ _ _ _ _ _ H2 e2 d2) fun _ => tail5 _ _ _ _ _ _ _ _ H2 e2 d2⟩
            obtain ⟨s1, s2, rfl⟩ := hd_is (j := .both) h
            obtain ⟨g1, g2⟩ := hgd.b
            obtain ⟨gp', u1, u2, e, hp', hu1, hu2⟩ := fd_b (hg.ext e2)
            rw [hgv] at e
            cases e
            obtain ⟨d', rfl⟩ : ∃ d', d = d' + 1 := ⟨d - 1, by omega⟩
            have ed : (((d' + 1 : Nat) : Int) - 1) = (d' : Nat) := by omega
            rw [ed]
            have hbn := hl.ne hdi
            refine ⟨gp, hgv, _, hp', _, atI_1, a, b, u1, s1, l, d', rfl, by omega, d2, hu1, g1, hl.ext e2 hbn, hc.less, fun v1 H3 e3 d3 hv1 => ?_⟩
            have e03 := e2.trans e3
            refine ⟨gp, hgv, _, tupF_ext e3 hp', _, atI_2, a, b, u2, s2, l, d', rfl, by omega, d3, hu2.ext e3, g2, hl.ext e03 hbn, hc.less, fun v2 H4 e4 d4 hv2 => ⟨_, _, ⟨rfl, rfl⟩, ?_⟩⟩
            have e04 := e03.trans e4
            rcases hv1 with rfl | ⟨t1, ht1, htd1⟩
            · rw [if_pos rfl]; exact q _ _ e04 d4 (.inl rfl)
            rw [if_neg (td_nn htd1)]
            rcases hv2 with rfl | ⟨t2, ht2, htd2⟩
            · rw [if_pos rfl]; exact q _ _ e04 d4 (.inl rfl)
            rw [if_neg (td_nn htd2)]
            refine ⟨by omega, fun p H5 e5 g5 => q _ H5 (e04.trans e5.any) (DiceAt.ext0 e5 d4) (.inr ⟨_, .pair ht1 ht2, ?_⟩)⟩
            exact .tup g5 (.cons (.str _) (.cons ((htd1.ext e4).ext e5) (.cons (htd2.ext e5) .nil)))
          obtain ⟨gp, gws, hgv, hgp⟩ := fd_hd (hg.ext e2)
          refine ⟨gp, hgv, _, hgp, _, atI_0, rfl, ite2 (fun h => ite2 (fun h0 => ?_) fun _ => tail4 _ _ _ _ _ _ _ _ H2 e2 d2) fun _ => tail4 _ _ _ _ _ _ _ _ H2 e2 d2⟩
          obtain ⟨s1, s2, rfl⟩ := hd_is (j := .to) h
          obtain ⟨g1, g2⟩ := hgd.b
          obtain ⟨gp', u1, u2, e, hp', hu1, hu2⟩ := fd_b (hg.ext e2)
          rw [hgv] at e
          cases e
          obtain ⟨d', rfl⟩ : ∃ d', d = d' + 1 := ⟨d - 1, by omega⟩
          have ed : (((d' + 1 : Nat) : Int) - 1) = (d' : Nat) := by omega
          rw [ed]
          have hbn := hl.ne hdi
          obtain ⟨kvs2, hk2, ht2⟩ := hl.ext e2 hbn
          have hkl := ht2.length
          have hfew := hc.few
          have hxn : (Str.ofString "x" ++ Str.ofString (toString ((kvs2.length : Nat) : Int))) ∈ NX := nx_x (by omega)
          refine ⟨kvs2, hk2, lg4 (by omega), ln4 (by omega), gp, hgv, _, hp', _, atI_2, gp, hgv, _, hp', _, atI_1, b, _, u1, l, s1, rfl, (hl.ext e2 hbn).a, hu1, by omega, fun bp H3 n3 e3 hb3 => ?_⟩
          have d3 := DiceAt.ext0 e3 d2
          refine ⟨a, bp, u2, s2, _, d', rfl, by omega, d3, hu2.ext e3, g2, hb3, hc.put hxn g1, fun v1 H4 e4 d4 hv1 => ?_⟩
          have e24 : Ext [a] H2 H4 := e3.any.trans e4
          have e04 := e2.trans e24
          dsimp only
          rcases hv1 with rfl | ⟨t1, ht1, htd1⟩
          · rw [if_pos rfl]; exact q _ _ e04 d4 (.inl rfl)
          rw [if_neg (td_nn htd1)]
          refine ⟨gp, hgv, _, tupF_ext e24 hp', _, atI_1, by omega, fun p H5 e5 g5 => q _ H5 (e04.trans e5.any) (DiceAt.ext0 e5 d4) (.inr ⟨_, .fn hxn g1 ht1, ?_⟩)⟩
          exact .tup g5 (.cons (.str _) (.cons (.str _) (.cons ((hu1.ext e24).ext e5) (.cons (htd1.ext e5) .nil))))
        refine ite2 (fun hgo => ⟨by omega, fun p4 H4 e4 g4 => q _ H4 (e03.trans e4.any) (DiceAt.ext0 e4 d3) (.inr ⟨.unit, (by rw [of_decide_eq_true hgo]; exact .unit), .tup g4 (.cons (.str _) .nil)⟩)⟩) fun _ => tail3 _ _ _ _ _ _ _ _ H3 e03 d3
      refine ite2 (fun h0 => ?_) fun _ => tail2 _ _ _ _ _ _ _ _ H2 e2 d2
      obtain ⟨d', rfl⟩ : ∃ d', d = d' + 1 := ⟨d - 1, by omega⟩
      have ed : (((d' + 1 : Nat) : Int) - 1) = (d' : Nat) := by omega
      rw [ed]
      refine ⟨a, 5, rfl, d2, by decide, by decide, fun r H3 r0 r1 e3 d3 => ⟨rfl, ite2 (fun _ => ?_) fun _ => tail2 _ _ _ _ _ _ _ _ H3 (e2.trans e3) d3⟩⟩
      have e03 := e2.trans e3
      refine ⟨by omega, fun p4 H4 e4 g4 => ⟨by omega, fun p5 H5 e5 g5 => ⟨by omega, fun p6 H6 e6 g6 => ⟨by omega, fun p7 H7 e7 g7 => ⟨by omega, fun p8 H8 e8 g8 => ⟨by omega, fun p9 H9 e9 g9 => ⟨by omega, fun q1 K1 f1 k1 => ⟨by omega, fun q2 K2 f2 k2 => ⟨by omega, fun q3 K3 n3 f3 k3 => ?_⟩⟩⟩⟩⟩⟩⟩⟩⟩
      have x3 := f2.trans f3
      have x2 := f1.trans x3
      have x1 := e9.trans x2
      have x8' := e8.trans x1
      have x7' := e7.trans x8'
      have x6' := e6.trans x7'
      have x5' := e5.trans x6'
      have x4' := e4.trans x5'
      have eK : Ext [a] H K3 := e03.trans x4'.any
      have dK := DiceAt.ext0 x4' d3
      have hbn := hl.ne hdi
      have hone : ∀ {H' : Hp} {p : Addr}, tupF K H' p = some [V.str "one"] → Td K H' (.ref p) Fm.one.data := fun h => .tup h (.cons (.str _) .nil)
      have hna : ∀ {H' : Hp} {p : Addr}, tupF K H' p = some [V.str "name", V.str "a"] → Td K H' (.ref p) (Fm.name "a").data := fun h => .tup h (.cons (.str _) (.cons (.str _) .nil))
      have sideN : ∀ f : Fm, (∀ y ∈ f.names, y = "a") → AbcF f := fun f h y hy => by rw [h y hy]; simp [ABC]
      refine ⟨a, 4, rfl, dK, by decide, by decide, fun r2 K4 r20 r21 e10 d4 => ?_⟩
      have side : ∃ (sv : V) (sf : Fm), atI [V.ref p4, V.ref p7, V.ref q1, V.ref q2] r2 = some sv ∧ Td K K4 sv sf.data ∧ FGd sf := by
        have : r2 = 0 ∨ r2 = 1 ∨ r2 = 2 ∨ r2 = 3 := by omega
        rcases this with h | h | h | h <;> subst h
        · exact ⟨_, .name "a", by rfl, (hna (tupF_ext x5' g4)).ext e10, by decide, sideN _ (fun y hy => by simpa [Fm.names] using hy)⟩
        · exact ⟨_, .bin .to (.name "a") (.name "a"), by rfl, (show Td K K3 (.ref p7) (Fm.bin .to (.name "a") (.name "a")).data from .tup (tupF_ext x8' g7) (.cons (.str _) (.cons (hna (tupF_ext x6' g5)) (.cons (hna (tupF_ext x7' g6)) .nil)))).ext e10, by decide, sideN _ (fun y hy => by simpa [Fm.names] using hy)⟩
        · exact ⟨_, .bin .both (.name "a") .one, by rfl, (show Td K K3 (.ref q1) (Fm.bin .both (.name "a") .one).data from .tup (tupF_ext x3 k1) (.cons (.str _) (.cons (hna (tupF_ext x1 g8)) (.cons (hone (tupF_ext x2 g9)) .nil)))).ext e10, by decide, sideN _ (fun y hy => by simpa [Fm.names] using hy)⟩
        · exact ⟨_, .one, by rfl, (hone (tupF_ext f3 k2)).ext e10, by decide, sideN _ (fun y hy => by simpa [Fm.names] using hy)⟩
      obtain ⟨sv, sf, hsv, hst, hsg⟩ := side
      have eK4 := eK.trans e10
      have nq3 : q3 ∉ [a] := fun z => by
        obtain ⟨x, y, w0, e⟩ := DiceAt.ext0 (((((((e4.trans e5).trans e6).trans e7).trans e8).trans e9).trans f1).trans f2) d3
        rw [show q3 = a by simpa using z, e] at n3; cases n3
      refine ⟨_, r2, rfl, e10.lst k3 nq3, sv, hsv, a, b, sv, sf, l, d', rfl, by omega, d4, hst, hsg, hl.ext eK4 hbn, hc.less, fun v1 K5 e11 d5 hv1 => ?_⟩
      have eK5 := eK4.trans e11
      dsimp only
      rcases hv1 with rfl | ⟨t1, ht1, htd1⟩
      · rw [if_neg (by decide)]; exact tail2 _ _ _ _ _ _ _ _ K5 eK5 d5
      have hnn : (!decide (v1 = V.non)) = true := by
        obtain ⟨_, _, rfl, _, _⟩ := tm_hd htd1
        rfl
      rw [if_pos hnn]
      obtain ⟨kvs5, hk5, ht5⟩ := hl.ext eK5 hbn
      have hkl := ht5.length
      have hfew := hc.few
      have hxn : (Str.ofString "x" ++ Str.ofString (toString ((kvs5.length : Nat) : Int))) ∈ NX := nx_x (by omega)
      refine ⟨kvs5, hk5, ?lg, ?ln, b, _, sv, l, sf, rfl, (hl.ext eK5 hbn).a, hst.ext e11, by omega, fun bp K6 n6 e12 hb6 => ?_⟩
      case lg => have : kvs5.length = 0 ∨ kvs5.length = 1 ∨ kvs5.length = 2 ∨ kvs5.length = 3 := by omega
                 rcases this with h | h | h | h <;> rw [h] <;> decide
      case ln => have : kvs5.length = 0 ∨ kvs5.length = 1 ∨ kvs5.length = 2 ∨ kvs5.length = 3 := by omega
                 rcases this with h | h | h | h <;> rw [h] <;> decide +kernel
      have d6 := DiceAt.ext0 e12 d5
      refine ⟨a, bp, gv, g, _, d', rfl, by omega, d6, (hg.ext eK5).ext e12, hgd, hb6, hc.put hxn hsg, fun v2 K7 e13 d7 hv2 => ?_⟩
      have eK7 := (eK5.trans e12.any).trans e13
      dsimp only
      rcases hv2 with rfl | ⟨t2, ht2, htd2⟩
      · rw [if_neg (by decide)]; exact tail2 _ _ _ _ _ _ _ _ K7 eK7 d7
      have hnn2 : (!decide (v2 = V.non)) = true := by
        obtain ⟨_, _, rfl, _, _⟩ := tm_hd htd2
        rfl
      rw [if_pos hnn2]
      refine ⟨by omega, fun p K8 e14 g14 => ⟨by omega, fun p' K9 e15 g15 => q _ K9 ((eK7.trans e14.any).trans e15.any) (DiceAt.ext0 e15 (DiceAt.ext0 e14 d7)) (.inr ⟨_, .cut hxn hsg ht2 ht1, ?_⟩)⟩⟩
      have e712 := e12.any.trans e13
      exact .tup g15 (.cons (.str _) (.cons (.tup (tupF_ext e15 g14) (.cons (.str _) (.cons (.str _) (.cons (((((hst.ext e11).ext e712).ext e14)).ext e15) (.cons ((htd2.ext e14).ext e15) .nil))))) (.cons ((((htd1.ext e712).ext e14)).ext e15) .nil)))
    have e02 := e1.trans e2
    have hd2 := DiceAt.ext0 e02 hdi
    have nDa : D ∉ [a] := fun z => by
      have z : D = a := by simpa using z
      obtain ⟨x, y, w0, e⟩ := DiceAt.ext0 e1 hdi
      rw [z, e] at hD; cases hD
    have ret : ∀ H3 x, Ext [a] H H3 → DiceAt H3 a → x ∈ NX ∧ lk l x = some g → 2 ≤ sizeLine ∧ ∀ p H4, Ext [] H3 H4 → tupF K H4 p = some [V.str "var", V.str x] → Q (V.ref p) H4 := fun H3 x e3 d3 hx =>
      ⟨by omega, fun p H4 e4 g4 => q _ H4 (e3.trans e4.any) (DiceAt.ext0 e4 d3) (.inr ⟨.var x, .var hx.1 hx.2, .tup g4 (.cons (.str _) (.cons (.str _) .nil))⟩)⟩
    have pickv : ns ≠ [] → ∀ H3, Ext [a] H H3 → DiceAt H3 a → H3 D = some (.lst (ns.map V.str)) → ∃ x, H3 D = some (HO.lst x) ∧ spRoll [V.ref a, V.int (x.length : Nat)] H3 (fun y H2 => ∃ x x2, y = V.int x2 ∧ H2 D = some (HO.lst x) ∧ ∃ x3, atI x x2 = some x3 ∧ 2 ≤ sizeLine ∧
        ∀ (p : Addr) (H4 : Hp), Ext [] H2 H4 → tupF K H4 p = some [V.str "var", x3] → Q (V.ref p) H4) C8.E0 := fun hne H3 e3 d3 hD3 => by
      have hl0 : 0 < ns.length := List.length_pos_iff.mpr hne
      simp only [List.length_map] at hl5
      have hyl : ys.length ≤ 4 := by have := pm.length_eq; rw [List.length_map] at this; omega
      refine ⟨_, hD3, a, _, rfl, d3, by rw [List.length_map]; omega, by rw [List.length_map]; omega, fun r H4 r0 r1 e4 d4 => ⟨_, r, rfl, e4.lst hD3 nDa, ?_⟩⟩
      rw [List.length_map] at r1
      obtain ⟨m, rfl⟩ : ∃ m : Nat, r = (m : Int) := ⟨r.toNat, by omega⟩
      have hm : m < ns.length := by omega
      obtain ⟨n, hn⟩ : ∃ n, ns[m]? = some n := ⟨_, List.getElem?_eq_getElem hm⟩
      exact ⟨.str n, atI_nat (by rw [List.getElem?_map, hn]; rfl), ret H4 n (e3.trans e4) d4 (hnx n (List.mem_of_getElem? hn))⟩
    refine ⟨by omega, fun p H3 n3 e3 h3 => ⟨_, e3.lst0 hDy, _, h3, _, td_strs ns, _, .nil, sh_strs (fun n h => (hnx n h).1), by decide +kernel, ?_⟩⟩
    have eA : Ext [a] H H3 := (e02.trans e3).any
    have d3 := DiceAt.ext0 e3 hd2
    cases ns with
    | nil => rw [if_neg (by decide +kernel)]; exact tail _ _ _ _ _ _ _ _ H3 eA d3
    | cons n0 ns =>
      rw [if_pos (by rw [List.map_cons, Fm.eqvAll_cn]; rfl)]
      have hD3 := e3.lst0 hDy
      refine ite2 (fun _ => pickv (by simp) H3 eA d3 hD3) fun _ => ⟨a, 3, rfl, d3, by decide, by decide, fun r H4 r0 r1 e4 d4 => ⟨rfl, ite2 (fun _ => pickv (by simp) H4 (eA.trans e4) d4 (e4.lst hD3 nDa)) fun _ => tail _ _ _ _ _ _ _ _ H4 (eA.trans e4) d4⟩⟩
end
end Sq
set_option Elab.async false
set_option linter.all false
set_option maxRecDepth 100000
set_option maxHeartbeats 2000000
namespace Sq
open PySem PySem.Spec PyProof.Rows L2
/-! ### no q in a term's text: no free q -/
def Sg (c : Nat) (s : Str) : Prop := c ∈ s.cps.toList
theorem sg_app {c : Nat} {a b : Str} : Sg c (a ++ b) ↔ Sg c a ∨ Sg c b := by
  show c ∈ (a.cps ++ b.cps).toList ↔ _
  rw [Array.toList_append, List.mem_append]; rfl
theorem sg_join {c : Nat} {p : Str} : ∀ {ts : List Str}, p ∈ ts → Sg c p → Sg c (Str.join ", " ts)
  | [], h, _ => nomatch h
  | [x], h, k => by rw [show p = x by simpa using h] at k; exact k
  | x :: y :: r, h, k => by
    show Sg c (x ++ ", " ++ Str.join ", " (y :: r))
    rw [sg_app, sg_app]
    rcases List.mem_cons.mp h with rfl | h
    · exact .inl (.inl k)
    · exact .inr (sg_join h k)
theorem sg_tup {c : Nat} {p : Str} {ts : List Str} (h : p ∈ ts) (k : Sg c p) : Sg c (tupleText ts) := by
  unfold tupleText
  rw [sg_app, sg_app]
  exact .inl (.inr (sg_join h k))
theorem sg_q : Sg 113 (reprText "q") := by unfold Sg; decide +kernel
theorem sg_shown {c : Nat} {d : PyData} {ds : List PyData} (h : d ∈ ds) (k : Sg c d.shown) : Sg c (PyData.tuple ds).shown := by
  have e : (PyData.tuple ds).shown = tupleText (PyData.shownAll ds) := by rw [PyData.shown]
  have m : ∀ ds : List PyData, d ∈ ds → d.shown ∈ PyData.shownAll ds := fun ds => by
    induction ds with
    | nil => intro h; cases h
    | cons x r ih =>
      intro h
      rw [PyData.shownAll]
      rcases List.mem_cons.mp h with rfl | h
      · exact List.mem_cons_self
      · exact List.mem_cons_of_mem _ (ih h)
  rw [e]
  exact sg_tup (m ds h) k
theorem sg_nms : ∀ (t : Tm), (Str.ofString "q") ∈ t.nms → Sg 113 t.data.shown := by
  have st : ∀ ds : List PyData, PyData.str "q" ∈ ds → Sg 113 (PyData.tuple ds).shown := fun ds h => sg_shown h (by rw [PyData.shown]; exact sg_q)
  intro t
  induction t with
  | var x => intro h; rw [show x = Str.ofString "q" from (by simpa [Tm.nms] using h : Str.ofString "q" = x).symm]; exact st _ (by simp)
  | unit => intro h; simp [Tm.nms] at h
  | fn x f t ih =>
    intro h
    rcases List.mem_cons.mp (by simpa only [Tm.nms] using h) with e | e
    · rw [← e]; exact st _ (by simp)
    · exact sg_shown (d := t.data) (by simp) (ih e)
  | app t u i1 i2 =>
    intro h
    rcases List.mem_append.mp (by simpa only [Tm.nms] using h) with e | e
    · exact sg_shown (d := t.data) (by simp) (i1 e)
    · exact sg_shown (d := u.data) (by simp) (i2 e)
  | pair t u i1 i2 =>
    intro h
    rcases List.mem_append.mp (by simpa only [Tm.nms] using h) with e | e
    · exact sg_shown (d := t.data) (by simp) (i1 e)
    · exact sg_shown (d := u.data) (by simp) (i2 e)
  | fst t ih => intro h; exact sg_shown (d := t.data) (by simp) (ih h)
  | snd t ih => intro h; exact sg_shown (d := t.data) (by simp) (ih h)
  | lft t f ih => intro h; exact sg_shown (d := t.data) (by simp) (ih h)
  | rgt f t ih => intro h; exact sg_shown (d := t.data) (by simp) (ih h)
  | absd t f ih => intro h; exact sg_shown (d := t.data) (by simp) (ih h)
  | cs t x u y v i1 i2 i3 =>
    intro h
    simp only [Tm.nms, List.mem_append, List.mem_cons] at h
    rcases h with (h | (h | h)) | (h | h)
    · exact sg_shown (d := t.data) (by simp) (i1 h)
    · rw [← h]; exact st _ (by simp)
    · exact sg_shown (d := u.data) (by simp) (i2 h)
    · rw [← h]; exact st _ (by simp)
    · exact sg_shown (d := v.data) (by simp) (i3 h)
theorem fvs_in_nms : ∀ (t : Tm) {x : Str}, x ∈ t.fvs → x ∈ t.nms := by
  intro t
  induction t with
  | fn b f t ih => intro x h; simp only [Tm.fvs, List.mem_filter] at h; simp only [Tm.nms, List.mem_cons]; exact .inr (ih h.1)
  | cs t b u c v i1 i2 i3 =>
    intro x h
    simp only [Tm.fvs, List.mem_append, List.mem_filter] at h
    rcases h with h | h | h
    · have := i1 h; simp [Tm.nms, this]
    · have := i2 h.1; simp [Tm.nms, this]
    · have := i3 h.1; simp [Tm.nms, this]
  | var y => intro x h; exact h
  | unit => intro x h; exact h
  | app t u i1 i2 =>
    intro x h
    simp only [Tm.fvs, List.mem_append] at h
    simp only [Tm.nms, List.mem_append]
    exact h.imp i1 i2
  | pair t u i1 i2 =>
    intro x h
    simp only [Tm.fvs, List.mem_append] at h
    simp only [Tm.nms, List.mem_append]
    exact h.imp i1 i2
  | fst t ih => intro x h; exact ih h
  | snd t ih => intro x h; exact ih h
  | lft t f ih => intro x h; exact ih h
  | rgt f t ih => intro x h; exact ih h
  | absd t f ih => intro x h; exact ih h
theorem no_q {t1 t2 : Tm} {s : Str} (e : s = t1.data.shown ++ t2.data.shown) (h : (!!(Builtin.Str.occurrences s (Str.ofString "q") 0 s.length 1).isEmpty) = true) : (Str.ofString "q") ∉ t1.fvs ∧ (Str.ofString "q") ∉ t2.fvs := by
  have key : ¬ Sg 113 s := fun k => by
    have : (!(Builtin.Str.occurrences s (Str.ofString "q") 0 s.length 1).isEmpty) = true := by
      rw [StrLaws.found_iff]
      obtain ⟨i, hi, e⟩ := List.getElem_of_mem (show 113 ∈ s.cps.toList from k)
      have hs : s.length = s.cps.toList.length := by simp [Str.length]
      refine ⟨i, by rw [hs]; show i + 1 ≤ _; omega, ?_⟩
      rw [StrLaws.subAt_eq, beq_iff_eq]
      show (s.cps.toList.drop i).take 1 = [113]
      rw [List.drop_eq_getElem_cons hi, e]; rfl
    rw [this] at h
    cases h
  rw [e, sg_app] at key
  exact ⟨fun k => key (.inl (sg_nms t1 (fvs_in_nms t1 k))), fun k => key (.inr (sg_nms t2 (fvs_in_nms t2 k)))⟩
end Sq
set_option Elab.async false
set_option linter.all false
set_option maxRecDepth 100000
set_option maxHeartbeats 4000000
namespace Sq
open PySem PySem.Spec PyProof.Rows L2 RZ
local macro_rules | `(tactic| walk_at "rd") => `(tactic| simp only [tCont, tNever, iEnumL, iRng1, rPop0, rTIndex, rKdIx, rKdNin, tDG2, rU, tTIdx, iZipS, rDictC, rDictP, tDisp, tPairs, rIndexS, wipe, tNoPart, tDG2, tDGF, tDInF, tDNInF, sDPutF, tDNewF, rSortD, rInS, rInT, rEqLF, tDcF, tDc2F, tLcF, tForF, tAllF, tAnyF, tSumF, iStr, iEnumF, iZipF, iKeysF, iItems, tLZip, tYes, tSeq, tIfS, tNext, tRet, tRetN, tDrop, tTest, tB, tNot, tAnd, tOr, tChain, tOp, tUn, tCB, tCons, tNil, tC, tVar, tIf, tAndV, tOrV, tNotV, tAsg, tPar, tPar3, gName, gSub, gTupF, gCons, gNil, tTupF, tLstF, rI0, rI, rIxF, rIxG, rIxS, rSetF, rSlF, rCatF, rCatL, rTupL, rListT, rListL, rLenT, rLenL, iTupF, iLstF, rAppF, rExtF, rPopF, tBM, tBM0, tSl, tPart, rEq, rNe, tCall, L2.start,
  List.map_cons, List.map_nil, List.length_cons, List.length_nil, Nat.sub_self, List.replicate, List.append_nil, List.cons_append, List.nil_append, List.getElem?_cons_zero, List.getElem?_cons_succ, List.set_cons_zero, List.set_cons_succ,
  exSl, exI, exI2, exB, exS, exR, ex1, ex1', V.int.injEq, V.bl.injEq, V.ref.injEq, V.str.injEq, Option.some.injEq, List.cons.injEq, and_true, true_and, reduceCtorEq, false_and, and_false, or_false, false_or, exists_false, exists_and_left, exists_eq_left', decide_eq_true_eq, decide_true, decide_false, if_false, if_true, ite_true, ite_false, Bool.false_eq_true, Bool.not_true, Bool.not_false, Nat.reduceAdd, Nat.reduceSub, Nat.zero_add, atI_0, atI_1, atI_2, atI_3, ixN_0, ixN_1, ixN_2, cutV_1, cutV_2, Option.some.injEq, HO.lst.injEq, HO.dK.injEq, scal])
local macro_rules | `(tactic| walk_at "rdc") => `(tactic| simp (config := { contextual := true }) only [tCont, tNever, iEnumL, iRng1, rPop0, rTIndex, rKdIx, rKdNin, tDG2, rU, tTIdx, iZipS, rDictC, rDictP, tDisp, tPairs, rIndexS, wipe, tNoPart, tDG2, tDGF, tDInF, tDNInF, sDPutF, tDNewF, rSortD, rInS, rInT, rEqLF, tDcF, tDc2F, tLcF, tForF, tAllF, tAnyF, tSumF, iStr, iEnumF, iZipF, iKeysF, iItems, tLZip, tYes, tSeq, tIfS, tNext, tRet, tRetN, tDrop, tTest, tB, tNot, tAnd, tOr, tChain, tOp, tUn, tCB, tCons, tNil, tC, tVar, tIf, tAndV, tOrV, tNotV, tAsg, tPar, tPar3, gName, gSub, gTupF, gCons, gNil, tTupF, tLstF, rI0, rI, rIxF, rIxG, rIxS, rSetF, rSlF, rCatF, rCatL, rTupL, rListT, rListL, rLenT, rLenL, iTupF, iLstF, rAppF, rExtF, rPopF, tBM, tBM0, tSl, tPart, rEq, rNe, tCall, L2.start,
  List.map_cons, List.map_nil, List.length_cons, List.length_nil, Nat.sub_self, List.replicate, List.append_nil, List.cons_append, List.nil_append, List.getElem?_cons_zero, List.getElem?_cons_succ, List.set_cons_zero, List.set_cons_succ,
  exSl, exI, exI2, exB, exS, exR, ex1, ex1', V.int.injEq, V.bl.injEq, V.ref.injEq, V.str.injEq, Option.some.injEq, List.cons.injEq, and_true, true_and, reduceCtorEq, false_and, and_false, or_false, false_or, exists_false, exists_and_left, exists_eq_left', decide_eq_true_eq, decide_true, decide_false, if_false, if_true, ite_true, ite_false, Bool.false_eq_true, Bool.not_true, Bool.not_false, Nat.reduceAdd, Nat.reduceSub, Nat.zero_add, atI_0, atI_1, atI_2, atI_3, ixN_0, ixN_1, ixN_2, cutV_1, cutV_2, Option.some.injEq, HO.lst.injEq, HO.dK.injEq, scal, *])
theorem sh_two {s t : Fm} (h1 : FGd s) (h2 : FGd t) : SeqAt.shaped (.tuple [s.data, t.data]) = true := by
  have lay : ∀ f : Fm, FGd f → f.data.canLay0 = true := fun f h => Fm.lay_data f fun x hx => by
    rcases abc_in (h.2 x hx) with e | e | e <;> subst e <;> decide +kernel
  unfold SeqAt.shaped
  rw [Fm.lay_tup, Fm.lay_cons, Fm.lay_cons, Fm.lay_nil, lay s h1, lay t h2, PyData.depth, PyData.depthAll, PyData.depthAll, PyData.depthAll, Fm.depth_data, Fm.depth_data]
  have a := h1.1
  have b := h2.1
  simp; omega
theorem TabK.merge {K : PySem.W.Frag} {H : Hp} : ∀ {kvs : List (Key × V)} {l : Tab} {acc : List (Key × V)} {al : Tab}, TabK K H acc al → TabK K H kvs l → TabK K H (mergeK acc kvs) (l.foldl (fun a p => putL a p.1 p.2) al)
  | _, _, _, _, h, .nil => h
  | _, _, acc, al, h, .cons (n := n) (v := v) (t := t) (kvs := kvs) (l := l) h1 r => by
    have := TabK.merge (acc := putK acc (.inr n) v) (al := putL al n t) (h.put h1) r
    exact this
theorem fold_putL : ∀ (l al : Tab), ((al ++ l).map (·.1)).Nodup → l.foldl (fun a p => putL a p.1 p.2) al = al ++ l
  | [], al, _ => by simp
  | (n, t) :: l, al, h => by
    rw [List.foldl_cons]
    have hn : lk al n = none := lk_none.mpr fun z => by
      rw [List.map_append, List.map_cons] at h
      have := (List.nodup_append.mp h).2.2
      exact this n z n (by simp) rfl
    rw [putL_fresh hn, fold_putL l (al ++ [(n, t)]) (by simpa using h)]
    simp
theorem nodup_inr : ∀ {l : List Str}, l.Nodup → (l.map (Sum.inr : Str → Key)).Nodup
  | [], _ => by simp
  | x :: l, h => by
    rw [List.nodup_cons] at h
    rw [List.map_cons, List.nodup_cons]
    exact ⟨fun z => by
      obtain ⟨y, hy, e⟩ := List.mem_map.mp z
      cases e
      exact h.1 hy, nodup_inr h.2⟩
theorem valV_get : ∀ {kvs : List (Key × V)} {i : Nat} {k : Key} {v : V}, (kvs.map (·.1)).Nodup → kvs[i]? = some (k, v) → valV kvs k = some v
  | [], _, _, _, _, h => by simp at h
  | p :: r, 0, k, v, _, h => by cases h; exact valV_pos rfl
  | p :: r, i + 1, k, v, nd, h => by
    rw [List.map_cons, List.nodup_cons] at nd
    have h : r[i]? = some (k, v) := by simpa using h
    rw [valV_neg (fun e => nd.1 (by rw [e]; exact List.mem_map.mpr ⟨_, List.mem_of_getElem? h, rfl⟩))]
    exact valV_get nd.2 h
theorem TabK.filt {K : PySem.W.Frag} {H : Hp} (n : Str) : ∀ {kvs : List (Key × V)} {l : Tab}, TabK K H kvs l → TabK K H (kvs.filter fun kv => decide (kv.1 ≠ .inr n)) (l.filter fun p => decide (p.1 ≠ n))
  | _, _, .nil => .nil
  | _, _, .cons (n := m) h r => by
    by_cases e : m = n
    · subst e; simpa using r.filt m
    · have e' : ¬ (Sum.inr m : Key) = Sum.inr n := fun z => e (Sum.inr.inj z)
      simp only [List.filter_cons, ne_eq, e, e', not_false_eq_true, decide_true, if_true]
      exact .cons h (r.filt n)
theorem tupF_unl {K : PySem.W.Frag} {H : Hp} {b p : Addr} {o : Obj} {kvs : List (Key × V)} {xs : List V} (hb : H b = some (.frz o (.dK kvs))) (h : tupF K H p = some xs) : tupF K (upd H b (.dK kvs)) p = some xs := by
  by_cases e : p = b
  · subst e
    unfold tupF at h ⊢
    split at h
    · rename_i hx; rw [dif_pos hx]; exact h
    · rw [hb] at h; cases h
  · unfold tupF at h ⊢
    rw [upd_ne e]; exact h
theorem Gd.ok {d : Nat} {t : Tm} (h : Gd d t) : t.Ok :=
  ⟨fun x hx => by rcases nx_cases (h.n x hx) with e | e | e | e | e <;> subst e <;> decide +kernel, fun g hg => ⟨by have := (h.f g hg).1; omega, (h.f g hg).2⟩⟩
theorem Gd.few {d : Nat} {t : Tm} (h : Gd d t) (hd : d ≤ 4) : t.sz ≤ 62 ∧ t.dep ≤ 13 := by
  have h1 := h.sz
  have h2 := h.dep
  have h3 : 2 ^ d ≤ 2 ^ 4 := Nat.pow_le_pow_right (by omega) hd
  omega
section
variable {P : Program} {w : World} {K : PySem.W.Frag} {mg : Str → Option Value} {base : Heap} {f c : Addr} {fd : FuncData} {NS : List Str}
abbrev s__law_use : Stmt := top 31
abbrev n__law_use : List Str := ["dice", "goal", "context", "deep", "name", "what", "arg", "one", "rest", "each", "left", "right"]
theorem sc__law_use : FnScope n__law_use ["dice", "goal", "context", "deep"] (defScope s__law_use) := ⟨rfl, rfl, rfl, by decide +kernel, rfl, by decide +kernel, by decide +kernel⟩
theorem step_use (F : Dn K mg "_law_use" s__law_use f fd c) (B : Bl mg) (hN : NsOk NS) (hA : ∀ x ∈ ABC, x ∈ NS) (k : Nat) (G__law_roll : Cal P w K mg base 1 "_law_roll" spRoll) (G__law_with : Cal P w K mg base 1 "_law_with" (spWith K)) (hk : 1 ≤ k)
    (G__law_make : CalG P w K mg base k "_law_make" (spMk K k)) : CalG P w K mg base (k + 1) "_law_use" (spUs K (k + 1)) := by
  refine F.calG (ps := ["dice", "goal", "context", "deep"]) (fun _ _ _ _ _ _ us hl => match us, hl with | [_, _, _, _], _ => rfl) sc__law_use (fun vs H Q E h => ?_) (fun A outer s H vs Q E hr hg0 h => ?_)
  · obtain ⟨_, _, _, _, _, _, rfl, _⟩ := h; rfl
  obtain ⟨a, b, gv, g, l, d, rfl, hkd, hdi, hg, hgd, hl, hc, q⟩ := h
  refine ⟨_, (pss_cons (ps_forF PassesOwn.never rfl (pi_lstK K (pe_callB (call_sortedF rfl) (by rfl) B.b_sorted (by decide +kernel) (pa_cons (pv 2) pa_nil))) (pg_name (i := 4) sc__law_use.nd rfl (by first | exact Or.inl rfl | exact Or.inr rfl)) (pss_cons (ps_set (i := 5) sc__law_use.nd rfl (by first | exact Or.inl rfl | exact Or.inr rfl) (pe_dgetF (hu_of hr) (pv 2) (pv 4) (fun _ _ => rfl)))
    (pss_cons (ps_if (pt_cmpR (op_eqK K hr.units) (pv 5) (pe_tupK K (pa_cons pe_str pa_nil)) (nomark _)) (pss_one (ps_ret (pe_tupK K (pa_cons pe_str (pa_cons (pe_tupK K (pa_cons pe_str (pa_cons (pv 4) pa_nil))) (pa_cons (pv 1) pa_nil)))))) pss_nil)
    (pss_cons (ps_if (pt_cmpR (op_eqK K hr.units) (pv 5) (pv 1) (nomark _)) (pss_one (ps_ret (pe_tupK K (pa_cons pe_str (pa_cons (pv 4) pa_nil))))) pss_nil)
    (PSs.hide (pss_cons (ps_if (PW.pt (pw_and (pt_cmpR op_eq (pe_ix (ix_tupK K) (pv 5) pe_int (fun _ _ => rfl)) pe_str (nomark _)) (pw_and1 (pt_cmpR (op_inTK K (unitsT hr)) (pv 1) (pe_slice (sl_tupK K) (pv 5) (po_some pe_int) po_none) (by rfl))))) (pss_one (ps_ret (pe_tupK K (pa_cons (pe_ix ix_lstF (pe_lstF (pa_cons pe_str (pa_cons pe_str pa_nil))) (pe_callTy call_int1 (by rfl) B.b_int (by decide +kernel) (pa_cons (pe_cmpR (op_neK K hr.units) (pe_ix (ix_tupK K) (pv 5) pe_int (fun _ _ => rfl)) (pv 1) (nomark _)) pa_nil)) (fun _ _ => rfl)) (pa_cons (pe_tupK K (pa_cons pe_str (pa_cons (pv 4) pa_nil))) pa_nil))))) pss_nil)
    (PSs.hide (pss_cons (ps_if (PW.pt (pw_and (pt_cmpR op_gt (pv 3) pe_int (nomark _)) (pw_and (pt_cmpR op_eq (pe_ix (ix_tupK K) (pv 5) pe_int (fun _ _ => rfl)) pe_str (nomark _)) (pw_and1 (pt_cmpR (op_eqK K hr.units) (pe_ix (ix_tupK K) (pv 5) pe_int (fun _ _ => rfl)) (pv 1) (nomark _)))))) (pss_cons (ps_set (i := 6) sc__law_use.nd rfl (by first | exact Or.inl rfl | exact Or.inr rfl) (pe_cG G__law_make hr (by omega) hg0 (by rfl) (pa_cons (pv 0) (pa_cons (pe_ix (ix_tupK K) (pv 5) pe_int (fun _ _ => rfl)) (pa_cons (pv 2) (pa_cons (pe_op op_sub (pv 3) pe_int) pa_nil))))))
    (pss_one (ps_if (pt_cmpR op_notN (pv 6) pe_non (nomark _)) (pss_one (ps_ret (pe_tupK K (pa_cons pe_str (pa_cons (pe_tupK K (pa_cons pe_str (pa_cons (pv 4) pa_nil))) (pa_cons (pv 6) pa_nil)))))) pss_nil))) pss_nil)
    (PSs.hide (pss_one (ps_if (PW.pt (pw_and (pt_cmpR op_gt (pv 3) pe_int (nomark _)) (pw_and1 (pt_cmpR op_eq (pe_ix (ix_tupK K) (pv 5) pe_int (fun _ _ => rfl)) pe_str (nomark _))))) (pss_cons (ps_par (i := 7) (j := 8) (by rfl) sc__law_use.nd rfl rfl (by decide) rfl rfl (pa_cons (pe_op op_add_str pe_str (pe_callTy call_str_int (by rfl) B.b_str (by decide +kernel) (pa_cons (pe_callB call_lenD (by rfl) B.b_len (by decide +kernel) (pa_cons (pv 2) pa_nil)) pa_nil))) (pa_cons (pe_callTy (call_dictPK K rfl) (by rfl) B.b_dict (by decide +kernel) (pa_cons (pe_lockD (pe_lcF (own := [("each", 9)]) rfl sc__law_use.nd (pi_keysF (pv 2)) (blkOk_by (own := [("each", 9)]) (N := n__law_use) (sc := defScope s__law_use) (by decide +kernel)) (fun _ _ _ _ _ => (pg_name (i := 9) sc__law_use.nd rfl (by first | exact Or.inl rfl | exact Or.inr rfl))) (fun _ _ _ _ _ => pts_one (pt_cmpR op_ne (pv 9) (pv 4) (nomark _))) (fun _ _ _ _ _ => (pe_tupK K (pa_cons (pv 9) (pa_cons (pe_dgetF (hu_of hr) (pv 2) (pv 9) (fun _ _ => rfl)) pa_nil)))))) pa_nil)) pa_nil)) (by rfl))
    (pss_cons (ps_set (i := 10) sc__law_use.nd rfl (by first | exact Or.inl rfl | exact Or.inr rfl) (pe_cG G__law_make hr (by omega) hg0 (by rfl) (pa_cons (pv 0) (pa_cons (pv 1) (pa_cons (C8.pe_c G__law_with hr (by omega) (by rfl) (pa_cons (C8.pe_c G__law_with hr (by omega) (by rfl) (pa_cons (pv 8) (pa_cons pe_str (pa_cons (pe_tupK K (pa_cons pe_str pa_nil)) pa_nil)))) (pa_cons (pv 7) (pa_cons (pe_ix (ix_tupK K) (pv 5) pe_int (fun _ _ => rfl)) pa_nil)))) (pa_cons (pe_op op_sub (pv 3) pe_int) pa_nil))))))
    (pss_cons (ps_set (i := 11) sc__law_use.nd rfl (by first | exact Or.inl rfl | exact Or.inr rfl) (pe_cG G__law_make hr (by omega) hg0 (by rfl) (pa_cons (pv 0) (pa_cons (pv 1) (pa_cons (C8.pe_c G__law_with hr (by omega) (by rfl) (pa_cons (C8.pe_c G__law_with hr (by omega) (by rfl) (pa_cons (pv 8) (pa_cons pe_str (pa_cons (pe_tupK K (pa_cons pe_str pa_nil)) pa_nil)))) (pa_cons (pv 7) (pa_cons (pe_ix (ix_tupK K) (pv 5) pe_int (fun _ _ => rfl)) pa_nil)))) (pa_cons (pe_op op_sub (pv 3) pe_int) pa_nil))))))
    (pss_one (ps_if (PW.pt (pw_and (pt_cmpR op_notN (pv 10) pe_non (nomark _)) (pw_and (pt_cmpR op_notN (pv 11) pe_non (nomark _)) (pw_and1 (pt_cmpR op_notin_str pe_str (pe_op op_add_str (pe_callTy (call_strT K hg0 (unitsP hr)) (by rfl) B.b_str (by decide +kernel) (pa_cons (pv 10) pa_nil)) (pe_callTy (call_strT K hg0 (unitsP hr)) (by rfl) B.b_str (by decide +kernel) (pa_cons (pv 11) pa_nil))) (by rfl)))))) (pss_one (ps_ret (pe_tupK K (pa_cons pe_str (pa_cons (pe_tupK K (pa_cons pe_str (pa_cons (pv 4) pa_nil))) (pa_cons (pv 7) (pa_cons (pv 10) (pa_cons (pv 7) (pa_cons (pv 11) pa_nil))))))))) pss_nil))))) pss_nil)))))))))))
    (pss_one (ps_ret pe_non))), ?_⟩
  have hz : (100000 : Nat) ≤ sizeLine := by decide
  have hcl := hc.len
  obtain ⟨kvs, hkvd, htk⟩ := id hl
  have hkv := dctF_dK hkvd
  have hkeys : kvs.map (·.1) = (l.map (·.1)).map Sum.inr := htk.keys
  have hbn := hl.ne hdi
  walk_at "rd"
  refine ⟨kvs, hkv, l.map (·.1), hkeys, by rw [List.length_map]; omega, fun ys p1 H1 pm so n1 e1 h1 => ⟨_, h1, ?_⟩⟩
  have np1 : p1 ∉ [a] := fun z => by
    obtain ⟨x, y, w0, e⟩ := hdi
    rw [show p1 = a by simpa using z, e] at n1; cases n1
  refine for_go walk_list (fun j σ' H' => (∃ x4 x5 x6 x7 x8 x9 x10 x11, σ' = [some (.ref a), some gv, some (.ref b), some (.int d), x4, x5, x6, x7, x8, x9, x10, x11]) ∧ Ext [a] H H' ∧ Ext [a] H1 H' ∧ DiceAt H' a) ⟨⟨_, _, _, _, _, _, _, _, rfl⟩, e1.any, Ext.refl _ _, DiceAt.ext0 e1 hdi⟩ (fun j σ' H' _ ⟨_, _, e, _⟩ => SqL.of (e.lst h1 np1)) (fun j x σ' H2 H3 hj ⟨⟨x4, x5, x6, x7, x8, x9, x10, x11, hσ⟩, e2, e12, d2⟩ y => ?_) fun σ' H2 ⟨⟨x4, x5, x6, x7, x8, x9, x10, x11, hσ⟩, e2, e12, d2⟩ => ?_
  · subst hσ
    obtain ⟨rfl, hx⟩ := y
    rw [List.getElem?_map] at hx
    cases hy : ys[j]? with
    | none => rw [hy] at hx; cases hx
    | some n =>
      rw [hy] at hx
      cases hx
      have hnm : n ∈ l.map (·.1) := pm.mem_iff.mp (List.mem_of_getElem? hy)
      walk_at "rd"
      generalize hT : (hideS _ : TS) = T
      rcases htk.val n with ⟨h1', _⟩ | ⟨t, v, hlk, hvv, htd⟩
      · exact absurd (lk_none.mp h1') (fun z => z hnm)
      have htg := (hc.n _ (lk_mem hlk)).2
      have hnx := (hc.n _ (lk_mem hlk)).1
      have tail : ∀ (nx bk ct : L2.St → Hp → Prop), (∀ x4 x5 x6 x7 x8 x9 x10 x11 H', Ext [a] H H' → Ext [a] H1 H' → DiceAt H' a → nx [some (.ref a), some gv, some (.ref b), some (.int d), x4, x5, x6, x7, x8, x9, x10, x11] H') →
          ∀ x6 x7 x8 x9 x10 x11 H2, Ext [a] H H2 → Ext [a] H1 H2 → DiceAt H2 a → T { nx := nx, rt := Q, bk := bk, ct := ct } [some (V.ref a), some gv, some (V.ref b), some (V.int d), some (.str n), some v, x6, x7, x8, x9, x10, x11] H2 := by
        intro nx bk ct hnxt x6 x7 x8 x9 x10 x11 H2 e2 e12 d2
        rw [← hT, hideS_eq]
        walk_at "rd"
        generalize hT2 : (hideS _ : TS) = T2
        have tail2 : ∀ (nx bk ct : L2.St → Hp → Prop), (∀ x4 x5 x6 x7 x8 x9 x10 x11 H', Ext [a] H H' → Ext [a] H1 H' → DiceAt H' a → nx [some (.ref a), some gv, some (.ref b), some (.int d), x4, x5, x6, x7, x8, x9, x10, x11] H') →
            ∀ x6 x7 x8 x9 x10 x11 H2, Ext [a] H H2 → Ext [a] H1 H2 → DiceAt H2 a → T2 { nx := nx, rt := Q, bk := bk, ct := ct } [some (V.ref a), some gv, some (V.ref b), some (V.int d), some (.str n), some v, x6, x7, x8, x9, x10, x11] H2 := by
          intro nx bk ct hnxt x6 x7 x8 x9 x10 x11 H2 e2 e12 d2
          rw [← hT2, hideS_eq]
          walk_at "rd"
          generalize hT3 : (hideS _ : TS) = T3
          have tail3 : ∀ (nx bk ct : L2.St → Hp → Prop), (∀ x4 x5 x6 x7 x8 x9 x10 x11 H', Ext [a] H H' → Ext [a] H1 H' → DiceAt H' a → nx [some (.ref a), some gv, some (.ref b), some (.int d), x4, x5, x6, x7, x8, x9, x10, x11] H') →
              ∀ x6 x7 x8 x9 x10 x11 H2, Ext [a] H H2 → Ext [a] H1 H2 → DiceAt H2 a → T3 { nx := nx, rt := Q, bk := bk, ct := ct } [some (V.ref a), some gv, some (V.ref b), some (V.int d), some (.str n), some v, x6, x7, x8, x9, x10, x11] H2 := by
            intro nx bk ct hnxt x6 x7 x8 x9 x10 x11 H2 e2 e12 d2
            rw [← hT3, hideS_eq]
            walk_at "rd"
            refine ite2 (fun h0 => ?_) fun _ => hnxt _ _ _ _ _ _ _ _ H2 e2 e12 d2
            obtain ⟨tp, tws, hv, htp⟩ := fd_hd (htd.ext e2)
            refine ⟨tp, hv, _, htp, _, atI_0, rfl, ite2 (fun h => ?_) fun _ => hnxt _ _ _ _ _ _ _ _ H2 e2 e12 d2⟩
            obtain ⟨s1, s2, rfl⟩ := hd_is (j := .either) h
            obtain ⟨g1, g2⟩ := htg.b
            obtain ⟨tp', u1, u2, e, hp', hu1, hu2⟩ := fd_b (htd.ext e2)
            rw [hv] at e
            cases e
            obtain ⟨d', rfl⟩ : ∃ d', d = d' + 1 := ⟨d - 1, by omega⟩
            have ed : (((d' + 1 : Nat) : Int) - 1) = (d' : Nat) := by omega
            rw [ed]
            have hk2 : H2 b = some (.dK kvs) := e2.dK hkvd hbn
            have ht2 : TabK K H2 kvs l := htk.ext e2
            have hkl := ht2.length
            have hfew := hc.few
            have hxn : (Str.ofString "x" ++ Str.ofString (toString ((kvs.length : Nat) : Int))) ∈ NX := nx_x (by omega)
            refine ⟨kvs, hk2, lg4 (by omega), ln4 (by omega), b, kvs, hk2, fun o => ?_⟩
            walk_at "rd"
            have hfb : upd H2 b (HO.frz o (HO.dK kvs)) b = some (HO.frz o (HO.dK kvs)) := upd_same
            have eL : Ext [b] H2 (upd H2 b (HO.frz o (HO.dK kvs))) := Ext.lockD hk2
            generalize hHL : upd H2 b (HO.frz o (HO.dK kvs)) = HL at hfb eL ⊢
            have ndk : (kvs.map (·.1)).Nodup := by rw [hkeys]; exact nodup_inr hc.nd
            refine ⟨o, kvs, hfb, ?_⟩
            refine lc_go walk_keys (fun D i zs H' => Ext [] HL H' ∧ ∃ ps : List Addr, zs = ps.map V.ref ∧ Paired (fun p (kv : Key × V) => tupF K H' p = some [kV kv.1, kv.2]) ps ((kvs.take i).filter fun kv => decide (kv.1 ≠ .inr n))) (fun D hD => ⟨Ext.new hD, [], rfl, by simpa using .nil⟩) (fun D i zs H' ⟨e, _⟩ => e.frz _ _ _ hfb) (fun D i x zs H4 H5 hD hi ⟨e4, ps, hps, hpp⟩ hl5 hDy y => ?_) fun D zs H4 hD ⟨e4, ps, hps, hpp⟩ hDy hl5 => ?_
            · obtain ⟨rfl, k0, v0, hkv0, rfl⟩ := y
              obtain ⟨m, t0, rfl, hlm, htd0⟩ := ht2.get hkv0
              have hvm := valV_get ndk hkv0
              have hnx2 : (kvs.take (i + 1)).filter (fun kv => decide (kv.1 ≠ .inr n)) = (kvs.take i).filter (fun kv => decide (kv.1 ≠ .inr n)) ++ (if m = n then [] else [(Sum.inr m, v0)]) := by
                rw [List.take_add_one, hkv0, List.filter_append]
                by_cases e : m = n
                · simp [e]
                · simp [e]
              walk_at "rd"
              refine ⟨rfl, ?_⟩
              have hD5 := hDy
              by_cases emn : m = n
              · subst emn
                rw [if_neg (by simp [kV])]
                rw [if_pos rfl, List.append_nil] at hnx2
                exact ⟨_, by omega, hDy, e4, ps, hps, by rw [hnx2]; exact hpp⟩
              · rw [if_pos (by simp [kV, emn])]
                refine ⟨m, rfl, kvs, dctF_frz (e4.frz _ _ _ hfb), v0, hvm, by omega, fun p6 H6 e6 g6 => ?_⟩
                have hD6 := e6.lst0 hDy
                have eS : Ext [D] H6 (upd H6 D (.lst (zs ++ [.ref p6]))) := Ext.setL List.mem_cons_self hD6
                refine ⟨zs, hD6, by omega, zs ++ [.ref p6], by rw [List.length_append, List.length_singleton]; omega, upd_same, (e4.trans e6).over hD eS, ps ++ [p6], by rw [hps]; simp, ?_⟩
                rw [hnx2, if_neg emn]
                exact Paired.snoc (paired_imp (fun p kv h => tupF_ext eS (tupF_ext e6 h)) hpp) (tupF_ext eS g6)
            have hb4 := e4.frz _ _ _ hfb
            rw [List.take_length] at hpp
            subst hps
            have nDb : D ≠ b := fun z => by rw [z, hfb] at hD; cases hD
            have eU : Ext [] H2 (upd H4 b (.dK kvs)) := Ext.unlockD hk2 (by rw [hHL]; exact e4)
            have hDU : upd H4 b (HO.dK kvs) D = some (.lst (ps.map V.ref)) := by rw [upd_ne nDb]; exact hDy
            have hppU := paired_imp (fun p (kv : Key × V) h => tupF_unl (kvs := kvs) (o := o) hb4 h) hpp
            generalize upd H4 b (HO.dK kvs) = HU at eU hDU hppU ⊢
            refine ⟨hb4, D, rfl, ps, hDU, _, hppU, fun R H5 nR e5 hR => ⟨_, _, ⟨rfl, rfl⟩, by omega, fun p6 H6 e6 g6 => ?_⟩⟩
            have hfm : TabD K H5 R (l.filter fun p => decide (p.1 ≠ n)) := by
              have := ((TabK.nil : TabK K H5 [] []).merge (ht2.filt n |>.ext (eU.trans e5)))
              rw [fold_putL _ [] (by simpa using hc.nd.sublist (List.Sublist.map _ List.filter_sublist))] at this
              exact ⟨_, hR, by simpa using this⟩
            have hro : CtxO (l.filter fun p => decide (p.1 ≠ n)) (d' + 1 + 1) := by
              refine ⟨fun p hp => hc.n p (List.mem_filter.mp hp).1, hc.nd.sublist (List.Sublist.map _ List.filter_sublist), ?_⟩
              have : (l.filter fun p => decide (p.1 ≠ n)).length < l.length := by
                refine List.length_filter_lt_length_iff_exists.mpr ⟨_, lk_mem hlk, by simp⟩
              omega
            have hrl' : ∀ z f, lk (l.filter fun p => decide (p.1 ≠ n)) z = some f → lk l z = some f := fun z f h => lk_filter h
            generalize (l.filter fun p => decide (p.1 ≠ n)) = rl at hfm hro hrl'
            have hone : FGd .one := ⟨by decide, fun y hy => by cases hy⟩
            have c1 : CtxO (putL rl "q" .one) (d' + 1) := hro.put (by decide) hone
            have hrl := hro.len
            have hcl1 := c1.len
            have e56 := e5.trans e6
            have e26 := eU.trans e56
            refine ⟨R, "q", .ref p6, rl, .one, rfl, (hfm.ext0 e6).a, .tup g6 (.cons (.str _) .nil), by omega, fun R1 H7 n7 e7 h7 => ?_⟩
            have e27 := e26.trans e7
            refine ⟨tp, hv, _, tupF_ext e27 hp', _, atI_1, R1, _, u1, _, s1, rfl, h7.a, hu1.ext e27, by omega, fun R2 H8 n8 e8 h8 => ?_⟩
            have e28 := e27.trans e8
            have d8 := DiceAt.ext0 e28 d2
            have e08 := e2.trans e28.any
            refine ⟨a, R2, gv, g, _, d', rfl, by omega, d8, hg.ext e08, hgd, h8, c1.put hxn g1, fun v1 H9 e9 d9 hv1 => ?_⟩
            have e29 : Ext [a] H2 H9 := e28.any.trans e9
            have e09 := e2.trans e29
            have hRn : R ∉ [a] := hfm.ne (DiceAt.ext0 (eU.trans e5) d2)
            dsimp only
            refine ⟨by omega, fun p10 HA eA gA => ?_⟩
            have hRA : TabD K HA R rl := (hfm.ext0 (e6.trans (e7.trans e8))).ext (e9.trans eA.any) hRn
            refine ⟨R, "q", .ref p10, rl, .one, rfl, hRA.a, .tup gA (.cons (.str _) .nil), by omega, fun R3 HB nB eB hB => ?_⟩
            have e2B : Ext [a] H2 HB := e29.trans (eA.trans eB).any
            refine ⟨tp, hv, _, tupF_ext e2B hp', _, atI_2, R3, _, u2, _, s2, rfl, hB.a, hu2.ext e2B, by omega, fun R4 HC nC eC hC => ?_⟩
            have e2C := e2B.trans eC.any
            have e0C := e2.trans e2C
            have dC := DiceAt.ext0 eC (DiceAt.ext0 (eA.trans eB) d9)
            refine ⟨a, R4, gv, g, _, d', rfl, by omega, dC, hg.ext e0C, hgd, hC, c1.put hxn g2, fun v2 HD eD dD hv2 => ?_⟩
            have e2D := e2C.trans eD
            have e0D := e2.trans e2D
            have e1D := e12.trans e2D
            dsimp only
            rcases hv1 with rfl | ⟨t1, ht1, htd1⟩
            · rw [if_neg (by decide)]; exact hnxt _ _ _ _ _ _ _ _ HD e0D e1D dD
            rw [if_pos (by simp [td_nn htd1])]
            rcases hv2 with rfl | ⟨t2, ht2, htd2⟩
            · rw [if_neg (by decide)]; exact hnxt _ _ _ _ _ _ _ _ HD e0D e1D dD
            rw [if_pos (by simp [td_nn htd2])]
            have htd1' := htd1.ext ((eA.trans (eB.trans eC)).any.trans eD)
            have s1' := tshow_len t1 ht1.gd.n ht1.gd.f
            have s2' := tshow_len t2 ht2.gd.n ht2.gd.f
            have w1 := ht1.gd.few (by omega)
            have w2 := ht2.gd.few (by omega)
            obtain ⟨ds1, hds1⟩ := Tm.data_k t1
            obtain ⟨ds2, hds2⟩ := Tm.data_k t2
            have sh1 := ht1.gd.ok.shaped (by omega)
            have sh2 := ht2.gd.ok.shaped (by omega)
            have sw1 := tshow_ok t1
            have sw2 := tshow_ok t2
            have htd1k := htd1'
            have htd2k := htd2
            rw [hds1] at htd1' sh1 sw1 s1'
            rw [hds2] at htd2 sh2 sw2 s2'
            refine ⟨v1, _, rfl, htd1', sh1, sw1, by omega, v2, _, rfl, htd2, sh2, sw2, by omega, _, rfl, _, rfl, by omega, ?_⟩
            refine ite2 (fun hqq => ?_) fun _ => hnxt _ _ _ _ _ _ _ _ HD e0D e1D dD
            have hqs := no_q (t1 := t1) (t2 := t2) (by rw [hds1, hds2]) hqq
            refine ⟨by omega, fun pE HE eE gE => ⟨by omega, fun pF HF eF gF => q _ HF ((e0D.trans eE.any).trans eF.any) (DiceAt.ext0 eF (DiceAt.ext0 eE dD)) (.inr ⟨_, .cs hnx hxn hlk ht1 ht2 hqs.1 hqs.2 hrl', ?_⟩)⟩⟩
            exact .tup gF (.cons (.str _) (.cons (.tup (tupF_ext eF gE) (.cons (.str _) (.cons (.str _) .nil))) (.cons (.str _) (.cons ((htd1k.ext eE).ext eF) (.cons (.str _) (.cons ((htd2k.ext eE).ext eF) .nil))))))
          refine ite2 (fun h0 => ?_) fun _ => tail3 nx bk ct hnxt _ _ _ _ _ _ H2 e2 e12 d2
          obtain ⟨tp, tws, hv, htp⟩ := fd_hd (htd.ext e2)
          refine ⟨tp, hv, _, htp, _, atI_0, rfl, ite2 (fun h => ?_) fun _ => tail3 nx bk ct hnxt _ _ _ _ _ _ H2 e2 e12 d2⟩
          obtain ⟨s1, s2, rfl⟩ := hd_is (j := .to) h
          obtain ⟨g1, g2⟩ := htg.b
          obtain ⟨tp', u1, u2, e, hp', hu1, hu2⟩ := fd_b (htd.ext e2)
          rw [hv] at e
          cases e
          obtain ⟨d', rfl⟩ : ∃ d', d = d' + 1 := ⟨d - 1, by omega⟩
          have ed : (((d' + 1 : Nat) : Int) - 1) = (d' : Nat) := by omega
          rw [ed]
          refine ⟨tp, hv, _, hp', _, atI_2, s2.data, g.data, hu2, hg.ext e2, g2.sh hN hA, hgd.sh hN hA, _, rfl, ite2 (fun hsg => ?_) fun _ => tail3 nx bk ct hnxt _ _ _ _ _ _ H2 e2 e12 d2⟩
          rw [if_neg Bool.false_ne_true, Fm.eqv_data] at hsg
          have hsg := of_decide_eq_true hsg
          subst hsg
          refine ⟨tp, hv, _, hp', _, atI_1, a, b, u1, s1, l, d', rfl, by omega, d2, hu1, g1, hl.ext e2 hbn, hc.less, fun v1 H4 e4 d4 hv1 => ?_⟩
          have e04 := e2.trans e4
          dsimp only
          rcases hv1 with rfl | ⟨t1, ht1, htd1⟩
          · rw [if_neg (by decide)]; exact tail3 nx bk ct hnxt _ _ _ _ _ _ H4 e04 (e12.trans e4) d4
          rw [if_pos (by simp [td_nn htd1])]
          refine ⟨by omega, fun p5 H5 e5 g5 => ⟨by omega, fun p6 H6 e6 g6 => q _ H6 ((e04.trans e5.any).trans e6.any) (DiceAt.ext0 e6 (DiceAt.ext0 e5 d4)) (.inr ⟨_, .useA hnx hlk ht1, ?_⟩)⟩⟩
          exact .tup g6 (.cons (.str _) (.cons (.tup (tupF_ext e6 g5) (.cons (.str _) (.cons (.str _) .nil))) (.cons ((htd1.ext e5).ext e6) .nil)))
        obtain ⟨tp, tws, hv, htp⟩ := fd_hd (htd.ext e2)
        refine ⟨tp, hv, _, htp, _, atI_0, rfl, ite2 (fun h => ?_) fun _ => tail2 nx bk ct hnxt _ _ _ _ _ _ H2 e2 e12 d2⟩
        obtain ⟨s1, s2, rfl⟩ := hd_is (j := .both) h
        obtain ⟨g1, g2⟩ := htg.b
        obtain ⟨tp', u1, u2, e, hp', hu1, hu2⟩ := fd_b (htd.ext e2)
        rw [hv] at e
        cases e
        refine ⟨tp, hv, _, hp', fun p4 H4 e4 g4 => ?_⟩
        rw [cutV_1] at g4
        have e04 := e2.trans e4.any
        have d4 := DiceAt.ext0 e4 d2
        refine ⟨g.data, hg.ext e04, [s1.data, s2.data], .tup g4 (.cons (hu1.ext e4) (.cons (hu2.ext e4) .nil)), hgd.sh hN hA, sh_two g1 g2, ?_⟩
        refine ite2 (fun hmem => ⟨by omega, fun p5 H5 n5 e5 h5 => ⟨tp, hv, _, tupF_ext (e4.trans e5) hp', _, atI_1, s1.data, g.data, hu1.ext (e4.trans e5), (hg.ext e04).ext e5, g1.sh hN hA, hgd.sh hN hA, ?_⟩⟩) fun _ => tail2 nx bk ct hnxt _ _ _ _ _ _ H4 e04 (e12.trans e4.any) d4
        have fin : ∀ (x : Str) (r : Tm), (r = .fst (.var n) ∧ x = "first") ∧ s1 = g ∨ (r = .snd (.var n) ∧ x = "second") ∧ s2 = g → ∀ H5, Ext [a] H H5 → DiceAt H5 a → ∀ p6 H6, Ext [] H5 H6 → tupF K H6 p6 = some [V.str "var", V.str n] → ∀ p7 H7, Ext [] H6 H7 → tupF K H7 p7 = some [V.str x, V.ref p6] → Q (.ref p7) H7 := fun x r hr H5 e5 d5 p6 H6 e6 g6 p7 H7 e7 g7 => by
          refine q _ H7 ((e5.trans e6.any).trans e7.any) (DiceAt.ext0 e7 (DiceAt.ext0 e6 d5)) (.inr ⟨r, ?_, ?_⟩)
          · rcases hr with ⟨⟨rfl, _⟩, hsg⟩ | ⟨⟨rfl, _⟩, hsg⟩
            · subst hsg; exact .fst hnx hlk
            · subst hsg; exact .snd hnx hlk
          · have hv : Td K H7 (.ref p6) (Tm.var n).data := .tup (tupF_ext e7 g6) (.cons (.str _) (.cons (.str _) .nil))
            rcases hr with ⟨⟨rfl, rfl⟩, _⟩ | ⟨⟨rfl, rfl⟩, _⟩
            · exact .tup g7 (.cons (.str _) (.cons hv .nil))
            · exact .tup g7 (.cons (.str _) (.cons hv .nil))
        have h05 := e04.trans e5.any
        have d5 := DiceAt.ext0 e5 d4
        refine .inr ⟨_, rfl, _, h5, ?_⟩
        have hmem2 : s1 = g ∨ s2 = g := by simpa [Fm.eqv_data] using hmem
        rw [if_pos rfl, Fm.eqv_data]
        by_cases hsg : s1 = g
        · rw [decide_eq_true hsg]
          refine ⟨.str "first", by rfl, by omega, fun p6 H6 e6 g6 => ⟨by omega, fun p7 H7 e7 g7 => fin "first" _ (.inl ⟨⟨rfl, rfl⟩, hsg⟩) H5 h05 d5 p6 H6 e6 g6 p7 H7 e7 g7⟩⟩
        · rw [decide_eq_false hsg]
          refine ⟨.str "second", by rfl, by omega, fun p6 H6 e6 g6 => ⟨by omega, fun p7 H7 e7 g7 => fin "second" _ (.inr ⟨⟨rfl, rfl⟩, hmem2.resolve_left hsg⟩) H5 h05 d5 p6 H6 e6 g6 p7 H7 e7 g7⟩⟩
      have hvv3 : dctF H3 b = some kvs := dctF_dK (e2.dK hkvd hbn)
      have htd3 := htd.ext e2
      have hg3 := hg.ext e2
      refine ⟨kvs, hvv3, v, hvv, by omega, fun p4 H4 e4 g4 => ⟨t.data, Fm.none.data, htd3.ext e4, .tup g4 (.cons (.str _) .nil), htg.sh hN hA, by decide +kernel, _, rfl, ?_⟩⟩
      rw [if_neg Bool.false_ne_true, Fm.eqv_data]
      have e04 := e2.trans e4.any
      have d4 := DiceAt.ext0 e4 d2
      refine ite2 (fun hgn => ⟨by omega, fun p5 H5 e5 g5 => ⟨by omega, fun p6 H6 e6 g6 => q _ H6 ((e04.trans e5.any).trans e6.any) (DiceAt.ext0 e6 (DiceAt.ext0 e5 d4)) (.inr ⟨_, .absd hnx (by rw [hlk, of_decide_eq_true hgn]) hgd, ?_⟩)⟩⟩) fun _ => ?_
      · exact .tup g6 (.cons (.str _) (.cons (.tup (tupF_ext e6 g5) (.cons (.str _) (.cons (.str _) .nil))) (.cons (((hg3.ext e4).ext e5).ext e6) .nil)))
      refine ⟨t.data, g.data, htd3.ext e4, hg3.ext e4, htg.sh hN hA, hgd.sh hN hA, _, rfl, ?_⟩
      rw [if_neg Bool.false_ne_true, Fm.eqv_data]
      refine ite2 (fun hgn => ⟨by omega, fun p5 H5 e5 g5 => q _ H5 (e04.trans e5.any) (DiceAt.ext0 e5 d4) (.inr ⟨_, .var hnx (by rw [hlk, of_decide_eq_true hgn]), .tup g5 (.cons (.str _) (.cons (.str _) .nil))⟩)⟩) fun _ => tail _ _ _ (fun _ _ _ _ _ _ _ _ H' e e' d' => ⟨⟨_, _, _, _, _, _, _, _, rfl⟩, e, e', d'⟩) _ _ _ _ _ _ H4 e04 (e12.trans e4.any) d4
  · subst hσ
    walk_at "rd"
    exact q _ _ e2 d2 (.inl rfl)
end
end Sq
set_option Elab.async false
set_option linter.all false
set_option maxRecDepth 100000
set_option maxHeartbeats 4000000
namespace Sq
open PySem PySem.Spec PyProof.Rows L2 RZ
local macro_rules | `(tactic| walk_at "rd") => `(tactic| simp only [tCont, tNever, iEnumL, iRng1, rPop0, rTIndex, rKdIx, rKdNin, tDG2, rU, tTIdx, iZipS, rDictC, rDictP, tDisp, tPairs, rIndexS, wipe, tNoPart, tDG2, tDGF, tDInF, tDNInF, sDPutF, tDNewF, rSortD, rInS, rInT, rEqLF, tDcF, tDc2F, tLcF, tForF, tAllF, tAnyF, tSumF, iStr, iEnumF, iZipF, iKeysF, iItems, tLZip, tYes, tSeq, tIfS, tNext, tRet, tRetN, tDrop, tTest, tB, tNot, tAnd, tOr, tChain, tOp, tUn, tCB, tCons, tNil, tC, tVar, tIf, tAndV, tOrV, tNotV, tAsg, tPar, tPar3, gName, gSub, gTupF, gCons, gNil, tTupF, tLstF, rI0, rI, rIxF, rIxG, rIxS, rSetF, rSlF, rCatF, rCatL, rTupL, rListT, rListL, rLenT, rLenL, iTupF, iLstF, rAppF, rExtF, rPopF, tBM, tBM0, tSl, tPart, rEq, rNe, tCall, L2.start,
  List.map_cons, List.map_nil, List.length_cons, List.length_nil, Nat.sub_self, List.replicate, List.append_nil, List.cons_append, List.nil_append, List.getElem?_cons_zero, List.getElem?_cons_succ, List.set_cons_zero, List.set_cons_succ,
  exSl, exI, exI2, exB, exS, exR, ex1, ex1', V.int.injEq, V.bl.injEq, V.ref.injEq, V.str.injEq, Option.some.injEq, List.cons.injEq, and_true, true_and, reduceCtorEq, false_and, and_false, or_false, false_or, exists_false, exists_and_left, exists_eq_left', decide_eq_true_eq, decide_true, decide_false, if_false, if_true, ite_true, ite_false, Bool.false_eq_true, Bool.not_true, Bool.not_false, Nat.reduceAdd, Nat.reduceSub, Nat.zero_add, atI_0, atI_1, atI_2, atI_3, ixN_0, ixN_1, ixN_2, cutV_1, cutV_2, Option.some.injEq, HO.lst.injEq, HO.dK.injEq, scal])
local macro_rules | `(tactic| walk_at "rdc") => `(tactic| simp (config := { contextual := true }) only [tCont, tNever, iEnumL, iRng1, rPop0, rTIndex, rKdIx, rKdNin, tDG2, rU, tTIdx, iZipS, rDictC, rDictP, tDisp, tPairs, rIndexS, wipe, tNoPart, tDG2, tDGF, tDInF, tDNInF, sDPutF, tDNewF, rSortD, rInS, rInT, rEqLF, tDcF, tDc2F, tLcF, tForF, tAllF, tAnyF, tSumF, iStr, iEnumF, iZipF, iKeysF, iItems, tLZip, tYes, tSeq, tIfS, tNext, tRet, tRetN, tDrop, tTest, tB, tNot, tAnd, tOr, tChain, tOp, tUn, tCB, tCons, tNil, tC, tVar, tIf, tAndV, tOrV, tNotV, tAsg, tPar, tPar3, gName, gSub, gTupF, gCons, gNil, tTupF, tLstF, rI0, rI, rIxF, rIxG, rIxS, rSetF, rSlF, rCatF, rCatL, rTupL, rListT, rListL, rLenT, rLenL, iTupF, iLstF, rAppF, rExtF, rPopF, tBM, tBM0, tSl, tPart, rEq, rNe, tCall, L2.start,
  List.map_cons, List.map_nil, List.length_cons, List.length_nil, Nat.sub_self, List.replicate, List.append_nil, List.cons_append, List.nil_append, List.getElem?_cons_zero, List.getElem?_cons_succ, List.set_cons_zero, List.set_cons_succ,
  exSl, exI, exI2, exB, exS, exR, ex1, ex1', V.int.injEq, V.bl.injEq, V.ref.injEq, V.str.injEq, Option.some.injEq, List.cons.injEq, and_true, true_and, reduceCtorEq, false_and, and_false, or_false, false_or, exists_false, exists_and_left, exists_eq_left', decide_eq_true_eq, decide_true, decide_false, if_false, if_true, ite_true, ite_false, Bool.false_eq_true, Bool.not_true, Bool.not_false, Nat.reduceAdd, Nat.reduceSub, Nat.zero_add, atI_0, atI_1, atI_2, atI_3, ixN_0, ixN_1, ixN_2, cutV_1, cutV_2, Option.some.injEq, HO.lst.injEq, HO.dK.injEq, scal, *])
section
variable {P : Program} {w : World} {K : PySem.W.Frag} {mg : Str → Option Value} {base : Heap} {f c f2 c2 : Addr} {fd fd2 : FuncData} {NS : List Str}
theorem Dn.vacG {x : Str} {st : Stmt} {ps : List Str} {sp : Sp} {k : Nat} (F : Dn K mg x st f fd c) (hb : BindOk x st ps) (h : ∀ vs H Q E, ¬ sp vs H Q E) : CalG P w K mg base k x sp :=
  ⟨f, fd, ps, ⟨fun vs H Q E z => absurd z (h vs H Q E), fun A outer s H args us vs Q E _ _ _ _ _ z => absurd z (h vs H Q E)⟩, F.mgf, F.kp, F.binds hb⟩
theorem ok_mu (F : Dn K mg "_law_make" s__law_make f fd c) (F2 : Dn K mg "_law_use" s__law_use f2 fd2 c2) (B : Bl mg) (hN : NsOk NS) (hA : ∀ x ∈ ABC, x ∈ NS) (G_roll : Cal P w K mg base 1 "_law_roll" spRoll) (G_with : Cal P w K mg base 1 "_law_with" (spWith K)) :
    ∀ k, CalG P w K mg base k "_law_make" (spMk K k) ∧ CalG P w K mg base k "_law_use" (spUs K k)
  | 0 => ⟨F.vacG (ps := ["dice", "goal", "context", "deep"]) (fun _ _ _ _ _ _ us hl => match us, hl with | [_, _, _, _], _ => rfl) fun vs H Q E ⟨_, _, _, _, _, _, _, h, _⟩ => by omega,
    F2.vacG (ps := ["dice", "goal", "context", "deep"]) (fun _ _ _ _ _ _ us hl => match us, hl with | [_, _, _, _], _ => rfl) fun vs H Q E ⟨_, _, _, _, _, _, _, h, _⟩ => by omega⟩
  | 1 => ⟨F.vacG (ps := ["dice", "goal", "context", "deep"]) (fun _ _ _ _ _ _ us hl => match us, hl with | [_, _, _, _], _ => rfl) fun vs H Q E ⟨_, _, _, _, _, _, _, h, _⟩ => by omega,
    F2.vacG (ps := ["dice", "goal", "context", "deep"]) (fun _ _ _ _ _ _ us hl => match us, hl with | [_, _, _, _], _ => rfl) fun vs H Q E ⟨_, _, _, _, _, _, _, h, _⟩ => by omega⟩
  | k + 2 => by
    have ih := ok_mu F F2 B hN hA G_roll G_with (k + 1)
    exact ⟨step_make F B hN hA (k + 1) G_roll G_with (by omega) ih.1 ih.2, step_use F2 B hN hA (k + 1) G_roll G_with (by omega) ih.1⟩
abbrev s__law_closed : Stmt := top 33
abbrev n__law_closed : List Str := ["dice", "deep", "turn", "goal", "term"]
theorem sc__law_closed : FnScope n__law_closed ["dice", "deep"] (defScope s__law_closed) := ⟨rfl, rfl, rfl, by decide +kernel, rfl, by decide +kernel, by decide +kernel⟩
def spClo (K : PySem.W.Frag) : Sp := fun vs H Q _ => ∃ (a : Addr) (d : Nat), vs = [.ref a, .int (d : Nat)] ∧ 1 ≤ d ∧ d ≤ 4 ∧ DiceAt H a ∧
  ∀ v' (t : Tm) (g : Fm) H', Ext [a] H H' → DiceAt H' a → Dr d t [] g → FGd g → (∃ s1 s2, g = Fm.bin .to s1 s2) → Td K H' v' (.tuple [t.data, g.data]) → Q v' H'
theorem ok_closed (F : Dn K mg "_law_closed" s__law_closed f fd c) (B : Bl mg) (G__law_make : CalG P w K mg base 11 "_law_make" (spMk K 11)) (G__law_formula : Cal P w K mg base 4 "_law_formula" (spLF K 4)) : CalG P w K mg base 12 "_law_closed" (spClo K) := by
  refine F.calG (ps := ["dice", "deep"]) (fun _ _ _ _ _ _ us hl => match us, hl with | [_, _], _ => rfl) sc__law_closed (fun vs H Q E h => ?_) (fun A outer s H vs Q E hr hg0 h => ?_)
  · obtain ⟨_, _, rfl, _⟩ := h; rfl
  obtain ⟨a, d, rfl, hd1, hd4, hdi, q⟩ := h
  refine ⟨_, (pss_cons (ps_forF PassesOwn.never rfl (pi_range1 (by rfl) B.b_range (pa_cons pe_int pa_nil)) (pg_name (i := 2) sc__law_closed.nd rfl (by first | exact Or.inl rfl | exact Or.inr rfl)) (pss_cons (ps_set (i := 3) sc__law_closed.nd rfl (by first | exact Or.inl rfl | exact Or.inr rfl) (pe_tupK K (pa_cons pe_str (pa_cons (C8.pe_c G__law_formula hr (by omega) (by rfl) (pa_cons (pv 0) (pa_cons pe_int pa_nil))) (pa_cons (C8.pe_c G__law_formula hr (by omega) (by rfl) (pa_cons (pv 0) (pa_cons pe_int pa_nil))) pa_nil)))))
    (pss_cons (ps_set (i := 4) sc__law_closed.nd rfl (by first | exact Or.inl rfl | exact Or.inr rfl) (pe_cG G__law_make hr (by omega) hg0 (by rfl) (pa_cons (pv 0) (pa_cons (pv 3) (pa_cons pe_dnewF (pa_cons (pv 1) pa_nil))))))
    (pss_one (ps_if (pt_cmpR op_notN (pv 4) pe_non (nomark _)) (pss_one (ps_ret (pe_tupK K (pa_cons (pv 4) (pa_cons (pv 3) pa_nil))))) pss_nil)))))
    (pss_one (ps_ret (pe_tupK K (pa_cons (pe_tupK K (pa_cons pe_str (pa_cons pe_str (pa_cons (pe_tupK K (pa_cons pe_str (pa_cons pe_str pa_nil))) (pa_cons (pe_tupK K (pa_cons pe_str (pa_cons pe_str pa_nil))) pa_nil))))) (pa_cons (pe_tupK K (pa_cons pe_str (pa_cons (pe_tupK K (pa_cons pe_str (pa_cons pe_str pa_nil))) (pa_cons (pe_tupK K (pa_cons pe_str (pa_cons pe_str pa_nil))) pa_nil)))) pa_nil)))))), ?_⟩
  have hz : (100000 : Nat) ≤ sizeLine := by decide
  walk_at "rd"
  refine ⟨by decide, by decide, ?_⟩
  refine for_go walk_range (fun j σ' H' => (∃ x2 x3 x4, σ' = [some (.ref a), some (.int d), x2, x3, x4]) ∧ Ext [a] H H' ∧ DiceAt H' a) ⟨⟨_, _, _, rfl⟩, Ext.refl _ _, hdi⟩ (fun _ _ _ _ _ => trivial) (fun j x σ' H1 H2 hj ⟨⟨x2, x3, x4, hσ⟩, e1, d1⟩ y => ?_) fun σ' H1 ⟨⟨x2, x3, x4, hσ⟩, e1, d1⟩ => ?_
  · subst hσ
    obtain ⟨rfl, rfl⟩ := y
    walk_at "rd"
    refine ⟨a, 2, rfl, by omega, d1, fun v1 f1 H3 e3 d3 h1 hd1 ha1 => ⟨a, 2, rfl, by omega, d3, fun v2 f2 H4 e4 d4 h2 hd2 ha2 => ⟨by omega, fun p5 H5 e5 g5 p6 H6 n6 e6 h6 => ?_⟩⟩⟩
    have e06 := ((e1.trans e3).trans e4).trans (e5.trans e6).any
    have d6 := DiceAt.ext0 (e5.trans e6) d4
    have hgoal : Td K H6 (.ref p5) (Fm.bin .to f1 f2).data := (show Td K H5 (.ref p5) (Fm.bin .to f1 f2).data from .tup g5 (.cons (.str _) (.cons ((h1.ext e4).ext e5) (.cons (h2.ext e5) .nil)))).ext e6
    have hgg : FGd (.bin .to f1 f2) := ⟨by simp only [Fm.dep]; omega, fun x hx => by
      rcases List.mem_append.mp hx with z | z
      · exact ha1 x z
      · exact ha2 x z⟩
    refine ⟨a, p6, .ref p5, _, [], d, rfl, by omega, d6, hgoal, hgg, ⟨_, h6, .nil⟩, ⟨(fun _ z => nomatch z), by simp, by simpa using hd4⟩, fun v7 H7 e7 d7 hv => ?_⟩
    have e07 := e06.trans e7
    dsimp only
    rcases hv with rfl | ⟨t, ht, htd⟩
    · rw [if_neg (by decide)]; exact ⟨⟨_, rfl⟩, e07, d7⟩
    rw [if_pos (by simp [td_nn htd])]
    exact ⟨by omega, fun p8 H8 e8 g8 => q _ t _ H8 (e07.trans e8.any) (DiceAt.ext0 e8 d7) ht hgg ⟨_, _, rfl⟩ (.tup g8 (.cons (htd.ext e8) (.cons ((hgoal.ext e7).ext e8) .nil)))⟩
  · subst hσ
    walk_at "rd"
    refine ⟨by omega, fun p2 H2 e2 g2 => ⟨by omega, fun p3 H3 e3 g3 => ⟨by omega, fun p4 H4 e4 g4 => ⟨by omega, fun p5 H5 e5 g5 => ⟨by omega, fun p6 H6 e6 g6 => ⟨by omega, fun p7 H7 e7 g7 => ⟨by omega, fun p8 H8 e8 g8 => ?_⟩⟩⟩⟩⟩⟩⟩
    have x7 := e7.trans e8
    have x6 := e6.trans x7
    have x5 := e5.trans x6
    have x4 := e4.trans x5
    have x3 := e3.trans x4
    have x2 := e2.trans x3
    have na : ∀ {p : Addr}, tupF K H8 p = some [V.str "name", V.str "a"] → Td K H8 (.ref p) (Fm.name "a").data := fun h => .tup h (.cons (.str _) (.cons (.str _) .nil))
    have hgd0 : Gd d (.fn "x0" (.name "a") (.var "x0")) := ⟨by simp [Tm.dep, Fm.dep]; omega, by have := pow_pos4 d; simp [Tm.sz]; omega, fun x hx => by rw [show x = "x0" by simpa [Tm.nms] using hx]; decide, fun g hg => by rw [show g = .name "a" by simpa [Tm.fms] using hg]; exact ⟨by decide, fun y hy => by rw [show y = "a" by simpa [Fm.names] using hy]; simp [ABC]⟩⟩
    have hna0 : AbcF (.name "a") := fun y hy => by rw [show y = "a" by simpa [Fm.names] using hy]; simp [ABC]
    refine q _ (.fn "x0" (.name "a") (.var "x0")) (.bin .to (.name "a") (.name "a")) H8 (e1.trans x2.any) (DiceAt.ext0 x2 d1) ⟨hgd0, by simp [Tm.ty, Ctx.up], by simp only [Tm.gr]; omega, rfl⟩ ⟨by decide, Tm.abc_bin.mpr ⟨hna0, hna0⟩⟩ ⟨_, _, rfl⟩ ?_
    exact .tup g8 (.cons (.tup (tupF_ext x5 g4) (.cons (.str _) (.cons (.str _) (.cons (na (tupF_ext x3 g2)) (.cons (.tup (tupF_ext x4 g3) (.cons (.str _) (.cons (.str _) .nil))) .nil))))) (.cons (.tup (tupF_ext e8 g7) (.cons (.str _) (.cons (na (tupF_ext x6 g5)) (.cons (na (tupF_ext x7 g6)) .nil)))) .nil))
end
end Sq
set_option Elab.async false
set_option linter.all false
set_option maxRecDepth 100000
set_option maxHeartbeats 2000000
namespace Sq
open PySem PySem.Spec PyProof.Rows L2 RZ
/-! ### defs that may raise -/
abbrev CxDX (P : Program) (w : World) (K : PySem.W.Frag) (mg : Str → Option Value) (base : Heap) (N : List Str) (x : Str) (st : Stmt) (f c : Addr) (A : Around) (outer : List Env) (s : Shared) (H : Hp) (E : XK) : Cx :=
  cxOf (L2.CX P w) P w K mg base N x (defScope st) f (.ref c) A outer s H E
structure CalX (P : Program) (w : World) (K : PySem.W.Frag) (mg : Str → Option Value) (base : Heap) (k : Nat) (x : Str) (sp : Sp) : Prop where
  ex : ∃ (f : Addr) (fd : FuncData) (ps : List Str), FnOk P w K mg base (L2.CX P w) k f fd ps sp ∧ mg x = some (.ref f) ∧ PySem.W.keepIn K (.ref f) = true ∧ Binds K fd ps []
section
variable {P : Program} {w : World} {K : PySem.W.Frag} {mg : Str → Option Value} {base : Heap} {x y : Str} {st : Stmt} {f c : Addr} {fd : FuncData} {N ps : List Str} {k : Nat} {sp : Sp}
theorem Dn.okX (F : Dn K mg x st f fd c) (S : FnScope N ps (defScope st)) (len : ∀ vs H Q E, sp vs H Q E → vs.length = ps.length)
    (hbody : ∀ (A : Around) (outer : List Env) (s : Shared) (H : Hp) (vs : List V) (Q : VK) (E : XK), Room k (A.deeper (envOfC x (defScope st) s.heap.objs.size f (.ref c))) → sp vs H Q E →
      ∃ t, PSs (CxDX P w K mg base N x st f c A outer s H E) (defBody st) t ∧ t { nx := fun _ H' => Q .non H', rt := Q } (start N vs) H) : FnOk P w K mg base (L2.CX P w) (k + 1) f fd ps sp := by
  obtain ⟨oc, od, kV, doc, pm, an, ct, osl, rfl, lk, hcd⟩ := F.ex
  exact fn_of lk hcd S len fun A outer s H vs Q E hr hsp => hbody A outer s H vs Q E hr hsp
theorem Dn.calX (F : Dn K mg x st f fd c) (hb : BindOk x st ps) (S : FnScope N ps (defScope st)) (len : ∀ vs H Q E, sp vs H Q E → vs.length = ps.length)
    (hbody : ∀ (A : Around) (outer : List Env) (s : Shared) (H : Hp) (vs : List V) (Q : VK) (E : XK), Room k (A.deeper (envOfC x (defScope st) s.heap.objs.size f (.ref c))) → sp vs H Q E →
      ∃ t, PSs (CxDX P w K mg base N x st f c A outer s H E) (defBody st) t ∧ t { nx := fun _ H' => Q .non H', rt := Q } (start N vs) H) : CalX P w K mg base (k + 1) x sp :=
  ⟨f, fd, ps, F.okX S len hbody, F.mgf, F.kp, F.binds hb⟩
theorem Dn.calXRec {sp : Nat → Sp} (F : Dn K mg x st f fd c) (hb : BindOk x st ps) (h0 : ∀ vs H Q E, ¬ sp 0 vs H Q E) (hs : ∀ k, CalX P w K mg base k x (sp k) → FnOk P w K mg base (L2.CX P w) (k + 1) f fd ps (sp (k + 1))) :
    ∀ k, CalX P w K mg base k x (sp k)
  | 0 => ⟨f, fd, ps, ⟨fun vs H Q E h => absurd h (h0 vs H Q E), fun A outer s H args us vs Q E _ _ _ _ h => absurd h (h0 vs H Q E)⟩, F.mgf, F.kp, F.binds hb⟩
  | k + 1 => ⟨f, fd, ps, hs k (Dn.calXRec F hb h0 hs k), F.mgf, F.kp, F.binds hb⟩
theorem CalX.mono {j : Nat} (h : CalX P w K mg base j x sp) (hk : j ≤ k) : CalX P w K mg base k x sp := by
  obtain ⟨f, fd, ps, F, r⟩ := h.ex
  exact ⟨f, fd, ps, ⟨F.len, fun A outer s H args us vs Q E hr => F.run A outer s H args us vs Q E (hr.mono hk)⟩, r⟩
/-- where it raises nothing -/
theorem CalX.cal {sp0 : Sp} (C : CalX P w K mg base k x sp) (h : ∀ vs H Q E, sp0 vs H Q E → sp vs H Q C8.E0) : Cal P w K mg base k x sp0 := by
  obtain ⟨f, fd, ps, F, hm, kp, hb⟩ := C.ex
  refine ⟨f, fd, ps, [], ⟨fun vs H Q E z => F.len _ _ _ _ (h vs H Q E z), fun A outer s H args us vs Q E hr e0 bd r z => ?_⟩, hm, kp, hb, .nil⟩
  refine codeAny_mono (F.run A outer s H args us vs Q C8.E0 hr e0 bd r (h vs H Q E z)) fun q s' hq => ?_
  cases q with
  | error e =>
    obtain ⟨_, _, _, _, _, _, _, _, _, _, _, _, z⟩ := hq
    exact z.elim
  | ok fl => cases fl <;> exact hq
theorem pe_cX {X : Cx} {k j : Nat} {x : Str} {sp : Sp} {p pos : Pos} {e : Expr} {es : List Expr} {t : TA} {W : WX} {E : XK} (c : CalX X.prog X.w X.K X.mg X.base k x sp) (hr : Room j X.A) (hk : k ≤ j) (tk : Takes X W) (hW : ∀ cls d σ H, E cls d H → W cls d σ H) (hg : Gl X x) (ha : PA X (e :: es) t)
    (hdb : (x == ("__debug__" : Str)) = false := by decide) (he : starEach (e :: es) X.env = (false, eval e X.env) :: starEach es X.env := by rfl) (hpl : (backTo pos (starEach es X.env)).any (·.1) = false := by rfl) :
    PE X (.Call (.Name x p) (e :: es) [] pos) (tCall sp [] E t) := by
  obtain ⟨f, fd, ps, F, hm, kp, hb⟩ := c.ex
  exact pe_call F (hr.mono hk) hg hm kp hb .nil (passes_call tk hW) ha hdb he hpl
end
/-- an exception class of the program over ValueError -/
structure Xc (K : PySem.W.Frag) (mg : Str → Option Value) (x : Str) (C : Addr) : Prop where
  g : mg x = some (.ref C)
  k : PySem.W.keepIn K (.ref C) = true
  e : PySem.W.excIn K C [.type "ValueError", .type "Exception", .type "BaseException", .type "object"] "ValueError.__new__" = true
  s : PySem.W.subIn K (.ref C) (.type "BaseException") = some true
  t : PySem.W.typeIn K (.ref C) = some (.type "type")
theorem ps_raiseX {X : Cx} {W : WX} {K : PySem.W.Frag} {mg : Str → Option Value} {x m : Str} {C : Addr} {j : Nat} {p p2 pos pos2 : Pos} (B : Xc K mg x C) (tk : Takes X W) (hc : X.calm = true := by rfl) (hg : Gl X x := by rfl) (hdb : (x == ("__debug__" : Str)) = false := by decide) (hK : X.K = K := by rfl) (hm : X.mg = mg := by rfl) :
    PS X (.Raise (some (.Call (.Name x p) [.Constant (.str m) j p2] [] pos)) none pos2) (fun _ σ H => W (.ref C) none σ H) := by
  subst hK hm
  exact ps_raise hc tk (pmk_own PySem.F.excBase_ValueError B.e B.g B.k (raises_own B.s B.t) hg hdb)
end Sq
set_option Elab.async false
set_option linter.all false
set_option maxRecDepth 100000
set_option maxHeartbeats 4000000
namespace Sq
open PySem PySem.Spec PyProof.Rows L2 RZ
local macro_rules | `(tactic| walk_at "rd") => `(tactic| simp only [tCont, tNever, iEnumL, iRng1, rPop0, rTIndex, rKdIx, rKdNin, tDG2, rU, tTIdx, iZipS, rDictC, rDictP, tDisp, tPairs, rIndexS, wipe, tNoPart, tDG2, tDGF, tDInF, tDNInF, sDPutF, tDNewF, rSortD, rInS, rInT, rEqLF, tDcF, tDc2F, tLcF, tForF, tAllF, tAnyF, tSumF, iStr, iEnumF, iZipF, iKeysF, iItems, tLZip, tYes, tSeq, tIfS, tNext, tRet, tRetN, tDrop, tTest, tB, tNot, tAnd, tOr, tChain, tOp, tUn, tCB, tCons, tNil, tC, tVar, tIf, tAndV, tOrV, tNotV, tAsg, tPar, tPar3, gName, gSub, gTupF, gCons, gNil, tTupF, tLstF, rI0, rI, rIxF, rIxG, rIxS, rSetF, rSlF, rCatF, rCatL, rTupL, rListT, rListL, rLenT, rLenL, iTupF, iLstF, rAppF, rExtF, rPopF, tBM, tBM0, tSl, tPart, rEq, rNe, tCall, L2.start,
  List.map_cons, List.map_nil, List.length_cons, List.length_nil, Nat.sub_self, List.replicate, List.append_nil, List.cons_append, List.nil_append, List.getElem?_cons_zero, List.getElem?_cons_succ, List.set_cons_zero, List.set_cons_succ,
  exSl, exI, exI2, exB, exS, exR, ex1, ex1', V.int.injEq, V.bl.injEq, V.ref.injEq, V.str.injEq, Option.some.injEq, List.cons.injEq, and_true, true_and, reduceCtorEq, false_and, and_false, or_false, false_or, exists_false, exists_and_left, exists_eq_left', decide_eq_true_eq, decide_true, decide_false, if_false, if_true, ite_true, ite_false, Bool.false_eq_true, Bool.not_true, Bool.not_false, Nat.reduceAdd, Nat.reduceSub, Nat.zero_add, atI_0, atI_1, atI_2, atI_3, ixN_0, ixN_1, ixN_2, cutV_1, cutV_2, Option.some.injEq, HO.lst.injEq, HO.dK.injEq, scal])
local macro_rules | `(tactic| walk_at "rdc") => `(tactic| simp (config := { contextual := true }) only [tCont, tNever, iEnumL, iRng1, rPop0, rTIndex, rKdIx, rKdNin, tDG2, rU, tTIdx, iZipS, rDictC, rDictP, tDisp, tPairs, rIndexS, wipe, tNoPart, tDG2, tDGF, tDInF, tDNInF, sDPutF, tDNewF, rSortD, rInS, rInT, rEqLF, tDcF, tDc2F, tLcF, tForF, tAllF, tAnyF, tSumF, iStr, iEnumF, iZipF, iKeysF, iItems, tLZip, tYes, tSeq, tIfS, tNext, tRet, tRetN, tDrop, tTest, tB, tNot, tAnd, tOr, tChain, tOp, tUn, tCB, tCons, tNil, tC, tVar, tIf, tAndV, tOrV, tNotV, tAsg, tPar, tPar3, gName, gSub, gTupF, gCons, gNil, tTupF, tLstF, rI0, rI, rIxF, rIxG, rIxS, rSetF, rSlF, rCatF, rCatL, rTupL, rListT, rListL, rLenT, rLenL, iTupF, iLstF, rAppF, rExtF, rPopF, tBM, tBM0, tSl, tPart, rEq, rNe, tCall, L2.start,
  List.map_cons, List.map_nil, List.length_cons, List.length_nil, Nat.sub_self, List.replicate, List.append_nil, List.cons_append, List.nil_append, List.getElem?_cons_zero, List.getElem?_cons_succ, List.set_cons_zero, List.set_cons_succ,
  exSl, exI, exI2, exB, exS, exR, ex1, ex1', V.int.injEq, V.bl.injEq, V.ref.injEq, V.str.injEq, Option.some.injEq, List.cons.injEq, and_true, true_and, reduceCtorEq, false_and, and_false, or_false, false_or, exists_false, exists_and_left, exists_eq_left', decide_eq_true_eq, decide_true, decide_false, if_false, if_true, ite_true, ite_false, Bool.false_eq_true, Bool.not_true, Bool.not_false, Nat.reduceAdd, Nat.reduceSub, Nat.zero_add, atI_0, atI_1, atI_2, atI_3, ixN_0, ixN_1, ixN_2, cutV_1, cutV_2, Option.some.injEq, HO.lst.injEq, HO.dK.injEq, scal, *])
structure Go (K : PySem.W.Frag) (w : World) (mg : Str → Option Value) (aJ aO aN aS : Addr) (uN : Value) : Prop where
  jc : mg "JOINS" = some (.ref aJ)
  jt : WrT K aJ (joinsT.map V.str)
  nc : mg "NAMES" = some uN
  nr : RelV (.str namesT) uN
  oc : mg "ONE" = some (.ref aO)
  ot : WrT K aO [.str "one"]
  zc : mg "NONE" = some (.ref aN)
  zt : WrT K aN [.str "none"]
section
variable {P : Program} {w : World} {K : PySem.W.Frag} {mg : Str → Option Value} {base : Heap} {f c f2 c2 aJ aO aN aS aT : Addr} {uN : Value} {fd fd2 : FuncData} {NS : List Str}
abbrev s_with_name : Stmt := top 20
abbrev n_with_name : List Str := ["context", "name", "what", "found"]
theorem sc_with_name : FnScope n_with_name ["context", "name", "what"] (defScope s_with_name) := ⟨rfl, rfl, rfl, by decide +kernel, rfl, by decide +kernel, by decide +kernel⟩
theorem ok_wname (F : Dn K mg "with_name" s_with_name f fd c) (B : Bl mg) : Cal P w K mg base 1 "with_name" (spWith K) := by
  refine F.cal (ps := ["context", "name", "what"]) (fun _ _ _ _ _ _ us hl => match us, hl with | [_, _, _], _ => rfl) sc_with_name (fun vs H Q E h => ?_) (fun A outer s H vs Q E hr h => ?_)
  · obtain ⟨_, _, _, _, _, rfl, _⟩ := h; rfl
  obtain ⟨a, n, v, l, t, rfl, ⟨kvs, hk, hr'⟩, ht, hl, q⟩ := h
  refine ⟨_, (pss_cons (ps_set (i := 3) sc_with_name.nd rfl (by first | exact Or.inl rfl | exact Or.inr rfl) (pe_callTy call_dictC (by rfl) B.b_dict (by decide +kernel) (pa_cons (pv 0) pa_nil)))
    (pss_cons (ps_dputF (hu_of hr) (pv 3) (pv 1) (pv 2) rfl)
    (pss_one (ps_ret (pv 3))))), ?_⟩
  walk_at "rd"
  have hz : (100000 : Nat) ≤ sizeLine := by decide
  have hkl := hr'.length
  refine ⟨kvs, hk, fun p H1 n1 e1 h1 => ⟨kvs, h1, by omega, fun H2 e2 h2 => q p H2 n1 (e1.over n1 e2) ⟨_, h2, ((hr'.ext e1).ext e2).put ((ht.ext e1).ext e2)⟩⟩⟩
/-- what type_of is asked: t where the names' formulas are those of l -/
structure TyA (K : PySem.W.Frag) (H : Hp) (v : V) (b : Addr) (t : Tm) (l : Tab) (N : Nat) : Prop where
  tt : Td K H v t.data
  ll : TabD K H b l
  bb : Tm.TyB N t (lk l)
  n1 : 1 ≤ N
  nn : N + t.gr ≤ 60
  few : l.length + t.dep ≤ 100
theorem no {a b : Str} {A B : Prop} (h : a ≠ b) (k : B) : if V.str a = V.str b then A else B := by rw [if_neg (fun z => h (V.str.inj z))]; exact k
theorem ys {a : Str} {A B : Prop} (k : A) : if V.str a = V.str a then A else B := by rw [if_pos rfl]; exact k
theorem TyA.sub {H H' : Hp} {v w : V} {b : Addr} {t u : Tm} {l : Tab} {N : Nat} (h : TyA K H v b t l N) (e : Ext [] H H') (hw : Td K H' w u.data) (hf : ∀ g ∈ u.fms, g ∈ t.fms) (hg : u.gr ≤ t.gr) (hd : u.dep ≤ t.dep) : TyA K H' w b u l N :=
  ⟨hw, h.ll.ext0 e, h.bb.sub hf, h.n1, by have := h.nn; omega, by have := h.few; omega⟩
theorem TyA.put {H H' : Hp} {v w : V} {b b' : Addr} {t u : Tm} {l : Tab} {N M : Nat} {x : Str} {f : Fm} (h : TyA K H v b t l N) (hl : TabD K H' b' (putL l x f)) (hw : Td K H' w u.data) (hff : f.dep ≤ M ∧ AbcF f) (hM : N ≤ M) (hf : ∀ g ∈ u.fms, g ∈ t.fms) (hg : M + u.gr ≤ N + t.gr) (hd : u.dep < t.dep) : TyA K H' w b' u (putL l x f) M :=
  ⟨hw, hl, by rw [lk_put]; exact (h.bb.mono hM).up hff hf, by have := h.n1; omega, by have := h.nn; omega, by have := h.few; have := putL_len l x f; omega⟩
theorem fsh {f : Fm} (h : f.dep ≤ 60 ∧ AbcF f) : SeqAt.shaped f.data = true := Fm.shaped (NS := ABC) ⟨by decide +kernel, by decide +kernel⟩ h.2 (by omega)
theorem fm_hd {H : Hp} {v : V} {g : Fm} (h : Td K H v g.data) : ∃ p ws, v = .ref p ∧ tupF K H p = some (V.str g.hd :: ws) := fd_hd h
def spTy (K : PySem.W.Frag) (aT : Addr) (k : Nat) : Sp := fun vs H Q E => ∃ (v : V) (b : Addr) (t : Tm) (l : Tab) (N : Nat), vs = [v, .ref b] ∧ TyA K H v b t l N ∧ 2 * t.dep ≤ k ∧
  (∀ g, t.ty (lk l) = some g → ∀ v' H', Ext [] H H' → Td K H' v' g.data → Q v' H') ∧ (t.ty (lk l) = none → ∀ H', Ext [] H H' → E (.ref aT) none H')
def spTc (K : PySem.W.Frag) (aT : Addr) (k : Nat) : Sp := fun vs H Q E => ∃ (v : V) (b : Addr) (t : Tm) (l : Tab) (N : Nat), vs = [v, .ref b] ∧ TyA K H v b t l N ∧ t.kind = "case" ∧ 2 * t.dep ≤ k + 1 ∧
  (∀ g, t.ty (lk l) = some g → ∀ v' H', Ext [] H H' → Td K H' v' g.data → Q v' H') ∧ (t.ty (lk l) = none → ∀ H', Ext [] H H' → E (.ref aT) none H')
abbrev s_type_of : Stmt := top 18
abbrev n_type_of : List Str := ["term", "context", "kind", "one"]
theorem sc_type_of : FnScope n_type_of ["term", "context"] (defScope s_type_of) := ⟨rfl, rfl, rfl, by decide +kernel, rfl, by decide +kernel, by decide +kernel⟩
theorem step_ty (F : Dn K mg "type_of" s_type_of f fd c) (B : Bl mg) (GT : Go K w mg aJ aO aN aS uN) (X_BadType : Xc K mg "BadType" aT) (k : Nat) (hk : 1 ≤ k) (G_type_of : CalX P w K mg base k "type_of" (spTy K aT k)) (G_type_of_case : CalX P w K mg base k "type_of_case" (spTc K aT k)) (G_with_name0 : Cal P w K mg base 1 "with_name" (spWith K)) :
    CalX P w K mg base (k + 1) "type_of" (spTy K aT (k + 1)) := by
  have G_with_name := G_with_name0.mono (k := k) (by omega)
  refine F.calX (ps := ["term", "context"]) (fun _ _ _ _ _ _ us hl => match us, hl with | [_, _], _ => rfl) sc_type_of (fun vs H Q E h => ?_) (fun A outer s H vs Q E hr h => ?_)
  · obtain ⟨_, _, _, _, _, rfl, _⟩ := h; rfl
  obtain ⟨v, b, t, l, N, rfl, ha, hd, q, qe⟩ := h
  refine ⟨_, (pss_cons (ps_set (i := 2) sc_type_of.nd rfl (by first | exact Or.inl rfl | exact Or.inr rfl) (pe_ix (ix_tupK K) (pv 0) pe_int (fun _ _ => rfl)))
    (pss_cons (ps_if (pt_cmpR op_eq (pv 2) pe_str (nomark _)) (pss_cons (ps_if (pt_cmp (pc_dnotinF (hu_of hr) (pe_ix (ix_tupK K) (pv 0) pe_int (fun _ _ => rfl)) (pv 1))) (pss_one (ps_raiseX X_BadType (takes_of rfl rfl rfl rfl))) pss_nil)
    (pss_one (ps_ret (pe_dgetF (hu_of hr) (pv 1) (pe_ix (ix_tupK K) (pv 0) pe_int (fun _ _ => rfl)) (fun _ _ => rfl))))) pss_nil)
    (pss_cons (ps_if (pt_cmpR op_eq (pv 2) pe_str (nomark _)) (pss_one (ps_ret (pe_glob (v := .ref aO) (by rfl) GT.oc rfl))) pss_nil)
    (pss_cons (ps_if (pt_cmpR op_eq (pv 2) pe_str (nomark _)) (pss_one (ps_ret (pe_tupK K (pa_cons pe_str (pa_cons (pe_ix (ix_tupK K) (pv 0) pe_int (fun _ _ => rfl)) (pa_cons (pe_cX G_type_of hr (by omega) (takes_of rfl rfl rfl rfl) (fun _ _ _ _ h => h) (by rfl) (pa_cons (pe_ix (ix_tupK K) (pv 0) pe_int (fun _ _ => rfl)) (pa_cons (C8.pe_c G_with_name hr (by omega) (by rfl) (pa_cons (pv 1) (pa_cons (pe_ix (ix_tupK K) (pv 0) pe_int (fun _ _ => rfl)) (pa_cons (pe_ix (ix_tupK K) (pv 0) pe_int (fun _ _ => rfl)) pa_nil)))) pa_nil))) pa_nil)))))) pss_nil)
    (pss_cons (ps_if (pt_cmpR op_eq (pv 2) pe_str (nomark _)) (pss_one (ps_ret (pe_cX G_type_of_case hr (by omega) (takes_of rfl rfl rfl rfl) (fun _ _ _ _ h => h) (by rfl) (pa_cons (pv 0) (pa_cons (pv 1) pa_nil))))) pss_nil)
    (pss_cons (ps_if (pt_cmpR op_eq (pv 2) pe_str (nomark _)) (pss_one (ps_ret (pe_tupK K (pa_cons pe_str (pa_cons (pe_ix (ix_tupK K) (pv 0) pe_int (fun _ _ => rfl)) (pa_cons (pe_cX G_type_of hr (by omega) (takes_of rfl rfl rfl rfl) (fun _ _ _ _ h => h) (by rfl) (pa_cons (pe_ix (ix_tupK K) (pv 0) pe_int (fun _ _ => rfl)) (pa_cons (pv 1) pa_nil))) pa_nil)))))) pss_nil)
    (pss_cons (ps_set (i := 3) sc_type_of.nd rfl (by first | exact Or.inl rfl | exact Or.inr rfl) (pe_cX G_type_of hr (by omega) (takes_of rfl rfl rfl rfl) (fun _ _ _ _ h => h) (by rfl) (pa_cons (pe_ix (ix_tupK K) (pv 0) pe_int (fun _ _ => rfl)) (pa_cons (pv 1) pa_nil))))
    (pss_cons (ps_if (pt_cmpR op_eq (pv 2) pe_str (nomark _)) (pss_cons (ps_if (PW.pt (pw_or (pt_cmpR op_ne (pe_ix (ix_tupK K) (pv 3) pe_int (fun _ _ => rfl)) pe_str (nomark _)) (pw_or1 (pt_cmpR (op_neK K hr.units) (pe_cX G_type_of hr (by omega) (takes_of rfl rfl rfl rfl) (fun _ _ _ _ h => h) (by rfl) (pa_cons (pe_ix (ix_tupK K) (pv 0) pe_int (fun _ _ => rfl)) (pa_cons (pv 1) pa_nil))) (pe_ix (ix_tupK K) (pv 3) pe_int (fun _ _ => rfl)) (nomark _))))) (pss_one (ps_raiseX X_BadType (takes_of rfl rfl rfl rfl))) pss_nil)
    (pss_one (ps_ret (pe_ix (ix_tupK K) (pv 3) pe_int (fun _ _ => rfl))))) pss_nil)
    (pss_cons (ps_if (pt_cmpR op_eq (pv 2) pe_str (nomark _)) (pss_one (ps_ret (pe_tupK K (pa_cons pe_str (pa_cons (pv 3) (pa_cons (pe_cX G_type_of hr (by omega) (takes_of rfl rfl rfl rfl) (fun _ _ _ _ h => h) (by rfl) (pa_cons (pe_ix (ix_tupK K) (pv 0) pe_int (fun _ _ => rfl)) (pa_cons (pv 1) pa_nil))) pa_nil)))))) pss_nil)
    (pss_cons (ps_if (pt_cmpR (op_inSK K) (pv 2) (pe_tupK K (pa_cons pe_str (pa_cons pe_str pa_nil))) (by rfl)) (pss_cons (ps_if (pt_cmpR op_ne (pe_ix (ix_tupK K) (pv 3) pe_int (fun _ _ => rfl)) pe_str (nomark _)) (pss_one (ps_raiseX X_BadType (takes_of rfl rfl rfl rfl))) pss_nil)
    (pss_one (ps_ret (pe_ifExp (pt_cmpR op_eq (pv 2) pe_str (nomark _)) (pe_ix (ix_tupK K) (pv 3) pe_int (fun _ _ => rfl)) (pe_ix (ix_tupK K) (pv 3) pe_int (fun _ _ => rfl)))))) pss_nil)
    (pss_cons (ps_if (pt_cmpR op_eq (pv 2) pe_str (nomark _)) (pss_one (ps_ret (pe_tupK K (pa_cons pe_str (pa_cons (pv 3) (pa_cons (pe_ix (ix_tupK K) (pv 0) pe_int (fun _ _ => rfl)) pa_nil)))))) pss_nil)
    (pss_cons (ps_if (pt_cmpR (op_neK K hr.units) (pv 3) (pe_glob (v := .ref aN) (by rfl) GT.zc rfl) (nomark _)) (pss_one (ps_raiseX X_BadType (takes_of rfl rfl rfl rfl))) pss_nil)
    (pss_one (ps_ret (pe_ix (ix_tupK K) (pv 0) pe_int (fun _ _ => rfl)))))))))))))))), ?_⟩
  walk_at "rd"
  have h2 : (1000 : Nat) ≤ sizeLine := by decide
  obtain ⟨p, ws, rfl, hp, hw⟩ := tm_hd ha.tt
  refine ⟨p, rfl, _, hp, _, atI_0, rfl, ?_⟩
  cases t with
  | var x =>
    cases hw with
    | cons a1 hw =>
      cases hw
      cases a1
      obtain ⟨kvs, hk, hr'⟩ := ha.ll
      refine ys ⟨p, rfl, _, hp, _, atI_1, x, rfl, kvs, dctF_dK hk, ?_⟩
      rcases hr'.val x with ⟨k1, k2⟩ | ⟨g, v', k1, k2, k3⟩
      · rw [if_pos (by rw [k2]; rfl)]
        exact qe k1 H (Ext.refl _ _)
      · rw [if_neg (by rw [k2]; simp)]
        exact ⟨p, rfl, _, hp, _, atI_1, x, rfl, kvs, dctF_dK hk, v', k2, q g k1 v' H (Ext.refl _ _) k3⟩
  | unit =>
    refine no (a := "unit") (by decide +kernel) ⟨rfl, ys ?_⟩
    exact q .one rfl _ H (Ext.refl _ _) (.tup (tupF_wr GT.ot) (.cons (.str _) .nil))
  | fn x f t =>
    refine no (a := "fun") (by decide +kernel) ⟨rfl, no (a := "fun") (by decide +kernel) ⟨rfl, ys ?_⟩⟩
    cases hw with
    | cons a1 hw => cases hw with
      | cons a2 hw => cases hw with
        | cons a3 hw =>
          cases hw
          cases a1
          have hf := ha.bb.f f (by simp [Tm.fms])
          have hdt : t.dep < (Tm.fn x f t).dep := by simp only [Tm.dep]; omega
          have hfew := ha.few
          refine ⟨p, rfl, _, hp, _, atI_2, p, rfl, _, hp, _, atI_3, p, rfl, _, hp, _, atI_1, p, rfl, _, hp, _, atI_2, b, x, _, l, f, rfl, ha.ll.a, a2, by omega, fun bp H1 n1 e1 hb1 => ?_⟩
          refine ⟨_, bp, t, putL l x f, N, rfl, ha.put hb1 (a3.ext e1) hf (Nat.le_refl _) (fun g hg => by simp [Tm.fms, hg]) (by simp only [Tm.gr]; omega) hdt, by omega, fun g hg v' H2 e2 d2 => ⟨by omega, fun p3 H3 e3 g3 => ?_⟩, fun hn H2 e2 => qe ?_ _ (e1.trans e2)⟩
          · rw [lk_put] at hg
            refine q (.bin .to f g) (by simp only [Tm.ty, hg]; rfl) _ H3 ((e1.trans e2).trans e3) (.tup g3 (.cons (.str _) (.cons (a2.ext ((e1.trans e2).trans e3)) (.cons (d2.ext e3) .nil))))
          · rw [lk_put] at hn
            simp only [Tm.ty, hn]; rfl
  | cs t x u y z =>
    refine no (a := "case") (by decide +kernel) ⟨rfl, no (a := "case") (by decide +kernel) ⟨rfl, no (a := "case") (by decide +kernel) ⟨rfl, ys ?_⟩⟩⟩
    exact ⟨_, b, _, l, N, rfl, ha, rfl, by omega, q, qe⟩
  | rgt f t =>
    refine no (a := "right") (by decide +kernel) ⟨rfl, no (a := "right") (by decide +kernel) ⟨rfl, no (a := "right") (by decide +kernel) ⟨rfl, no (a := "right") (by decide +kernel) ⟨rfl, ys ?_⟩⟩⟩⟩
    cases hw with
    | cons a1 hw => cases hw with
      | cons a2 hw =>
        cases hw
        have hdt : t.dep < (Tm.rgt f t).dep := by simp only [Tm.dep]; omega
        refine ⟨p, rfl, _, hp, _, atI_1, p, rfl, _, hp, _, atI_2, _, b, t, l, N, rfl, ha.sub (Ext.refl _ _) a2 (fun g hg => by simp [Tm.fms, hg]) (by simp only [Tm.gr]; omega) (by omega), by omega, fun g hg v' H2 e2 d2 => ⟨by omega, fun p3 H3 e3 g3 => ?_⟩, fun hn H2 e2 => qe (by simp only [Tm.ty, hn]; rfl) _ e2⟩
        exact q (.bin .either f g) (by simp only [Tm.ty, hg]; rfl) _ H3 (e2.trans e3) (.tup g3 (.cons (.str _) (.cons (a1.ext (e2.trans e3)) (.cons (d2.ext e3) .nil))))
  | app t u =>
    refine no (a := "app") (by decide +kernel) ⟨rfl, no (a := "app") (by decide +kernel) ⟨rfl, no (a := "app") (by decide +kernel) ⟨rfl, no (a := "app") (by decide +kernel) ⟨rfl, no (a := "app") (by decide +kernel) ?_⟩⟩⟩⟩
    cases hw with
    | cons a1 hw => cases hw with
      | cons a2 hw =>
        cases hw
        have hdt : t.dep < (Tm.app t u).dep := by simp only [Tm.dep]; omega
        have hdu : u.dep < (Tm.app t u).dep := by simp only [Tm.dep]; omega
        have hA := ha.sub (Ext.refl _ _) a1 (u := t) (fun g hg => by simp [Tm.fms, hg]) (by simp only [Tm.gr]; omega) (by omega)
        refine ⟨p, rfl, _, hp, _, atI_1, _, b, t, l, N, rfl, hA, by omega, fun g hg v' H2 e2 d2 => ?_, fun hn H2 e2 => qe (by simp only [Tm.ty, hn]) _ e2⟩
        have hgd := Tm.ty_dep t hg hA.bb hA.n1
        have hgn := hA.nn
        obtain ⟨gp, gws, rfl, hgp⟩ := fm_hd d2
        refine ⟨rfl, ys ⟨gp, rfl, _, hgp, _, atI_0, rfl, ?_⟩⟩
        by_cases hto : g.hd = "to"
        · obtain ⟨s1, s2, rfl⟩ := hd_is (j := .to) (congrArg V.str hto)
          rw [if_neg (by rw [hto]; decide)]
          obtain ⟨gp', u1, u2, e, hp', hu1, hu2⟩ := fd_b d2
          cases e
          have hA2 := ha.sub e2 (a2.ext e2) (u := u) (fun g hg => by simp [Tm.fms, hg]) (by simp only [Tm.gr]; omega) (by omega)
          refine ⟨p, rfl, _, tupF_ext e2 hp, _, atI_2, _, b, u, l, N, rfl, hA2, by omega, fun g2 hg2 v3 H3 e3 d3 => ?_, fun hn H3 e3 => qe (by simp only [Tm.ty, hg, hn]; rfl) _ (e2.trans e3)⟩
          have hgd2 := Tm.ty_dep u hg2 hA2.bb hA2.n1
          have hgn2 := hA2.nn
          have habc := Tm.abc_bin.mp hgd.2
          have hdd := hgd.1
          simp only [Fm.dep] at hdd
          refine ⟨gp, rfl, _, tupF_ext e3 hp', _, atI_1, _, _, d3, hu1.ext e3, fsh ⟨by omega, hgd2.2⟩, fsh ⟨by omega, habc.1⟩, ?_⟩
          rw [if_pos rfl, Fm.eqv_data]
          refine ⟨_, rfl, ?_⟩
          by_cases hs : g2 = s1
          · subst hs
            rw [if_neg (by simp)]
            exact ⟨gp, rfl, _, tupF_ext e3 hp', _, atI_2, q s2 (by simp only [Tm.ty, hg, hg2, if_true]) _ H3 (e2.trans e3) (hu2.ext e3)⟩
          · rw [if_pos (by simp [hs])]
            exact qe (by simp only [Tm.ty, hg, hg2]; rw [if_neg (fun z => hs (Option.some.inj z))]) _ (e2.trans e3)
        · rw [if_pos (by simp [hto])]
          refine qe ?_ _ e2
          simp only [Tm.ty, hg]
          split
          · rename_i e; cases e; exact absurd rfl hto
          · rfl
  | pair t u =>
    refine no (a := "pair") (by decide +kernel) ⟨rfl, no (a := "pair") (by decide +kernel) ⟨rfl, no (a := "pair") (by decide +kernel) ⟨rfl, no (a := "pair") (by decide +kernel) ⟨rfl, no (a := "pair") (by decide +kernel) ?_⟩⟩⟩⟩
    cases hw with
    | cons a1 hw => cases hw with
      | cons a2 hw =>
        cases hw
        have hdt : t.dep < (Tm.pair t u).dep := by simp only [Tm.dep]; omega
        have hdu : u.dep < (Tm.pair t u).dep := by simp only [Tm.dep]; omega
        have hA := ha.sub (Ext.refl _ _) a1 (u := t) (fun g hg => by simp [Tm.fms, hg]) (by simp only [Tm.gr]; omega) (by omega)
        refine ⟨p, rfl, _, hp, _, atI_1, _, b, t, l, N, rfl, hA, by omega, fun g hg v' H2 e2 d2 => ?_, fun hn H2 e2 => qe (by simp only [Tm.ty, hn]) _ e2⟩
        have hA2 := ha.sub e2 (a2.ext e2) (u := u) (fun g hg => by simp [Tm.fms, hg]) (by simp only [Tm.gr]; omega) (by omega)
        refine ⟨rfl, no (a := "pair") (by decide +kernel) ⟨rfl, ys ?_⟩⟩
        refine ⟨p, rfl, _, tupF_ext e2 hp, _, atI_2, _, b, u, l, N, rfl, hA2, by omega, fun g2 hg2 v3 H3 e3 d3 => ⟨by omega, fun p4 H4 e4 g4 => ?_⟩, fun hn H3 e3 => qe (by simp only [Tm.ty, hg, hn]; rfl) _ (e2.trans e3)⟩
        exact q (.bin .both g g2) (by simp only [Tm.ty, hg, hg2, Option.map_some]) _ H4 ((e2.trans e3).trans e4) (.tup g4 (.cons (.str _) (.cons (d2.ext (e3.trans e4)) (.cons (d3.ext e4) .nil))))
  | fst t =>
    refine no (a := "first") (by decide +kernel) ⟨rfl, no (a := "first") (by decide +kernel) ⟨rfl, no (a := "first") (by decide +kernel) ⟨rfl, no (a := "first") (by decide +kernel) ⟨rfl, no (a := "first") (by decide +kernel) ?_⟩⟩⟩⟩
    cases hw with
    | cons a1 hw =>
      cases hw
      have hdt : t.dep < (Tm.fst t).dep := by simp only [Tm.dep]; omega
      have hA := ha.sub (Ext.refl _ _) a1 (u := t) (fun g hg => by simp [Tm.fms, hg]) (by simp only [Tm.gr]; omega) (by omega)
      refine ⟨p, rfl, _, hp, _, atI_1, _, b, t, l, N, rfl, hA, by omega, fun g hg v' H2 e2 d2 => ?_, fun hn H2 e2 => qe (by simp only [Tm.ty, hn]) _ e2⟩
      refine ⟨rfl, no (a := "first") (by decide +kernel) ⟨rfl, no (a := "first") (by decide +kernel) ?_⟩⟩
      have hgd := Tm.ty_dep t hg hA.bb hA.n1
      refine ⟨by omega, fun p3 H3 e3 g3 => ⟨_, rfl, ["first", "second"], g3, ?_⟩⟩
      rw [if_pos (by show (Str.ofString "first") ∈ (["first", "second"] : List Str); decide +kernel)]
      obtain ⟨gp, gws, rfl, hgp⟩ := fm_hd d2
      refine ⟨gp, rfl, _, tupF_ext e3 hgp, _, atI_0, rfl, ?_⟩
      by_cases hto : g.hd = "both"
      · obtain ⟨s1, s2, rfl⟩ := hd_is (j := .both) (congrArg V.str hto)
        rw [if_neg (by rw [hto]; decide)]
        obtain ⟨gp', u1, u2, e, hp', hu1, hu2⟩ := fd_b d2
        cases e
        refine ⟨rfl, ?_⟩
        exact ys ⟨gp, rfl, _, tupF_ext e3 hp', _, atI_1, q s1 (by simp only [Tm.ty, hg]) _ H3 (e2.trans e3) (hu1.ext e3)⟩
      · rw [if_pos (by simp [hto])]
        refine qe ?_ _ (e2.trans e3)
        simp only [Tm.ty, hg]
        split
        · rename_i e; cases e; exact absurd rfl hto
        · rfl
  | snd t =>
    refine no (a := "second") (by decide +kernel) ⟨rfl, no (a := "second") (by decide +kernel) ⟨rfl, no (a := "second") (by decide +kernel) ⟨rfl, no (a := "second") (by decide +kernel) ⟨rfl, no (a := "second") (by decide +kernel) ?_⟩⟩⟩⟩
    cases hw with
    | cons a1 hw =>
      cases hw
      have hdt : t.dep < (Tm.snd t).dep := by simp only [Tm.dep]; omega
      have hA := ha.sub (Ext.refl _ _) a1 (u := t) (fun g hg => by simp [Tm.fms, hg]) (by simp only [Tm.gr]; omega) (by omega)
      refine ⟨p, rfl, _, hp, _, atI_1, _, b, t, l, N, rfl, hA, by omega, fun g hg v' H2 e2 d2 => ?_, fun hn H2 e2 => qe (by simp only [Tm.ty, hn]) _ e2⟩
      refine ⟨rfl, no (a := "second") (by decide +kernel) ⟨rfl, no (a := "second") (by decide +kernel) ?_⟩⟩
      have hgd := Tm.ty_dep t hg hA.bb hA.n1
      refine ⟨by omega, fun p3 H3 e3 g3 => ⟨_, rfl, ["first", "second"], g3, ?_⟩⟩
      rw [if_pos (by show (Str.ofString "second") ∈ (["first", "second"] : List Str); decide +kernel)]
      obtain ⟨gp, gws, rfl, hgp⟩ := fm_hd d2
      refine ⟨gp, rfl, _, tupF_ext e3 hgp, _, atI_0, rfl, ?_⟩
      by_cases hto : g.hd = "both"
      · obtain ⟨s1, s2, rfl⟩ := hd_is (j := .both) (congrArg V.str hto)
        rw [if_neg (by rw [hto]; decide)]
        obtain ⟨gp', u1, u2, e, hp', hu1, hu2⟩ := fd_b d2
        cases e
        refine ⟨rfl, ?_⟩
        exact no (a := "second") (by decide +kernel) ⟨gp, rfl, _, tupF_ext e3 hp', _, atI_2, q s2 (by simp only [Tm.ty, hg]) _ H3 (e2.trans e3) (hu2.ext e3)⟩
      · rw [if_pos (by simp [hto])]
        refine qe ?_ _ (e2.trans e3)
        simp only [Tm.ty, hg]
        split
        · rename_i e; cases e; exact absurd rfl hto
        · rfl
  | lft t f =>
    refine no (a := "left") (by decide +kernel) ⟨rfl, no (a := "left") (by decide +kernel) ⟨rfl, no (a := "left") (by decide +kernel) ⟨rfl, no (a := "left") (by decide +kernel) ⟨rfl, no (a := "left") (by decide +kernel) ?_⟩⟩⟩⟩
    cases hw with
    | cons a1 hw => cases hw with
      | cons a2 hw =>
        cases hw
        have hdt : t.dep < (Tm.lft t f).dep := by simp only [Tm.dep]; omega
        have hA := ha.sub (Ext.refl _ _) a1 (u := t) (fun g hg => by simp [Tm.fms, hg]) (by simp only [Tm.gr]; omega) (by omega)
        refine ⟨p, rfl, _, hp, _, atI_1, _, b, t, l, N, rfl, hA, by omega, fun g hg v' H2 e2 d2 => ?_, fun hn H2 e2 => qe (by simp only [Tm.ty, hn]; rfl) _ e2⟩
        refine ⟨rfl, no (a := "left") (by decide +kernel) ⟨rfl, no (a := "left") (by decide +kernel) ⟨by omega, fun p3 H3 e3 g3 => ⟨_, rfl, ["first", "second"], g3, ?_⟩⟩⟩⟩
        rw [if_neg (by show ¬ (Str.ofString "left") ∈ (["first", "second"] : List Str); decide +kernel)]
        refine ⟨rfl, ys ⟨p, rfl, _, tupF_ext (e2.trans e3) hp, _, atI_2, by omega, fun p4 H4 e4 g4 => ?_⟩⟩
        exact q (.bin .either g f) (by simp only [Tm.ty, hg]; rfl) _ H4 ((e2.trans e3).trans e4) (.tup g4 (.cons (.str _) (.cons (d2.ext (e3.trans e4)) (.cons (a2.ext ((e2.trans e3).trans e4)) .nil))))
  | absd t f =>
    refine no (a := "absurd") (by decide +kernel) ⟨rfl, no (a := "absurd") (by decide +kernel) ⟨rfl, no (a := "absurd") (by decide +kernel) ⟨rfl, no (a := "absurd") (by decide +kernel) ⟨rfl, no (a := "absurd") (by decide +kernel) ?_⟩⟩⟩⟩
    cases hw with
    | cons a1 hw => cases hw with
      | cons a2 hw =>
        cases hw
        have hdt : t.dep < (Tm.absd t f).dep := by simp only [Tm.dep]; omega
        have hA := ha.sub (Ext.refl _ _) a1 (u := t) (fun g hg => by simp [Tm.fms, hg]) (by simp only [Tm.gr]; omega) (by omega)
        refine ⟨p, rfl, _, hp, _, atI_1, _, b, t, l, N, rfl, hA, by omega, fun g hg v' H2 e2 d2 => ?_, fun hn H2 e2 => qe (by simp only [Tm.ty, hn]; rfl) _ e2⟩
        have hgd := Tm.ty_dep t hg hA.bb hA.n1
        have hgn := hA.nn
        refine ⟨rfl, no (a := "absurd") (by decide +kernel) ⟨rfl, no (a := "absurd") (by decide +kernel) ⟨by omega, fun p3 H3 e3 g3 => ⟨_, rfl, ["first", "second"], g3, ?_⟩⟩⟩⟩
        rw [if_neg (by show ¬ (Str.ofString "absurd") ∈ (["first", "second"] : List Str); decide +kernel)]
        refine ⟨rfl, no (a := "absurd") (by decide +kernel) ?_⟩
        have hz : Td K H3 (.ref aN) Fm.none.data := .tup (tupF_wr GT.zt) (.cons (.str _) .nil)
        refine ⟨_, _, d2.ext e3, hz, fsh ⟨by omega, hgd.2⟩, by decide +kernel, ?_⟩
        rw [if_pos rfl, Fm.eqv_data]
        refine ⟨_, rfl, ?_⟩
        by_cases hs : g = .none
        · subst hs
          rw [if_neg (by simp)]
          exact ⟨p, rfl, _, tupF_ext (e2.trans e3) hp, _, atI_2, q f (by simp only [Tm.ty, hg, if_true]) _ H3 (e2.trans e3) (a2.ext (e2.trans e3))⟩
        · rw [if_pos (by simp [hs])]
          exact qe (by simp only [Tm.ty, hg]; rw [if_neg (fun z => hs (Option.some.inj z))]) _ (e2.trans e3)
end
end Sq
set_option Elab.async false
set_option linter.all false
set_option maxRecDepth 100000
set_option maxHeartbeats 4000000
namespace Sq
open PySem PySem.Spec PyProof.Rows L2 RZ
local macro_rules | `(tactic| walk_at "rd") => `(tactic| simp only [tCont, tNever, iEnumL, iRng1, rPop0, rTIndex, rKdIx, rKdNin, tDG2, rU, tTIdx, iZipS, rDictC, rDictP, tDisp, tPairs, rIndexS, wipe, tNoPart, tDG2, tDGF, tDInF, tDNInF, sDPutF, tDNewF, rSortD, rInS, rInT, rEqLF, tDcF, tDc2F, tLcF, tForF, tAllF, tAnyF, tSumF, iStr, iEnumF, iZipF, iKeysF, iItems, tLZip, tYes, tSeq, tIfS, tNext, tRet, tRetN, tDrop, tTest, tB, tNot, tAnd, tOr, tChain, tOp, tUn, tCB, tCons, tNil, tC, tVar, tIf, tAndV, tOrV, tNotV, tAsg, tPar, tPar3, gName, gSub, gTupF, gCons, gNil, tTupF, tLstF, rI0, rI, rIxF, rIxG, rIxS, rSetF, rSlF, rCatF, rCatL, rTupL, rListT, rListL, rLenT, rLenL, iTupF, iLstF, rAppF, rExtF, rPopF, tBM, tBM0, tSl, tPart, rEq, rNe, tCall, L2.start,
  List.map_cons, List.map_nil, List.length_cons, List.length_nil, Nat.sub_self, List.replicate, List.append_nil, List.cons_append, List.nil_append, List.getElem?_cons_zero, List.getElem?_cons_succ, List.set_cons_zero, List.set_cons_succ,
  exSl, exI, exI2, exB, exS, exR, ex1, ex1', V.int.injEq, V.bl.injEq, V.ref.injEq, V.str.injEq, Option.some.injEq, List.cons.injEq, and_true, true_and, reduceCtorEq, false_and, and_false, or_false, false_or, exists_false, exists_and_left, exists_eq_left', decide_eq_true_eq, decide_true, decide_false, if_false, if_true, ite_true, ite_false, Bool.false_eq_true, Bool.not_true, Bool.not_false, Nat.reduceAdd, Nat.reduceSub, Nat.zero_add, atI_0, atI_1, atI_2, atI_3, ixN_0, ixN_1, ixN_2, cutV_1, cutV_2, Option.some.injEq, HO.lst.injEq, HO.dK.injEq, scal])
local macro_rules | `(tactic| walk_at "rdc") => `(tactic| simp (config := { contextual := true }) only [tCont, tNever, iEnumL, iRng1, rPop0, rTIndex, rKdIx, rKdNin, tDG2, rU, tTIdx, iZipS, rDictC, rDictP, tDisp, tPairs, rIndexS, wipe, tNoPart, tDG2, tDGF, tDInF, tDNInF, sDPutF, tDNewF, rSortD, rInS, rInT, rEqLF, tDcF, tDc2F, tLcF, tForF, tAllF, tAnyF, tSumF, iStr, iEnumF, iZipF, iKeysF, iItems, tLZip, tYes, tSeq, tIfS, tNext, tRet, tRetN, tDrop, tTest, tB, tNot, tAnd, tOr, tChain, tOp, tUn, tCB, tCons, tNil, tC, tVar, tIf, tAndV, tOrV, tNotV, tAsg, tPar, tPar3, gName, gSub, gTupF, gCons, gNil, tTupF, tLstF, rI0, rI, rIxF, rIxG, rIxS, rSetF, rSlF, rCatF, rCatL, rTupL, rListT, rListL, rLenT, rLenL, iTupF, iLstF, rAppF, rExtF, rPopF, tBM, tBM0, tSl, tPart, rEq, rNe, tCall, L2.start,
  List.map_cons, List.map_nil, List.length_cons, List.length_nil, Nat.sub_self, List.replicate, List.append_nil, List.cons_append, List.nil_append, List.getElem?_cons_zero, List.getElem?_cons_succ, List.set_cons_zero, List.set_cons_succ,
  exSl, exI, exI2, exB, exS, exR, ex1, ex1', V.int.injEq, V.bl.injEq, V.ref.injEq, V.str.injEq, Option.some.injEq, List.cons.injEq, and_true, true_and, reduceCtorEq, false_and, and_false, or_false, false_or, exists_false, exists_and_left, exists_eq_left', decide_eq_true_eq, decide_true, decide_false, if_false, if_true, ite_true, ite_false, Bool.false_eq_true, Bool.not_true, Bool.not_false, Nat.reduceAdd, Nat.reduceSub, Nat.zero_add, atI_0, atI_1, atI_2, atI_3, ixN_0, ixN_1, ixN_2, cutV_1, cutV_2, Option.some.injEq, HO.lst.injEq, HO.dK.injEq, scal, *])
section
variable {P : Program} {w : World} {K : PySem.W.Frag} {mg : Str → Option Value} {base : Heap} {f c f2 c2 aJ aO aN aS aT : Addr} {uN : Value} {fd fd2 : FuncData} {NS : List Str}
abbrev s_type_of_case : Stmt := top 19
abbrev n_type_of_case : List Str := ["term", "context", "one", "left", "right"]
theorem sc_type_of_case : FnScope n_type_of_case ["term", "context"] (defScope s_type_of_case) := ⟨rfl, rfl, rfl, by decide +kernel, rfl, by decide +kernel, by decide +kernel⟩
theorem step_tc (F : Dn K mg "type_of_case" s_type_of_case f fd c) (B : Bl mg) (X_BadType : Xc K mg "BadType" aT) (k : Nat) (hk : 1 ≤ k) (G_type_of : CalX P w K mg base k "type_of" (spTy K aT k)) (G_with_name0 : Cal P w K mg base 1 "with_name" (spWith K)) :
    CalX P w K mg base (k + 1) "type_of_case" (spTc K aT (k + 1)) := by
  have G_with_name := G_with_name0.mono (k := k) (by omega)
  refine F.calX (ps := ["term", "context"]) (fun _ _ _ _ _ _ us hl => match us, hl with | [_, _], _ => rfl) sc_type_of_case (fun vs H Q E h => ?_) (fun A outer s H vs Q E hr h => ?_)
  · obtain ⟨_, _, _, _, _, rfl, _⟩ := h; rfl
  obtain ⟨v, b, t, l, N, rfl, ha, hkd, hd, q, qe⟩ := h
  refine ⟨_, (pss_cons (ps_set (i := 2) sc_type_of_case.nd rfl (by first | exact Or.inl rfl | exact Or.inr rfl) (pe_cX G_type_of hr (by omega) (takes_of rfl rfl rfl rfl) (fun _ _ _ _ h => h) (by rfl) (pa_cons (pe_ix (ix_tupK K) (pv 0) pe_int (fun _ _ => rfl)) (pa_cons (pv 1) pa_nil))))
    (pss_cons (ps_if (pt_cmpR op_ne (pe_ix (ix_tupK K) (pv 2) pe_int (fun _ _ => rfl)) pe_str (nomark _)) (pss_one (ps_raiseX X_BadType (takes_of rfl rfl rfl rfl))) pss_nil)
    (pss_cons (ps_set (i := 3) sc_type_of_case.nd rfl (by first | exact Or.inl rfl | exact Or.inr rfl) (pe_cX G_type_of hr (by omega) (takes_of rfl rfl rfl rfl) (fun _ _ _ _ h => h) (by rfl) (pa_cons (pe_ix (ix_tupK K) (pv 0) pe_int (fun _ _ => rfl)) (pa_cons (C8.pe_c G_with_name hr (by omega) (by rfl) (pa_cons (pv 1) (pa_cons (pe_ix (ix_tupK K) (pv 0) pe_int (fun _ _ => rfl)) (pa_cons (pe_ix (ix_tupK K) (pv 2) pe_int (fun _ _ => rfl)) pa_nil)))) pa_nil))))
    (pss_cons (ps_set (i := 4) sc_type_of_case.nd rfl (by first | exact Or.inl rfl | exact Or.inr rfl) (pe_cX G_type_of hr (by omega) (takes_of rfl rfl rfl rfl) (fun _ _ _ _ h => h) (by rfl) (pa_cons (pe_ix (ix_tupK K) (pv 0) pe_int (fun _ _ => rfl)) (pa_cons (C8.pe_c G_with_name hr (by omega) (by rfl) (pa_cons (pv 1) (pa_cons (pe_ix (ix_tupK K) (pv 0) pe_int (fun _ _ => rfl)) (pa_cons (pe_ix (ix_tupK K) (pv 2) pe_int (fun _ _ => rfl)) pa_nil)))) pa_nil))))
    (pss_cons (ps_if (pt_cmpR (op_neK K hr.units) (pv 3) (pv 4) (nomark _)) (pss_one (ps_raiseX X_BadType (takes_of rfl rfl rfl rfl))) pss_nil)
    (pss_one (ps_ret (pv 3)))))))), ?_⟩
  walk_at "rd"
  have h2 : (1000 : Nat) ≤ sizeLine := by decide
  obtain ⟨p, ws, rfl, hp, hw⟩ := tm_hd ha.tt
  cases t with
  | cs t x u y z =>
    cases hw with
    | cons a1 hw => cases hw with
      | cons a2 hw => cases hw with
        | cons a3 hw => cases hw with
          | cons a4 hw => cases hw with
            | cons a5 hw =>
              cases hw
              cases a2
              cases a4
              have hA := ha.sub (Ext.refl _ _) a1 (u := t) (fun g hg => by simp [Tm.fms, hg]) (by simp only [Tm.gr]; omega) (by simp only [Tm.dep]; omega)
              have hdt : t.dep < (Tm.cs t x u y z).dep := by simp only [Tm.dep]; omega
              have hdu : u.dep < (Tm.cs t x u y z).dep := by simp only [Tm.dep]; omega
              have hdz : z.dep < (Tm.cs t x u y z).dep := by simp only [Tm.dep]; omega
              have hfew := ha.few
              have hnn := ha.nn
              refine ⟨p, rfl, _, hp, _, atI_1, _, b, t, l, N, rfl, hA, by omega, fun g hg v' H2 e2 d2 => ?_, fun hn H2 e2 => qe (by simp only [Tm.ty, hn]) _ e2⟩
              have hgd := Tm.ty_dep t hg hA.bb hA.n1
              obtain ⟨gp, gws, rfl, hgp⟩ := fm_hd d2
              refine ⟨gp, rfl, _, hgp, _, atI_0, rfl, ?_⟩
              by_cases hto : g.hd = "either"
              · obtain ⟨s1, s2, rfl⟩ := hd_is (j := .either) (congrArg V.str hto)
                rw [if_neg (by rw [hto]; decide)]
                obtain ⟨gp', u1, u2, e, hp', hu1, hu2⟩ := fd_b d2
                cases e
                have habc := Tm.abc_bin.mp hgd.2
                have hdd := hgd.1
                simp only [Fm.dep] at hdd
                have hfew := ha.few
                simp only [Tm.gr] at hnn
                have hp2 := tupF_ext e2 hp
                refine ⟨p, rfl, _, hp2, _, atI_3, p, rfl, _, hp2, _, atI_2, gp, rfl, _, hp', _, atI_1, b, x, _, l, s1, rfl, (ha.ll.ext0 e2).a, hu1, by omega, fun bp H3 n3 e3 hb3 => ?_⟩
                have hgru : u.gr ≤ max u.gr z.gr := Nat.le_max_left _ _
                have hgrz : z.gr ≤ max u.gr z.gr := Nat.le_max_right _ _
                refine ⟨_, bp, u, putL l x s1, N + t.gr, rfl, ha.put hb3 (a3.ext (e2.trans e3)) ⟨by omega, habc.1⟩ (by omega) (fun g hg => by simp [Tm.fms, hg]) (by simp only [Tm.gr]; omega) hdu, by omega, fun g2 hg2 v4 H4 e4 d4 => ?_, fun hn H4 e4 => qe (by rw [lk_put] at hn; simp only [Tm.ty, hg, hn]) _ ((e2.trans e3).trans e4)⟩
                rw [lk_put] at hg2
                have hp4 := tupF_ext (e3.trans e4) hp2
                refine ⟨p, rfl, _, hp4, _, at_ix (k := 5) (by simp), p, rfl, _, hp4, _, at_ix (k := 4) (by simp), gp, rfl, _, tupF_ext (e3.trans e4) hp', _, atI_2, b, y, _, l, s2, rfl, (ha.ll.ext0 ((e2.trans e3).trans e4)).a, hu2.ext (e3.trans e4), by omega, fun bp5 H5 n5 e5 hb5 => ?_⟩
                have eall := ((e2.trans e3).trans e4).trans e5
                have hAz := ha.put hb5 (a5.ext eall) (M := N + t.gr) (u := z) ⟨by omega, habc.2⟩ (by omega) (fun g hg => by simp [Tm.fms, hg]) (by simp only [Tm.gr]; omega) hdz
                refine ⟨_, bp5, z, putL l y s2, N + t.gr, rfl, hAz, by omega, fun g3 hg3 v6 H6 e6 d6 => ?_, fun hn H6 e6 => qe (by rw [lk_put] at hn; simp only [Tm.ty, hg, hg2, hn]; rfl) _ (eall.trans e6)⟩
                rw [lk_put] at hg3
                have b2 := Tm.ty_dep u (N := N + t.gr) hg2 (((ha.bb.sub fun g hg => by simp [Tm.fms, hg]).mono (by omega)).up ⟨by omega, habc.1⟩ fun g hg => hg) (by have := ha.n1; omega)
                have b3 := Tm.ty_dep z (N := N + t.gr) hg3 (((ha.bb.sub fun g hg => by simp [Tm.fms, hg]).mono (by omega)).up ⟨by omega, habc.2⟩ fun g hg => hg) (by have := ha.n1; omega)
                refine ⟨_, _, d4.ext (e5.trans e6), d6, fsh ⟨by omega, b2.2⟩, fsh ⟨by omega, b3.2⟩, ?_⟩
                rw [if_pos rfl, Fm.eqv_data]
                refine ⟨_, rfl, ?_⟩
                by_cases hs : g2 = g3
                · subst hs
                  rw [if_neg (by simp)]
                  exact q g2 (by simp only [Tm.ty, hg, hg2, hg3, if_true]) _ H6 (eall.trans e6) (d4.ext (e5.trans e6))
                · rw [if_pos (by simp [hs])]
                  exact qe (by simp only [Tm.ty, hg, hg2, hg3]; rw [if_neg (fun z => hs (Option.some.inj z).symm)]) _ (eall.trans e6)
              · rw [if_pos (by simp [hto])]
                refine qe ?_ _ e2
                simp only [Tm.ty, hg]
                split
                · rename_i e; cases e; exact absurd rfl hto
                · rfl
  | _ => exact absurd hkd (by simp only [Tm.kind]; decide)
theorem Dn.vacX {x : Str} {st : Stmt} {ps : List Str} {sp : Sp} {k : Nat} (F : Dn K mg x st f fd c) (hb : BindOk x st ps) (h : ∀ vs H Q E, ¬ sp vs H Q E) : CalX P w K mg base k x sp :=
  ⟨f, fd, ps, ⟨fun vs H Q E z => absurd z (h vs H Q E), fun A outer s H args us vs Q E _ _ _ _ z => absurd z (h vs H Q E)⟩, F.mgf, F.kp, F.binds hb⟩
theorem ok_ty (F : Dn K mg "type_of" s_type_of f fd c) (F2 : Dn K mg "type_of_case" s_type_of_case f2 fd2 c2) (B : Bl mg) (GT : Go K w mg aJ aO aN aS uN) (XT : Xc K mg "BadType" aT) (G_with_name : Cal P w K mg base 1 "with_name" (spWith K)) :
    ∀ k, CalX P w K mg base k "type_of" (spTy K aT k) ∧ CalX P w K mg base k "type_of_case" (spTc K aT k)
  | 0 => ⟨F.vacX (ps := ["term", "context"]) (fun _ _ _ _ _ _ us hl => match us, hl with | [_, _], _ => rfl) fun vs H Q E ⟨_, _, t, _, _, _, _, h, _⟩ => by have := t.dep_pos; omega,
    F2.vacX (ps := ["term", "context"]) (fun _ _ _ _ _ _ us hl => match us, hl with | [_, _], _ => rfl) fun vs H Q E ⟨_, _, t, _, _, _, _, _, h, _⟩ => by have := t.dep_pos; omega⟩
  | 1 => ⟨F.vacX (ps := ["term", "context"]) (fun _ _ _ _ _ _ us hl => match us, hl with | [_, _], _ => rfl) fun vs H Q E ⟨_, _, t, _, _, _, _, h, _⟩ => by have := t.dep_pos; omega,
    F2.vacX (ps := ["term", "context"]) (fun _ _ _ _ _ _ us hl => match us, hl with | [_, _], _ => rfl) fun vs H Q E ⟨_, _, t, _, _, _, _, hk, h, _⟩ => by
      have := t.dep_pos
      cases t with
      | cs t x u y z => simp only [Tm.dep] at h; have := t.dep_pos; omega
      | _ => exact absurd hk (by simp only [Tm.kind]; decide)⟩
  | k + 2 => by
    have ih := ok_ty F F2 B GT XT G_with_name (k + 1)
    exact ⟨step_ty F B GT XT (k + 1) (by omega) ih.1 ih.2 G_with_name, step_tc F2 B XT (k + 1) (by omega) ih.1 G_with_name⟩
end
end Sq
set_option Elab.async false
set_option linter.all false
set_option maxRecDepth 100000
set_option maxHeartbeats 2000000
namespace Sq
open PySem PySem.Spec PyProof.Rows L2 RZ
/-! ### xs[k] += e -/
def rGetN : V → V → Hp → VK → Prop := fun x y H Q => ∃ p xs k v, x = .ref p ∧ y = .int k ∧ H p = some (.lst xs) ∧ 0 ≤ k ∧ xs[k.toNat]? = some v ∧ Q v H
theorem get_lstN {X : Cx} : PGet X rGetN := by
  intro pins s σ H x y ov iv Q I rx ry h
  obtain ⟨p, xs, k, z, rfl, rfl, hq, h0, he, q⟩ := h
  cases rx
  obtain ⟨t, rfl⟩ := ry
  obtain ⟨its, r, pl, hz⟩ := I.list (SqL.of hq)
  obtain ⟨w, ew, rw'⟩ := r.get he
  have hl := r.length
  have hn := line63
  have hk := (List.getElem?_eq_some_iff.mp he).1
  exact wpAny_getItem_list (Q := EP X pins σ Q) pl.isList h0 (by omega) (by simpa using ew) ⟨z, H, I, rw', q⟩
end Sq
set_option Elab.async false
set_option linter.all false
set_option maxRecDepth 100000
set_option maxHeartbeats 2000000
namespace Sq
open PySem PySem.Spec PyProof.Rows L2
/-! ### formulas made alike, any number of free names: bounded by a way that makes them alike -/
structure UG (NS fr : List Str) (l : Tab) (rl : FP) : Prop where
  nd : (l.map (·.1)).Nodup
  keys : ∀ n ∈ l.map (·.1), n ∈ fr
  vals : ∀ n t, (n, t) ∈ l → ∀ x ∈ t.names, x ∈ NS ∧ lk l x = none
  prs : ∀ t u, (t, u) ∈ rl → (∀ x ∈ t.names, x ∈ NS) ∧ ∀ x ∈ u.names, x ∈ NS
/-- what the walk wants to know of a state -/
structure UW (NS fr : List Str) (l : Tab) (rl : FP) : Prop where
  g : UG NS fr l rl
  vd : ∀ n t, (n, t) ∈ l → t.dep ≤ 40
  pd : ∀ t u, (t, u) ∈ rl → (t.fill (lk l)).dep ≤ 40 ∧ (u.fill (lk l)).dep ≤ 40
  cnt : rl.length ≤ 50000
def SafeU (NS fr : List Str) : Nat → Tab → FP → Prop
  | 0, _, _ => True
  | n + 1, l, rl => UW NS fr l rl ∧ match stepU fr l rl with
    | .out _ => True
    | .go l' rl' => SafeU NS fr n l' rl'
section
variable {NS fr : List Str}
theorem UG.fresh {l : Tab} {rl : FP} (h : UG NS fr l rl) {t : Fm} (ht : ∀ x ∈ t.names, x ∈ NS) : ∀ x ∈ (t.fill (lk l)).names, x ∈ NS ∧ lk l x = none := fun x hx => by
  obtain ⟨y, hy, hxy⟩ := Fm.names_fill.mp hx
  cases e : lk l y with
  | none =>
    rw [e] at hxy
    have : x = y := by simpa [Fm.names] using hxy
    subst this
    exact ⟨ht x hy, e⟩
  | some w =>
    rw [e] at hxy
    exact h.vals y w (lk_mem e) x hxy
theorem UG.len {l : Tab} {rl : FP} (h : UG NS fr l rl) : l.length ≤ fr.length := by
  have := nodup_sub h.nd h.keys
  rwa [List.length_map] at this
theorem UG.tail {l : Tab} {p : Fm × Fm} {rl : FP} (h : UG NS fr l (p :: rl)) : UG NS fr l rl := ⟨h.nd, h.keys, h.vals, fun t u hm => h.prs t u (List.mem_cons_of_mem _ hm)⟩
theorem UG.bind {l : Tab} {rl : FP} (h : UG NS fr l rl) {x : Str} {o : Fm} (hx : x ∈ fr) (hl : lk l x = none) (ho : ∀ y ∈ o.names, y ∈ NS ∧ lk l y = none) (hxo : x ∉ o.names) : UG NS fr (bindT l x o) rl := by
  have mapfst : (bindT l x o).map (·.1) = l.map (·.1) ++ [x] := by
    rw [bindT_eq hl]
    simp
  have fresh : ∀ y, lk l y = none → y ≠ x → lk (bindT l x o) y = none := fun y h1 h2 => by rw [lk_bind hl, if_neg h2, h1]; rfl
  refine ⟨?_, fun n hn => ?_, fun n t hm => ?_, h.prs⟩
  · rw [mapfst]
    exact List.nodup_append.mpr ⟨h.nd, by simp, fun a ha b hb e => by
      have e' : b = x := by simpa using hb
      subst e' e
      exact (lk_none.mp hl) ha⟩
  · rw [mapfst] at hn
    rcases List.mem_append.mp hn with z | z
    · exact h.keys n z
    · have : n = x := by simpa using z
      rw [this]; exact hx
  · rw [bindT_eq hl] at hm
    rcases List.mem_append.mp hm with z | z
    · obtain ⟨⟨n', w⟩, hw, e⟩ := List.mem_map.mp z
      cases e
      have h1 := h.vals n' w hw
      intro y hy
      obtain ⟨z, hz, hyz⟩ := Fm.names_fill.mp hy
      rw [one1_at] at hyz
      by_cases e : x = z
      · rw [if_pos e] at hyz
        have hy' : y ∈ o.names := hyz
        obtain ⟨a, b⟩ := ho y hy'
        exact ⟨a, fresh y b fun e => hxo (e ▸ hy')⟩
      · rw [if_neg e] at hyz
        have e2 : y = z := by simpa [Fm.names] using hyz
        subst e2
        obtain ⟨a, b⟩ := h1 y hz
        exact ⟨a, fresh y b fun z => e z.symm⟩
    · have e : n = x ∧ t = o := by simpa using z
      obtain ⟨rfl, rfl⟩ := e
      exact fun y hy => let ⟨a, b⟩ := ho y hy; ⟨a, fresh y b fun e => hxo (e ▸ hy)⟩
theorem UG.split {l : Tab} {rl : FP} (h : UG NS fr l rl) {j k : Jn} {s t s' t' : Fm} (hp : ∀ y ∈ (Fm.bin j s t).names, y ∈ NS ∧ lk l y = none) (ho : ∀ y ∈ (Fm.bin k s' t').names, y ∈ NS ∧ lk l y = none) : UG NS fr l ((t, t') :: (s, s') :: rl) := by
  refine ⟨h.nd, h.keys, h.vals, fun a b hm => ?_⟩
  rcases List.mem_cons.mp hm with z | hm
  · cases z
    exact ⟨fun y hy => (hp y (List.mem_append_right _ hy)).1, fun y hy => (ho y (List.mem_append_right _ hy)).1⟩
  · rcases List.mem_cons.mp hm with z | hm
    · cases z
      exact ⟨fun y hy => (hp y (List.mem_append_left _ hy)).1, fun y hy => (ho y (List.mem_append_left _ hy)).1⟩
    · exact h.prs a b hm
theorem run_mono {r : Option Tab} : ∀ (n k : Nat) (l : Tab) (rl : FP), runU fr n l rl = some r → runU fr (n + k) l rl = some r
  | 0, _, _, _, h => by cases h
  | n + 1, k, l, rl, h => by
    rw [show n + 1 + k = (n + k) + 1 by omega]
    unfold runU at h ⊢
    cases e : stepU fr l rl with
    | out r' => rw [e] at h; exact h
    | go l' rl' => rw [e] at h; exact run_mono n k l' rl' h
theorem run_det {n m : Nat} {l : Tab} {rl : FP} {r r' : Option Tab} (h : runU fr n l rl = some r) (h' : runU fr m l rl = some r') : r = r' := by
  have a := run_mono n m l rl h
  have b := run_mono m n l rl h'
  rw [Nat.add_comm, b] at a
  exact (Option.some.inj a).symm
/-- the sum of the sizes of what waits, a way put through -/
def wtU (th : Str → Option Fm) (rl : FP) : Nat := (rl.map fun p => (p.1.fill th).sz).sum
theorem wtU_len {th : Str → Option Fm} : ∀ rl : FP, rl.length ≤ wtU th rl
  | [] => Nat.zero_le _
  | p :: rl => by
    have := wtU_len (th := th) rl
    have := (p.1.fill th).sz_pos
    simp only [wtU, List.map_cons, List.sum_cons, List.length_cons] at *
    omega
/-- consistent pairs are made alike; each way is a case of what is told -/
theorem run_solves {th : Str → Option Fm} {D : Nat} (w : Way fr th) (hD : D ≤ 40) (hfr : ∀ x ∈ fr, ((Fm.name x).fill th).dep ≤ D) : ∀ (M : Nat) (l : Tab) (rl : FP), UG NS fr l rl → (∀ t u, (t, u) ∈ rl → t.fill th = u.fill th ∧ (t.fill th).dep ≤ D) → (∀ n t, (n, t) ∈ l → (Fm.name n).fill th = t.fill th) → wtU th rl ≤ M → M ≤ 50000 →
    ∃ n l', runU fr n l rl = some (some l') ∧ SafeU NS fr n l rl ∧ ∀ n t, (n, t) ∈ l' → (Fm.name n).fill th = t.fill th := by
  have hW : ∀ (l : Tab) (rl : FP) (M : Nat), UG NS fr l rl → (∀ t u, (t, u) ∈ rl → t.fill th = u.fill th ∧ (t.fill th).dep ≤ D) → (∀ n t, (n, t) ∈ l → (Fm.name n).fill th = t.fill th) → wtU th rl ≤ M → M ≤ 50000 → UW NS fr l rl := fun l rl M hU hp hl hw hM => by
    refine ⟨hU, fun n t hm => ?_, fun t u hm => ?_, by have := wtU_len (th := th) rl; omega⟩
    · have h1 := hl n t hm
      have h2 := hfr n (hU.keys n (List.mem_map.mpr ⟨_, hm, rfl⟩))
      rw [h1] at h2
      have := Fm.dep_fill_ge th t
      omega
    · obtain ⟨h1, h2⟩ := hp t u hm
      have e1 := fill_theta hl t
      have e2 := fill_theta hl u
      have h3 := Fm.dep_fill_ge th (t.fill (lk l))
      have h4 := Fm.dep_fill_ge th (u.fill (lk l))
      rw [e1] at h3
      rw [e2, ← h1] at h4
      omega
  intro M
  induction M with
  | zero =>
    intro l rl hU hp hl hw hM
    cases rl with
    | nil => exact ⟨1, l, rfl, ⟨hW l [] 0 hU hp hl hw hM, trivial⟩, hl⟩
    | cons p rl => have := wtU_len (th := th) (p :: rl); rw [List.length_cons] at this; omega
  | succ M ih =>
    intro l rl hU hp hl hw hM
    have hWU := hW l rl (M + 1) hU hp hl hw hM
    cases rl with
    | nil => exact ⟨1, l, rfl, ⟨hWU, trivial⟩, hl⟩
    | cons pr rest =>
      obtain ⟨t, u⟩ := pr
      suffices key : ∃ n l', (match stepU fr l ((t, u) :: rest) with | .out r => some r | .go l rl => runU fr n l rl) = some (some l') ∧ (match stepU fr l ((t, u) :: rest) with | .out _ => True | .go l' rl' => SafeU NS fr n l' rl') ∧ ∀ n t, (n, t) ∈ l' → (Fm.name n).fill th = t.fill th by
        obtain ⟨n, l', h1, h2, h3⟩ := key
        exact ⟨n + 1, l', by unfold runU; exact h1, ⟨hWU, h2⟩, h3⟩
      show ∃ n l', (match stepP fr l rest (t.fill (lk l)) (u.fill (lk l)) with | .out r => some r | .go l rl => runU fr n l rl) = some (some l') ∧ (match stepP fr l rest (t.fill (lk l)) (u.fill (lk l)) with | .out _ => True | .go l' rl' => SafeU NS fr n l' rl') ∧ ∀ n t, (n, t) ∈ l' → (Fm.name n).fill th = t.fill th
      obtain ⟨a1, b1⟩ := hU.prs t u List.mem_cons_self
      have ft := hU.fresh a1
      have fu := hU.fresh b1
      obtain ⟨hpe, hpd⟩ := hp t u List.mem_cons_self
      have eq : (t.fill (lk l)).fill th = (u.fill (lk l)).fill th := by rw [fill_theta hl, fill_theta hl]; exact hpe
      have hdt : ((t.fill (lk l)).fill th).dep ≤ D := by rw [fill_theta hl]; exact hpd
      have hrest : ∀ t u, (t, u) ∈ rest → t.fill th = u.fill th ∧ (t.fill th).dep ≤ D := fun t u hm => hp t u (List.mem_cons_of_mem _ hm)
      have hw2 : ((t.fill (lk l)).fill th).sz + wtU th rest ≤ M + 1 := by
        rw [fill_theta hl]
        simpa only [wtU, List.map_cons, List.sum_cons] using hw
      revert ft fu eq hdt hw2
      generalize t.fill (lk l) = t'
      generalize u.fill (lk l) = u'
      intro ft fu eq hdt hw2
      have keyQ : ∀ p o : Fm, p ≠ o → (p.isV fr = false → o.isV fr = false) → (∀ y ∈ p.names, y ∈ NS ∧ lk l y = none) → (∀ y ∈ o.names, y ∈ NS ∧ lk l y = none) → p.fill th = o.fill th → (p.fill th).dep ≤ D → (p.fill th).sz + wtU th rest ≤ M + 1 →
          ∃ n l', (match stepQ fr l rest p o with | .out r => some r | .go l rl => runU fr n l rl) = some (some l') ∧ (match stepQ fr l rest p o with | .out _ => True | .go l' rl' => SafeU NS fr n l' rl') ∧ ∀ n t, (n, t) ∈ l' → (Fm.name n).fill th = t.fill th := by
        intro p o hne hno hpn hon hpo hdp hwp
        have hs0 := (p.fill th).sz_pos
        by_cases hpv : p.isV fr = true
        · cases p with
          | name x =>
            have xf : x ∈ fr := by simpa [Fm.isV] using hpv
            obtain ⟨x1, x2⟩ := hpn x (by simp [Fm.names])
            unfold stepQ
            simp only [if_pos xf]
            by_cases z : x ∈ o.names
            · have := Fm.sz_in (s := th) z (fun e => hne e.symm)
              rw [hpo] at this
              omega
            · simp only [if_neg z]
              refine ih _ rest (hU.tail.bind xf x2 hon z) hrest (fun n' t' hm' => ?_) (by omega) (by omega)
              rw [bindT_eq x2] at hm'
              rcases List.mem_append.mp hm' with w | w
              · obtain ⟨⟨n0, t0⟩, h0, e⟩ := List.mem_map.mp w
                cases e
                show _ = (t0.fill (one1 x o)).fill th
                rw [fill_one hpo]
                exact hl n0 t0 h0
              · have e : n' = x ∧ t' = o := by simpa using w
                obtain ⟨rfl, rfl⟩ := e
                exact hpo
          | _ => cases hpv
        · have hpv : p.isV fr = false := by simpa using hpv
          rcases way_hd w hpv (hno hpv) hpo with ⟨x, e1, e2⟩ | ⟨n1, n2⟩
          · exact absurd (e1.trans e2.symm) hne
          · cases p with
            | name x => cases n1
            | one => cases o with
              | one => exact absurd rfl hne
              | name y => cases n2
              | _ => cases hpo
            | none => cases o with
              | none => exact absurd rfl hne
              | name y => cases n2
              | _ => cases hpo
            | bin j s r => cases o with
              | name y => cases n2
              | one => cases hpo
              | none => cases hpo
              | bin k s' r' =>
                have hpo' : Fm.bin j (s.fill th) (r.fill th) = Fm.bin k (s'.fill th) (r'.fill th) := hpo
                injection hpo' with e1 e2 e3
                unfold stepQ
                simp only [if_pos e1]
                have hd2 : (Fm.bin j (s.fill th) (r.fill th)).dep ≤ D := hdp
                have hw3 : (Fm.bin j (s.fill th) (r.fill th)).sz + wtU th rest ≤ M + 1 := hwp
                simp only [Fm.dep] at hd2
                simp only [Fm.sz] at hw3
                refine ih l _ (hU.tail.split hpn hon) (fun a b hm => ?_) hl ?_ (by omega)
                · rcases List.mem_cons.mp hm with z | hm
                  · cases z; exact ⟨e3, by omega⟩
                  · rcases List.mem_cons.mp hm with z | hm
                    · cases z; exact ⟨e2, by omega⟩
                    · exact hrest a b hm
                · simp only [wtU, List.map_cons, List.sum_cons] at hw3 ⊢
                  omega
      unfold stepP
      by_cases e : t' = u'
      · rw [if_pos e]
        have := (t'.fill th).sz_pos
        exact ih l rest hU.tail hrest hl (by omega) (by omega)
      · rw [if_neg e]
        by_cases hv : u'.isV fr = true ∧ t'.isV fr = false
        · rw [if_pos hv]
          exact keyQ u' t' (fun z => e z.symm) (fun z => by rw [hv.1] at z; cases z) fu ft eq.symm (by rw [← eq]; exact hdt) (by rw [← eq]; exact hw2)
        · rw [if_neg hv]
          exact keyQ t' u' e (fun z => by
            cases hx : u'.isV fr with
            | false => rfl
            | true => exact absurd ⟨hx, z⟩ hv) ft fu eq hdt hw2
theorem stepQ_safe {l : Tab} {t u p o : Fm} {rest : FP} {m : Nat} {r : Option Tab} (hS : SafeU NS fr (m + 1) l ((t, u) :: rest)) (hs : stepU fr l ((t, u) :: rest) = stepQ fr l rest p o) (hm : (match stepQ fr l rest p o with | .out r => some r | .go l rl => runU fr m l rl) = some r) :
    match stepQ fr l rest p o with | .out r' => r = r' | .go l' rl' => runU fr m l' rl' = some r ∧ SafeU NS fr m l' rl' := by
  obtain ⟨_, h2⟩ := hS
  rw [hs] at h2
  cases e : stepQ fr l rest p o with
  | out r' => rw [e] at hm; exact (Option.some.inj hm).symm
  | go l' rl' => rw [e] at hm h2; exact ⟨hm, h2⟩
end
end Sq
set_option Elab.async false
set_option linter.all false
set_option maxRecDepth 100000
set_option maxHeartbeats 2000000
namespace Sq
open PySem PySem.Spec PyProof.Rows L2
/-! ### bare terms, and the formulas guessed of them -/
def LET : List Str := (List.range 26).map fun i => ⟨#[97 + i]⟩
theorem let_ok : NsOk LET := ⟨by decide +kernel, by decide +kernel⟩
theorem let_nd : LET.Nodup := by decide +kernel
theorem let_len : LET.length = 26 := by decide +kernel
inductive Bt
  | var (x : Str)
  | fn (x : Str) (t : Bt)
  | app (t u : Bt)
  | pair (t u : Bt)
  | fst (t : Bt)
  | snd (t : Bt)
deriving DecidableEq
namespace Bt
def data : Bt → PyData
  | var x => .tuple [.str "var", .str x]
  | fn x t => .tuple [.str "fun", .str x, t.data]
  | app t u => .tuple [.str "app", t.data, u.data]
  | pair t u => .tuple [.str "pair", t.data, u.data]
  | fst t => .tuple [.str "first", t.data]
  | snd t => .tuple [.str "second", t.data]
def dep : Bt → Nat
  | var _ => 1
  | fn _ t => t.dep + 1
  | app t u => max t.dep u.dep + 1
  | pair t u => max t.dep u.dep + 1
  | fst t => t.dep + 1
  | snd t => t.dep + 1
/-- how many formulas are guessed -/
def cnt : Bt → Nat
  | var _ => 0
  | fn _ t => t.cnt + 1
  | app t u => t.cnt + u.cnt + 1
  | pair t u => t.cnt + u.cnt
  | fst t => t.cnt + 2
  | snd t => t.cnt + 2
theorem dep_pos : ∀ t : Bt, 1 ≤ t.dep := fun t => by cases t <;> simp [dep]
end Bt
def ltr (n : Nat) : Str := LET.getD n ""
def mk (n : Nat) : Fm := .name (ltr n)
/-- a guessed formula, how many are guessed, the pairs; none where it is refused -/
def gs : Bt → Tab → Nat → Option (Fm × Nat × FP)
  | .var x, l, n => match lk l x with
    | some f => some (f, n, [])
    | none => none
  | .fn x t, l, n => if n < 26 then (match gs t (putL l x (mk n)) (n + 1) with
    | some (g, m, ps) => some (.bin .to (mk n) g, m, ps)
    | none => none) else none
  | .pair t u, l, n => match gs t l n with
    | some (a, n1, p1) => (match gs u l n1 with
      | some (b, n2, p2) => some (.bin .both a b, n2, p1 ++ p2)
      | none => none)
    | none => none
  | .app t u, l, n => match gs t l n with
    | some (a, n1, p1) => (match gs u l n1 with
      | some (b, n2, p2) => if n2 < 26 then some (mk n2, n2 + 1, p1 ++ p2 ++ [(a, .bin .to b (mk n2))]) else none
      | none => none)
    | none => none
  | .fst t, l, n => match gs t l n with
    | some (a, n1, p1) => if n1 + 1 < 26 then some (mk n1, n1 + 2, p1 ++ [(a, .bin .both (mk n1) (mk (n1 + 1)))]) else none
    | none => none
  | .snd t, l, n => match gs t l n with
    | some (a, n1, p1) => if n1 + 1 < 26 then some (mk (n1 + 1), n1 + 2, p1 ++ [(a, .bin .both (mk n1) (mk (n1 + 1)))]) else none
    | none => none
def Tm.bare : Tm → Option Bt
  | .var x => some (.var x)
  | .fn x _ t => t.bare.map (Bt.fn x)
  | .app t u => match t.bare, u.bare with
    | some a, some b => some (.app a b)
    | _, _ => none
  | .pair t u => match t.bare, u.bare with
    | some a, some b => some (.pair a b)
    | _, _ => none
  | .fst t => t.bare.map Bt.fst
  | .snd t => t.bare.map Bt.snd
  | _ => none
/-! ### the text is long where many are guessed -/
theorem piled_data : ∀ (ds : List PyData), piled (PyData.shownAll ds) = (ds.map fun d => d.shown.length + 2).sum
  | [] => by rw [PyData.shownAll]; rfl
  | d :: ds => by rw [PyData.shownAll, piled_cons, piled_data ds]; simp only [List.map_cons, List.sum_cons]
theorem shown_ge (ds : List PyData) : (ds.map fun d => d.shown.length + 2).sum ≤ (PyData.tuple ds).shown.length := by
  have e : (PyData.tuple ds).shown = tupleText (PyData.shownAll ds) := by rw [PyData.shown]
  rw [e, ← piled_data]
  exact piled_le_tupleText _
theorem str_shown (x : Str) : (PyData.str x).shown = reprText x := by rw [PyData.shown]
theorem nx_repr {x : Str} (h : x ∈ NX) : 3 ≤ (reprText x).length := by
  have : ∀ x ∈ NX, 3 ≤ (reprText x).length := by decide +kernel
  exact this x h
theorem kw_repr : (reprText "var").length = 5 ∧ (reprText "fun").length = 5 ∧ (reprText "app").length = 5 ∧ (reprText "pair").length = 6 ∧ (reprText "first").length = 7 ∧ (reprText "second").length = 8 := by decide +kernel
theorem long_cnt : ∀ (t : Tm) (b : Bt), t.bare = some b → t.pv = true → (∀ x ∈ t.nms, x ∈ NX) → 11 * b.cnt ≤ b.data.shown.length := by
  obtain ⟨k1, k2, k3, k4, k5, k6⟩ := kw_repr
  intro t
  induction t with
  | var x =>
    intro b h _ hn
    cases h
    simp [Bt.cnt]
  | fn x f t ih =>
    intro b h hp hn
    simp only [Tm.bare, Option.map_eq_some_iff] at h
    obtain ⟨b', h', rfl⟩ := h
    have := ih b' h' hp fun y hy => hn y (by simp [Tm.nms, hy])
    have hx := nx_repr (hn x (by simp [Tm.nms]))
    have g := shown_ge [.str "fun", .str x, b'.data]
    simp only [List.map_cons, List.map_nil, List.sum_cons, List.sum_nil, str_shown, k2] at g
    show 11 * (b'.cnt + 1) ≤ (PyData.tuple [.str "fun", .str x, b'.data]).shown.length
    omega
  | app t u i1 i2 =>
    intro b h hp hn
    simp only [Tm.bare] at h
    split at h
    · rename_i a c e1 e2
      cases h
      simp only [Tm.pv, Bool.and_eq_true] at hp
      have h1 := i1 a e1 hp.1 fun y hy => hn y (by simp [Tm.nms, hy])
      have h2 := i2 c e2 hp.2 fun y hy => hn y (by simp [Tm.nms, hy])
      have g := shown_ge [.str "app", a.data, c.data]
      simp only [List.map_cons, List.map_nil, List.sum_cons, List.sum_nil, str_shown, k3] at g
      show 11 * (a.cnt + c.cnt + 1) ≤ (PyData.tuple [.str "app", a.data, c.data]).shown.length
      omega
    · cases h
  | pair t u i1 i2 =>
    intro b h hp hn
    simp only [Tm.bare] at h
    split at h
    · rename_i a c e1 e2
      cases h
      simp only [Tm.pv, Bool.and_eq_true] at hp
      have h1 := i1 a e1 hp.1 fun y hy => hn y (by simp [Tm.nms, hy])
      have h2 := i2 c e2 hp.2 fun y hy => hn y (by simp [Tm.nms, hy])
      have g := shown_ge [.str "pair", a.data, c.data]
      simp only [List.map_cons, List.map_nil, List.sum_cons, List.sum_nil, str_shown, k4] at g
      show 11 * (a.cnt + c.cnt) ≤ (PyData.tuple [.str "pair", a.data, c.data]).shown.length
      omega
    · cases h
  | fst t ih =>
    intro b h hp hn
    cases t with
    | var x =>
      cases h
      have hx := nx_repr (hn x (by simp [Tm.nms]))
      have g := shown_ge [.str "first", (Bt.var x).data]
      have g2 := shown_ge [.str "var", .str x]
      simp only [List.map_cons, List.map_nil, List.sum_cons, List.sum_nil, str_shown, k5, k1] at g g2
      show 11 * (0 + 2) ≤ (PyData.tuple [.str "first", (Bt.var x).data]).shown.length
      have e : (Bt.var x).data = .tuple [.str "var", .str x] := rfl
      rw [e] at g ⊢
      omega
    | _ => cases hp
  | snd t ih =>
    intro b h hp hn
    cases t with
    | var x =>
      cases h
      have hx := nx_repr (hn x (by simp [Tm.nms]))
      have g := shown_ge [.str "second", (Bt.var x).data]
      have g2 := shown_ge [.str "var", .str x]
      simp only [List.map_cons, List.map_nil, List.sum_cons, List.sum_nil, str_shown, k6, k1] at g g2
      show 11 * (0 + 2) ≤ (PyData.tuple [.str "second", (Bt.var x).data]).shown.length
      have e : (Bt.var x).data = .tuple [.str "var", .str x] := rfl
      rw [e] at g ⊢
      omega
    | _ => cases hp
  | _ => intro b h; cases h
end Sq
set_option Elab.async false
set_option linter.all false
set_option maxRecDepth 100000
set_option maxHeartbeats 2000000
namespace Sq
open PySem PySem.Spec PyProof.Rows L2
/-! ### a typed term's bare one: what is guessed can be made alike -/
def inL (n : Nat) (f : Fm) : Prop := ∀ x ∈ f.names, x ∈ LET.take n
structure Th (n : Nat) (th : Str → Option Fm) (D : Nat) : Prop where
  w : Way (LET.take n) th
  d : ∀ x ∈ LET.take n, ((Fm.name x).fill th).dep ≤ D
theorem ltr_get {n : Nat} (h : n < 26) : LET[n]? = some (ltr n) := by
  unfold ltr
  rw [List.getD_eq_getElem?_getD, List.getElem?_eq_getElem (by rw [let_len]; exact h)]; rfl
theorem take_succ {n : Nat} (h : n < 26) : LET.take (n + 1) = LET.take n ++ [ltr n] := by
  rw [List.take_add_one, ltr_get h]; rfl
theorem ltr_mem {n : Nat} (h : n < 26) : ltr n ∈ LET.take (n + 1) := by rw [take_succ h]; simp
theorem ltr_new {n : Nat} (h : n < 26) : ltr n ∉ LET.take n := by
  have nd : (LET.take (n + 1)).Nodup := let_nd.sublist (List.take_sublist _ _)
  rw [take_succ h, List.nodup_append] at nd
  exact fun z => nd.2.2 _ z _ (by simp) rfl
theorem take_up {n m : Nat} (h : n ≤ m) {x : Str} (hx : x ∈ LET.take n) : x ∈ LET.take m := List.take_subset_take_left LET h hx
theorem inL.up {n m : Nat} {f : Fm} (h : inL n f) (k : n ≤ m) : inL m f := fun x hx => take_up k (h x hx)
theorem inL_mk {n : Nat} (h : n < 26) : inL (n + 1) (mk n) := fun x hx => by
  have : x = ltr n := by simpa [mk, Fm.names] using hx
  rw [this]; exact ltr_mem h
theorem inL_bin {n : Nat} {j : Jn} {a b : Fm} (h : inL n a) (k : inL n b) : inL n (.bin j a b) := fun x hx => (List.mem_append.mp hx).elim (h x) (k x)
def thU (th : Str → Option Fm) (n : Nat) (f : Fm) : Str → Option Fm := fun x => if x = ltr n then some f else th x
theorem thU_old {th : Str → Option Fm} {n : Nat} {f g : Fm} (hn : n < 26) (h : inL n f) : f.fill (thU th n g) = f.fill th := Fm.fill_congr fun x hx => by
  unfold thU
  rw [if_neg fun (e : x = ltr n) => ltr_new hn (e ▸ h x hx)]
theorem thU_mk {th : Str → Option Fm} {n : Nat} {g : Fm} : (mk n).fill (thU th n g) = g := by
  show (thU th n g (ltr n)).getD _ = g
  unfold thU
  rw [if_pos rfl]; rfl
theorem Th.up {n D : Nat} {th : Str → Option Fm} {g : Fm} (h : Th n th D) (hn : n < 26) (hd : g.dep ≤ D) : Th (n + 1) (thU th n g) D := by
  refine ⟨fun x hx => ?_, fun x hx => ?_⟩
  · have h1 : x ≠ ltr n := fun e => hx (e ▸ ltr_mem hn)
    show (if x = ltr n then some g else th x) = none
    rw [if_neg h1]
    exact h.w x fun z => hx (take_up (Nat.le_succ n) z)
  · rw [take_succ hn] at hx
    rcases List.mem_append.mp hx with z | z
    · have : (Fm.name x).fill (thU th n g) = (Fm.name x).fill th := thU_old hn fun y hy => by
        rw [show y = x by simpa [Fm.names] using hy]; exact z
      rw [this]; exact h.d x z
    · have : x = ltr n := by simpa using z
      subst this
      rw [show (Fm.name (ltr n)).fill (thU th n g) = g from thU_mk]
      exact hd
structure GsOk (b : Bt) (l : Tab) (n D : Nat) (th : Str → Option Fm) (g : Fm) (g' : Fm) (ps : FP) (th' : Str → Option Fm) : Prop where
  e : gs b l n = some (g', n + b.cnt, ps)
  t : Th (n + b.cnt) th' D
  old : ∀ f, inL n f → f.fill th' = f.fill th
  fl : g'.fill th' = g
  il : inL (n + b.cnt) g'
  pr : ∀ a c, (a, c) ∈ ps → a.fill th' = c.fill th' ∧ inL (n + b.cnt) a ∧ inL (n + b.cnt) c ∧ (a.fill th').dep ≤ D
  len : ps.length ≤ b.cnt
theorem gs_complete {D : Nat} : ∀ (t : Tm) (b : Bt) (G : Ctx) (g : Fm) (l : Tab) (n N : Nat) (th : Str → Option Fm), t.bare = some b → t.ty G = some g → Tm.TyB N t G → 1 ≤ N → N + t.gr ≤ D → (∀ x f, G x = some f → ∃ f', lk l x = some f' ∧ f'.fill th = f ∧ inL n f') → n + b.cnt ≤ 26 → Th n th D →
    ∃ g' ps th', GsOk b l n D th g g' ps th' := by
  intro t
  induction t with
  | var x =>
    intro b G g l n N th hb ht hB hN hD hc hn hth
    cases hb
    obtain ⟨f', h1, h2, h3⟩ := hc x g ht
    exact ⟨f', [], th, ⟨by simp only [gs, h1, Bt.cnt, Nat.add_zero], hth, fun f _ => rfl, h2, h3, (fun a c h => nomatch h), Nat.le_refl _⟩⟩
  | fn x f t ih =>
    intro b G g l n N th hb ht hB hN hD hc hn hth
    simp only [Tm.bare, Option.map_eq_some_iff] at hb
    obtain ⟨b, hb, rfl⟩ := hb
    simp only [Tm.ty, Option.map_eq_some_iff] at ht
    obtain ⟨a, ha, rfl⟩ := ht
    simp only [Bt.cnt] at hn
    simp only [Tm.gr] at hD
    have hf := hB.f f (by simp [Tm.fms])
    have hn26 : n < 26 := by omega
    obtain ⟨g', ps, th', R⟩ := ih b (G.up x f) a (putL l x (mk n)) (n + 1) N (thU th n f) hb ha (hB.up hf fun q hq => by simp [Tm.fms, hq]) hN (by omega) (fun y h hy => by
      rw [lk_put]
      unfold Ctx.up at hy ⊢
      by_cases e : y = x
      · rw [if_pos e] at hy ⊢
        cases hy
        exact ⟨_, rfl, thU_mk, inL_mk hn26⟩
      · rw [if_neg e] at hy ⊢
        obtain ⟨f', h1, h2, h3⟩ := hc y h hy
        exact ⟨f', h1, by rw [thU_old hn26 h3]; exact h2, h3.up (Nat.le_succ n)⟩) (by omega) (hth.up hn26 (by omega))
    have en : n + 1 + b.cnt = n + (b.cnt + 1) := by omega
    have Re := R.e; have Rt := R.t; have Ri := R.il; have Rp := R.pr
    rw [en] at Re Rt Ri Rp
    refine ⟨.bin .to (mk n) g', ps, th', ⟨?_, Rt, fun f2 h2 => ?_, ?_, inL_bin ((inL_mk hn26).up (by simp only [Bt.cnt]; omega)) Ri, Rp, by simp only [Bt.cnt]; have := R.len; omega⟩⟩
    · simp only [gs, if_pos hn26, Re, Bt.cnt]
    · rw [R.old f2 (h2.up (Nat.le_succ n)), thU_old hn26 h2]
    · show Fm.bin .to ((mk n).fill th') (g'.fill th') = _
      rw [R.fl, R.old _ (inL_mk hn26), thU_mk]
  | pair t u i1 i2 =>
    intro b G g l n N th hb ht hB hN hD hc hn hth
    simp only [Tm.bare] at hb
    split at hb
    · rename_i b1 b2 e1 e2
      cases hb
      simp only [Tm.ty] at ht
      split at ht
      · rename_i a ea
        rw [Option.map_eq_some_iff] at ht
        obtain ⟨c, ec, rfl⟩ := ht
        simp only [Bt.cnt] at hn
        simp only [Tm.gr] at hD
        obtain ⟨g1, p1, th1, R1⟩ := i1 b1 G a l n N th e1 ea (hB.sub fun q hq => by simp [Tm.fms, hq]) hN (by omega) hc (by omega) hth
        obtain ⟨g2, p2, th2, R2⟩ := i2 b2 G c l (n + b1.cnt) N th1 e2 ec (hB.sub fun q hq => by simp [Tm.fms, hq]) hN (by omega) (fun y h hy => by
          obtain ⟨f', h1, h2, h3⟩ := hc y h hy
          exact ⟨f', h1, by rw [R1.old _ h3]; exact h2, h3.up (Nat.le_add_right _ _)⟩) (by omega) R1.t
        have en : n + b1.cnt + b2.cnt = n + (b1.cnt + b2.cnt) := by omega
        have Re := R2.e; have Rt := R2.t; have Ri := R2.il; have Rp := R2.pr
        rw [en] at Re Rt Ri Rp
        refine ⟨.bin .both g1 g2, p1 ++ p2, th2, ⟨?_, Rt, fun f h => ?_, ?_, inL_bin (R1.il.up (by simp only [Bt.cnt]; omega)) Ri, fun x y hm => ?_, by rw [List.length_append]; have := R1.len; have := R2.len; simp only [Bt.cnt]; omega⟩⟩
        · simp only [gs, R1.e, Re, Bt.cnt]
        · rw [R2.old f (h.up (Nat.le_add_right _ _)), R1.old f h]
        · show Fm.bin .both (g1.fill th2) (g2.fill th2) = _
          rw [R2.fl, R2.old g1 R1.il, R1.fl]
        · rcases List.mem_append.mp hm with z | z
          · obtain ⟨h1, h2, h3, h4⟩ := R1.pr x y z
            exact ⟨by rw [R2.old _ h2, R2.old _ h3]; exact h1, h2.up (by simp only [Bt.cnt]; omega), h3.up (by simp only [Bt.cnt]; omega), by rw [R2.old _ h2]; exact h4⟩
          · exact Rp x y z
      · cases ht
    · cases hb
  | app t u i1 i2 =>
    intro b G g l n N th hb ht hB hN hD hc hn hth
    simp only [Tm.bare] at hb
    split at hb
    · rename_i b1 b2 e1 e2
      cases hb
      simp only [Tm.ty] at ht
      split at ht
      · rename_i a g0 ea
        split at ht
        · rename_i ec
          cases ht
          simp only [Bt.cnt] at hn
          simp only [Tm.gr] at hD
          have hBt : Tm.TyB N t G := hB.sub fun q hq => by simp [Tm.fms, hq]
          have hgd := (Tm.ty_dep t ea hBt hN).1
          obtain ⟨g1, p1, th1, R1⟩ := i1 b1 G _ l n N th e1 ea hBt hN (by omega) hc (by omega) hth
          obtain ⟨g2, p2, th2, R2⟩ := i2 b2 G a l (n + b1.cnt) N th1 e2 ec (hB.sub fun q hq => by simp [Tm.fms, hq]) hN (by omega) (fun y h hy => by
            obtain ⟨f', h1, h2, h3⟩ := hc y h hy
            exact ⟨f', h1, by rw [R1.old _ h3]; exact h2, h3.up (Nat.le_add_right _ _)⟩) (by omega) R1.t
          have en : n + b1.cnt + b2.cnt = n + (b1.cnt + b2.cnt) := by omega
          have Re := R2.e; have Rt := R2.t; have Ri := R2.il; have Rp := R2.pr
          rw [en] at Re Rt Ri Rp
          have hm26 : n + (b1.cnt + b2.cnt) < 26 := by omega
          have hbc : (Bt.app b1 b2).cnt = b1.cnt + b2.cnt + 1 := rfl
          have hgd0 : g.dep ≤ D := by simp only [Fm.dep] at hgd; omega
          have i1m : inL (n + (b1.cnt + b2.cnt)) g1 := R1.il.up (by omega)
          refine ⟨mk (n + (b1.cnt + b2.cnt)), p1 ++ p2 ++ [(g1, .bin .to g2 (mk (n + (b1.cnt + b2.cnt))))], thU th2 (n + (b1.cnt + b2.cnt)) g, ⟨?_, ?_, fun f h => ?_, thU_mk, ?_, fun x y hm => ?_, ?_⟩⟩
          · simp only [gs, R1.e, Re, if_pos hm26, Bt.cnt]; rfl
          · rw [hbc]; exact Rt.up hm26 hgd0
          · rw [thU_old hm26 (h.up (by omega)), R2.old f (h.up (Nat.le_add_right _ _)), R1.old f h]
          · rw [hbc]; exact inL_mk hm26
          · rw [hbc]
            rcases List.mem_append.mp hm with z | z
            · rcases List.mem_append.mp z with z | z
              · obtain ⟨h1, h2, h3, h4⟩ := R1.pr x y z
                have h2' : inL (n + (b1.cnt + b2.cnt)) x := h2.up (by omega)
                have h3' : inL (n + (b1.cnt + b2.cnt)) y := h3.up (by omega)
                exact ⟨by rw [thU_old hm26 h2', thU_old hm26 h3', R2.old _ h2, R2.old _ h3]; exact h1, h2'.up (Nat.le_succ _), h3'.up (Nat.le_succ _), by rw [thU_old hm26 h2', R2.old _ h2]; exact h4⟩
              · obtain ⟨h1, h2, h3, h4⟩ := Rp x y z
                exact ⟨by rw [thU_old hm26 h2, thU_old hm26 h3]; exact h1, h2.up (Nat.le_succ _), h3.up (Nat.le_succ _), by rw [thU_old hm26 h2]; exact h4⟩
            · have z : x = g1 ∧ y = .bin .to g2 (mk (n + (b1.cnt + b2.cnt))) := by simpa using z
              obtain ⟨rfl, rfl⟩ := z
              have f1 : x.fill (thU th2 (n + (b1.cnt + b2.cnt)) g) = .bin .to a g := by rw [thU_old hm26 i1m, R2.old _ R1.il, R1.fl]
              have f2 : g2.fill (thU th2 (n + (b1.cnt + b2.cnt)) g) = a := by rw [thU_old hm26 Ri, R2.fl]
              refine ⟨?_, i1m.up (Nat.le_succ _), inL_bin (Ri.up (Nat.le_succ _)) (inL_mk hm26), ?_⟩
              · rw [f1]
                show _ = Fm.bin .to (g2.fill _) ((mk _).fill _)
                rw [f2, thU_mk]
              · rw [f1]; omega
          · rw [List.length_append, List.length_append, hbc]
            have := R1.len; have := R2.len
            simp only [List.length_cons, List.length_nil]
            omega
        · cases ht
      · cases ht
    · cases hb
  | fst t ih =>
    intro b G g l n N th hb ht hB hN hD hc hn hth
    simp only [Tm.bare, Option.map_eq_some_iff] at hb
    obtain ⟨b, hb, rfl⟩ := hb
    simp only [Tm.ty] at ht
    split at ht
    · rename_i a c e
      cases ht
      simp only [Bt.cnt] at hn
      simp only [Tm.gr] at hD
      have hBt : Tm.TyB N t G := hB.sub fun q hq => by simp [Tm.fms, hq]
      have hgd := (Tm.ty_dep t e hBt hN).1
      obtain ⟨g1, p1, th1, R1⟩ := ih b G _ l n N th hb e hBt hN (by omega) hc (by omega) hth
      simp only [Fm.dep] at hgd
      have hm : n + b.cnt < 26 := by omega
      have hm2 : n + b.cnt + 1 < 26 := by omega
      have hbc : n + (Bt.fst b).cnt = n + b.cnt + 1 + 1 := by simp only [Bt.cnt]; omega
      have il1 : inL (n + b.cnt + 1) g1 := R1.il.up (Nat.le_succ _)
      refine ⟨mk (n + b.cnt), p1 ++ [(g1, .bin .both (mk (n + b.cnt)) (mk (n + b.cnt + 1)))], thU (thU th1 (n + b.cnt) g) (n + b.cnt + 1) c, ⟨?_, ?_, fun f h => ?_, ?_, ?_, fun x y hm' => ?_, ?_⟩⟩
      · simp only [gs, R1.e, if_pos hm2, hbc]
      · rw [hbc]; exact (R1.t.up hm (by omega)).up hm2 (by omega)
      · have h' : inL (n + b.cnt) f := h.up (Nat.le_add_right _ _)
        rw [thU_old hm2 (h'.up (Nat.le_succ _)), thU_old hm h', R1.old f h]
      · rw [thU_old hm2 (inL_mk hm), thU_mk]
      · rw [hbc]; exact (inL_mk hm).up (Nat.le_succ _)
      · rw [hbc]
        rcases List.mem_append.mp hm' with z | z
        · obtain ⟨h1, h2, h3, h4⟩ := R1.pr x y z
          exact ⟨by rw [thU_old hm2 (h2.up (Nat.le_succ _)), thU_old hm2 (h3.up (Nat.le_succ _)), thU_old hm h2, thU_old hm h3]; exact h1, h2.up (by omega), h3.up (by omega), by rw [thU_old hm2 (h2.up (Nat.le_succ _)), thU_old hm h2]; exact h4⟩
        · have z : x = g1 ∧ y = .bin .both (mk (n + b.cnt)) (mk (n + b.cnt + 1)) := by simpa using z
          obtain ⟨rfl, rfl⟩ := z
          have f1 : x.fill (thU (thU th1 (n + b.cnt) g) (n + b.cnt + 1) c) = .bin .both g c := by rw [thU_old hm2 il1, thU_old hm R1.il, R1.fl]
          refine ⟨?_, il1.up (Nat.le_succ _), inL_bin ((inL_mk hm).up (Nat.le_succ _)) (inL_mk hm2), ?_⟩
          · rw [f1]
            show _ = Fm.bin .both ((mk _).fill _) ((mk _).fill _)
            rw [thU_old hm2 (inL_mk hm), thU_mk, thU_mk]
          · rw [f1]; simp only [Fm.dep]; omega
      · rw [List.length_append]
        have := R1.len
        simp only [List.length_cons, List.length_nil, Bt.cnt]
        omega
    · cases ht
  | snd t ih =>
    intro b G g l n N th hb ht hB hN hD hc hn hth
    simp only [Tm.bare, Option.map_eq_some_iff] at hb
    obtain ⟨b, hb, rfl⟩ := hb
    simp only [Tm.ty] at ht
    split at ht
    · rename_i c a e
      cases ht
      simp only [Bt.cnt] at hn
      simp only [Tm.gr] at hD
      have hBt : Tm.TyB N t G := hB.sub fun q hq => by simp [Tm.fms, hq]
      have hgd := (Tm.ty_dep t e hBt hN).1
      obtain ⟨g1, p1, th1, R1⟩ := ih b G _ l n N th hb e hBt hN (by omega) hc (by omega) hth
      simp only [Fm.dep] at hgd
      have hm : n + b.cnt < 26 := by omega
      have hm2 : n + b.cnt + 1 < 26 := by omega
      have hbc : n + (Bt.snd b).cnt = n + b.cnt + 1 + 1 := by simp only [Bt.cnt]; omega
      have il1 : inL (n + b.cnt + 1) g1 := R1.il.up (Nat.le_succ _)
      refine ⟨mk (n + b.cnt + 1), p1 ++ [(g1, .bin .both (mk (n + b.cnt)) (mk (n + b.cnt + 1)))], thU (thU th1 (n + b.cnt) c) (n + b.cnt + 1) g, ⟨?_, ?_, fun f h => ?_, thU_mk, ?_, fun x y hm' => ?_, ?_⟩⟩
      · simp only [gs, R1.e, if_pos hm2, hbc]
      · rw [hbc]; exact (R1.t.up hm (by omega)).up hm2 (by omega)
      · have h' : inL (n + b.cnt) f := h.up (Nat.le_add_right _ _)
        rw [thU_old hm2 (h'.up (Nat.le_succ _)), thU_old hm h', R1.old f h]
      · rw [hbc]; exact inL_mk hm2
      · rw [hbc]
        rcases List.mem_append.mp hm' with z | z
        · obtain ⟨h1, h2, h3, h4⟩ := R1.pr x y z
          exact ⟨by rw [thU_old hm2 (h2.up (Nat.le_succ _)), thU_old hm2 (h3.up (Nat.le_succ _)), thU_old hm h2, thU_old hm h3]; exact h1, h2.up (by omega), h3.up (by omega), by rw [thU_old hm2 (h2.up (Nat.le_succ _)), thU_old hm h2]; exact h4⟩
        · have z : x = g1 ∧ y = .bin .both (mk (n + b.cnt)) (mk (n + b.cnt + 1)) := by simpa using z
          obtain ⟨rfl, rfl⟩ := z
          have f1 : x.fill (thU (thU th1 (n + b.cnt) c) (n + b.cnt + 1) g) = .bin .both c g := by rw [thU_old hm2 il1, thU_old hm R1.il, R1.fl]
          refine ⟨?_, il1.up (Nat.le_succ _), inL_bin ((inL_mk hm).up (Nat.le_succ _)) (inL_mk hm2), ?_⟩
          · rw [f1]
            show _ = Fm.bin .both ((mk _).fill _) ((mk _).fill _)
            rw [thU_old hm2 (inL_mk hm), thU_mk, thU_mk]
          · rw [f1]; simp only [Fm.dep]; omega
      · rw [List.length_append]
        have := R1.len
        simp only [List.length_cons, List.length_nil, Bt.cnt]
        omega
    · cases ht
  | _ => intro b G g l n N th hb; cases hb
/-- what principal tells of a bare term that is a typed one's -/
structure PrOk (b : Bt) (g : Fm) (g' : Fm) (ps : FP) (n : Nat) (l : Tab) : Prop where
  e : gs b [] 0 = some (g', b.cnt, ps)
  run : runU (LET.take b.cnt) n [] ps.reverse = some (some l)
  safe : SafeU LET (LET.take b.cnt) n [] ps.reverse
  way : ∃ th, (g'.fill (lk l)).fill th = g
  il : inL b.cnt g'
theorem wt_le {th : Str → Option Fm} {D : Nat} : ∀ ps : FP, (∀ a c, (a, c) ∈ ps → (a.fill th).dep ≤ D) → wtU th ps ≤ ps.length * 2 ^ D
  | [], _ => Nat.zero_le _
  | p :: ps, h => by
    have h1 := wt_le ps fun a c hm => h a c (List.mem_cons_of_mem _ hm)
    have h2 := h p.1 p.2 List.mem_cons_self
    have h3 := Fm.sz_le (p.1.fill th)
    have h4 : 2 ^ (p.1.fill th).dep ≤ 2 ^ D := Nat.pow_le_pow_right (by omega) h2
    simp only [wtU, List.map_cons, List.sum_cons, List.length_cons, Nat.succ_mul] at h1 ⊢
    omega
theorem prin_ok {t : Tm} {b : Bt} {g : Fm} {N : Nat} (hb : t.bare = some b) (ht : t.ty (lk []) = some g) (hB : Tm.TyB N t (lk [])) (hN : 1 ≤ N) (hD : N + t.gr ≤ 10) (hn : b.cnt ≤ 26) : ∃ g' ps n l, PrOk b g g' ps n l := by
  obtain ⟨g', ps, th, R⟩ := gs_complete (D := 10) t b (lk []) g [] 0 N (fun _ => none) hb ht hB hN hD (fun x f e => by cases e) (by omega) ⟨fun _ _ => rfl, fun x hx => by simp at hx⟩
  have e0 : 0 + b.cnt = b.cnt := by omega
  have Re := R.e; have Rt := R.t; have Ri := R.il; have Rp := R.pr
  rw [e0] at Re Rt Ri Rp
  have hpr : ∀ a c, (a, c) ∈ ps.reverse → a.fill th = c.fill th ∧ (a.fill th).dep ≤ 10 := fun a c hm => by
    obtain ⟨h1, _, _, h4⟩ := Rp a c (List.mem_reverse.mp hm)
    exact ⟨h1, h4⟩
  have hw := wt_le (th := th) (D := 10) ps.reverse fun a c hm => (hpr a c hm).2
  have hl : ps.reverse.length ≤ 26 := by rw [List.length_reverse]; have := R.len; omega
  have hw2 : wtU th ps.reverse ≤ 26 * 2 ^ 10 := Nat.le_trans hw (Nat.mul_le_mul_right _ hl)
  have sub : ∀ {f : Fm}, inL b.cnt f → ∀ x ∈ f.names, x ∈ LET := fun h x hx => List.mem_of_mem_take (h x hx)
  obtain ⟨n, l, h1, h2, h3⟩ := run_solves (NS := LET) (fr := LET.take b.cnt) Rt.w (by omega) Rt.d _ [] ps.reverse ⟨List.nodup_nil, (fun n hn => nomatch hn), (fun n t hm => nomatch hm), fun a c hm => by
    obtain ⟨_, h2, h3, _⟩ := Rp a c (List.mem_reverse.mp hm)
    exact ⟨sub h2, sub h3⟩⟩ hpr (fun n t hm => nomatch hm) hw2 (by decide)
  exact ⟨g', ps, n, l, ⟨Re, h1, h2, ⟨th, by rw [fill_theta h3]; exact R.fl⟩, Ri⟩⟩
end Sq
set_option Elab.async false
set_option linter.all false
set_option maxRecDepth 100000
set_option maxHeartbeats 2000000
namespace Sq
open PySem PySem.Spec PyProof.Rows L2 RZ
local macro_rules | `(tactic| walk_at "rd") => `(tactic| simp only [tCont, tDisp, tPairs, rIndexS, wipe, tNoPart, tDG2, tDGF, tDInF, tDNInF, sDPutF, tDNewF, rSortD, rInS, rInT, rEqLF, tDcF, tDc2F, tLcF, tForF, tAllF, tAnyF, tSumF, iStr, iEnumF, iZipF, iKeysF, iItems, tLZip, tYes, tSeq, tIfS, tNext, tRet, tRetN, tDrop, tTest, tB, tNot, tAnd, tOr, tChain, tOp, tUn, tCB, tCons, tNil, tC, tVar, tIf, tAndV, tOrV, tNotV, tAsg, tPar, tPar3, gName, gSub, gTupF, gCons, gNil, tTupF, tLstF, rI0, rI, rIxF, rIxG, rIxS, rSetF, rSlF, rCatF, rCatL, rTupL, rListT, rListL, rLenT, rLenL, iTupF, iLstF, rAppF, rExtF, rPopF, tBM, tBM0, tSl, tPart, rEq, rNe, tCall, L2.start,
  List.map_cons, List.map_nil, List.length_cons, List.length_nil, Nat.sub_self, List.replicate, List.append_nil, List.cons_append, List.nil_append, List.getElem?_cons_zero, List.getElem?_cons_succ, List.set_cons_zero, List.set_cons_succ,
  exSl, exI, exI2, exB, exS, exR, ex1, ex1', V.int.injEq, V.bl.injEq, V.ref.injEq, V.str.injEq, Option.some.injEq, List.cons.injEq, and_true, true_and, reduceCtorEq, false_and, and_false, or_false, false_or, exists_false, exists_and_left, exists_eq_left', decide_eq_true_eq, decide_true, decide_false, if_false, if_true, ite_true, ite_false, Bool.false_eq_true, Bool.not_true, Bool.not_false, Nat.reduceAdd, Nat.reduceSub, Nat.zero_add, atI_0, atI_1, atI_2, atI_3, ixN_0, ixN_1, ixN_2, cutV_1, cutV_2, Option.some.injEq, HO.lst.injEq, HO.dK.injEq, scal])
local macro_rules | `(tactic| walk_at "rdc") => `(tactic| simp (config := { contextual := true }) only [tCont, tDisp, tPairs, rIndexS, wipe, tNoPart, tDG2, tDGF, tDInF, tDNInF, sDPutF, tDNewF, rSortD, rInS, rInT, rEqLF, tDcF, tDc2F, tLcF, tForF, tAllF, tAnyF, tSumF, iStr, iEnumF, iZipF, iKeysF, iItems, tLZip, tYes, tSeq, tIfS, tNext, tRet, tRetN, tDrop, tTest, tB, tNot, tAnd, tOr, tChain, tOp, tUn, tCB, tCons, tNil, tC, tVar, tIf, tAndV, tOrV, tNotV, tAsg, tPar, tPar3, gName, gSub, gTupF, gCons, gNil, tTupF, tLstF, rI0, rI, rIxF, rIxG, rIxS, rSetF, rSlF, rCatF, rCatL, rTupL, rListT, rListL, rLenT, rLenL, iTupF, iLstF, rAppF, rExtF, rPopF, tBM, tBM0, tSl, tPart, rEq, rNe, tCall, L2.start,
  List.map_cons, List.map_nil, List.length_cons, List.length_nil, Nat.sub_self, List.replicate, List.append_nil, List.cons_append, List.nil_append, List.getElem?_cons_zero, List.getElem?_cons_succ, List.set_cons_zero, List.set_cons_succ,
  exSl, exI, exI2, exB, exS, exR, ex1, ex1', V.int.injEq, V.bl.injEq, V.ref.injEq, V.str.injEq, Option.some.injEq, List.cons.injEq, and_true, true_and, reduceCtorEq, false_and, and_false, or_false, false_or, exists_false, exists_and_left, exists_eq_left', decide_eq_true_eq, decide_true, decide_false, if_false, if_true, ite_true, ite_false, Bool.false_eq_true, Bool.not_true, Bool.not_false, Nat.reduceAdd, Nat.reduceSub, Nat.zero_add, atI_0, atI_1, atI_2, atI_3, ixN_0, ixN_1, ixN_2, cutV_1, cutV_2, Option.some.injEq, HO.lst.injEq, HO.dK.injEq, scal, *])
section
variable {P : Program} {w : World} {K : PySem.W.Frag} {mg : Str → Option Value} {base : Heap} {f c : Addr} {fd : FuncData} {NS : List Str}
abbrev s_names_of : Stmt := top 9
abbrev n_names_of : List Str := ["formula", "found", "part", "name"]
theorem sc_names_of : FnScope n_names_of ["formula"] (defScope s_names_of) := ⟨rfl, rfl, rfl, by decide +kernel, rfl, by decide +kernel, by decide +kernel⟩
def spNames (K : PySem.W.Frag) (NS : List Str) (k : Nat) : Sp := fun vs H Q _ => ∃ (v : V) (t : Fm), vs = [v] ∧ Td K H v t.data ∧ t.dep ≤ k ∧ (∀ x ∈ t.names, x ∈ NS) ∧ ∀ (p : Addr) (ns : List Str) (H' : Hp), Ext [] H H' → tupF K H' p = some (ns.map V.str) → (∀ x, x ∈ ns ↔ x ∈ t.names) → Q (.ref p) H'
/-- the same, and they rise -/
def spNamesS (K : PySem.W.Frag) (NS : List Str) (k : Nat) : Sp := fun vs H Q _ => ∃ (v : V) (t : Fm), vs = [v] ∧ Td K H v t.data ∧ t.dep ≤ k ∧ (∀ x ∈ t.names, x ∈ NS) ∧ ∀ (p : Addr) (ns : List Str) (H' : Hp), Ext [] H H' → tupF K H' p = some (ns.map V.str) → (∀ x, x ∈ ns ↔ x ∈ t.names) → ns.Nodup → sortedS ns = true → Q (.ref p) H'
theorem Cal.imp {P : Program} {w : World} {K : PySem.W.Frag} {mg : Str → Option Value} {base : Heap} {k : Nat} {x : Str} {sp sp' : Sp} (h : ∀ vs H Q E, sp' vs H Q E → sp vs H Q E) (C : Cal P w K mg base k x sp) : Cal P w K mg base k x sp' := by
  obtain ⟨f, fd, ps, ds, F, r⟩ := C
  exact ⟨f, fd, ps, ds, F.imp h, r⟩
theorem ok_namesS (F : Dn K mg "names_of" s_names_of f fd c) (B : Bl mg) (hN : NsOk NS) : ∀ k, Cal P w K mg base k "names_of" (spNamesS K NS k) := by
  refine F.calRec (ps := ["formula"]) (fun _ _ _ _ _ _ us hl => match us, hl with | [_], _ => rfl) (fun vs H Q E ⟨v, t, _, _, h, _⟩ => by have := t.dep_pos; omega) fun k G_names_of => ?_
  refine F.ok sc_names_of (fun vs H Q E h => ?_) (fun A outer s H vs Q E hr h => ?_)
  · obtain ⟨_, _, rfl, _⟩ := h; rfl
  obtain ⟨v, t, rfl, ht, hd, hns, q⟩ := h
  refine ⟨_, (pss_cons (ps_if (pt_cmpR op_eq (pe_ix (ix_tupK K) (pv 0) pe_int (fun _ _ => rfl)) pe_str (nomark _)) (pss_one (ps_ret (pe_tupK K (pa_cons (pe_ix (ix_tupK K) (pv 0) pe_int (fun _ _ => rfl)) pa_nil)))) pss_nil)
    (pss_cons (ps_setDc2F (i := 1) (own := [("part", 2), ("name", 3)]) (vs1 := [3]) rfl sc_names_of.nd rfl rfl (sw_trueD rfl rfl rfl (by decide +kernel)) (pi_tupK K (pe_slice (sl_tupK K) (pv 0) (po_some pe_int) po_none)) (blkOk_by (own := [("part", 2), ("name", 3)]) (N := n_names_of) (sc := defScope s_names_of) (by decide +kernel)) (by decide) (fun _ _ _ _ _ => (pg_name (i := 2) sc_names_of.nd rfl (by first | exact Or.inl rfl | exact Or.inr rfl))) (fun _ _ _ _ _ => pts_nil) (fun _ _ _ _ _ => (pi_tupK K (C8.pe_c G_names_of hr (by omega) (by rfl) (pa_cons (pv 2) pa_nil)))) (fun _ _ _ _ _ => (pg_name (i := 3) sc_names_of.nd rfl (by first | exact Or.inl rfl | exact Or.inr rfl))) (fun _ _ _ _ _ => pts_nil) (fun _ _ _ _ _ => (pv 3)) (fun _ _ _ _ _ => pe_bl))
    (pss_one (ps_ret (pe_callTy (call_tupleK K) (by rfl) B.b_tuple (by decide +kernel) (pa_cons (pe_callB (call_sortedF rfl) (by rfl) B.b_sorted (by decide +kernel) (pa_cons (pv 1) pa_nil)) pa_nil)))))), ?_⟩
  cases hv : t.isN with
  | true =>
    cases t with
    | name x =>
      obtain ⟨p, rfl, hp⟩ := fd_v ht
      have q' := q
      clear q
      walk_at "rdc"
      refine ⟨by decide, fun p2 H2 e2 h2 => q' p2 [x] H2 e2 h2 (fun y => by simp [Fm.names]) (by simp) rfl⟩
    | _ => cases hv
  | false =>
    obtain ⟨p, ws, rfl, hp, hws⟩ := fd_f hv ht
    have hne := Fm.hd_v hv
    have q' := q
    clear q ht
    walk_at "rdc"
    intro p1 H1 e1 h1
    refine dc2_go walk_tup (fun D i H' => ∃ ks, H' D = some (.dK (trueK ks)) ∧ ks.Nodup ∧ Ext [] H1 H' ∧ ∀ x, x ∈ ks ↔ ∃ j u, j < i ∧ t.args[j]? = some u ∧ x ∈ u.names) (fun D hD => ⟨[], upd_same, List.nodup_nil, Ext.new hD, fun x => by simp⟩)
      (fun D i H' ⟨ks, _, _, e, _⟩ => tupF_sq (tupF_ext e h1)) (fun D i x H' H'' hD hi ⟨ks, hk, nd, e, mem⟩ y => ?_) fun D H' hD ⟨ks, hk, nd, e, mem⟩ => ?_
    · obtain ⟨rfl, hx⟩ := y
      obtain ⟨u, hu, hum, hud⟩ := fd_arg hws hx
      have hsub : ∀ y ∈ u.names, y ∈ NS := fun y hy => hns y (Fm.names_arg hum hy)
      walk_at "rd"
      refine ⟨x, u, rfl, (hud.ext e1).ext e, by have := Fm.dep_arg hum; omega, hsub, fun p2 ns H3 e3 h3 hns3 _ _ => ⟨p2, rfl, _, h3, ?_⟩⟩
      refine dc2_in walk_tup (fun j H' => ∃ ks, H' D = some (.dK (trueK ks)) ∧ ks.Nodup ∧ Ext [] H1 H' ∧ tupF K H' p2 = some (ns.map V.str) ∧ ∀ x, x ∈ ks ↔ (∃ j u, j < i ∧ t.args[j]? = some u ∧ x ∈ u.names) ∨ ∃ m, m < j ∧ ns[m]? = some x)
        ⟨ks, e3.dK0 hk, nd, e.trans e3, h3, fun x => by simp [mem]⟩ (fun j H' ⟨_, _, _, _, h, _⟩ => tupF_sq h) (fun j z H4 H5 hj ⟨ks, hk, nd, e, h, mem⟩ y => ?_) fun H4 ⟨ks, hk, nd, e, h, mem⟩ => ⟨ks, hk, nd, e, fun x => ?_⟩
      · obtain ⟨rfl, hz⟩ := y
        rw [List.getElem?_map] at hz
        cases hn : ns[j]? with
        | none => rw [hn] at hz; cases hz
        | some n =>
          rw [hn] at hz
          cases hz
          walk_at "rd"
          refine ⟨trueK ks, Sum.inr n, rfl, hk, ?_, addK ks n, by rw [put_true]; exact upd_same, nodup_addK nd, e.over hD (Ext.setD List.mem_cons_self hk), tupF_ext (Ext.setD (S := [D]) List.mem_cons_self hk) h, fun x => ?_⟩
          · have := nodup_sub nd (m := NS) fun x hx => (mem x).mp hx |>.elim (fun ⟨j, u, _, h1, h2⟩ => hns x (Fm.names_arg (List.mem_of_getElem? h1) h2)) fun ⟨m, _, h1⟩ => hsub x ((hns3 x).mp (List.mem_of_getElem? h1))
            have := hN.few
            have q : (trueK ks).length = ks.length := by unfold trueK; rw [List.length_map]
            have : (64 : Nat) < sizeLine := by decide
            omega
          · rw [mem_addK, mem]
            constructor
            · rintro ((⟨j0, u0, a1, a2, a3⟩ | ⟨m, h1, h2⟩) | h)
              · exact .inl ⟨j0, a1, u0, a2, a3⟩
              · exact .inr ⟨m, by omega, h2⟩
              · subst h; exact .inr ⟨j, by omega, hn⟩
            · rintro (⟨j0, a1, u0, a2, a3⟩ | ⟨m, h1, h2⟩)
              · exact .inl (.inl ⟨j0, u0, a1, a2, a3⟩)
              · by_cases q : m = j
                · subst q; rw [hn] at h2; exact .inr (Option.some.inj h2).symm
                · exact .inl (.inr ⟨m, by omega, h2⟩)
      · rw [mem]
        constructor
        · rintro (⟨j, u, h1, h2, h3⟩ | ⟨m, h1, h2⟩)
          · exact ⟨j, by omega, u, h2, h3⟩
          · exact ⟨i, by omega, u, hu, (hns3 x).mp (List.mem_of_getElem? h2)⟩
        · rintro ⟨j, h1, u', h2, h3⟩
          by_cases q : j = i
          · subst q
            rw [hu] at h2
            cases h2
            obtain ⟨m, hm, h4⟩ := List.mem_iff_getElem.mp ((hns3 x).mpr h3)
            exact .inr ⟨m, by rw [List.length_map]; exact hm, by rw [List.getElem?_eq_getElem hm, h4]⟩
          · exact .inl ⟨j, u', by omega, h2, h3⟩
    · refine ⟨D, rfl, trueK ks, dctF_dK hk, ks, trueK_keys ks, ?_, fun ys p2 H2 pm sr hp2 e2 h2 p3 H3 e3 h3 => q' p3 ys H3 (((e1.trans e).trans e2).trans e3) h3 (fun x => ?_) (pm.nodup_iff.mpr nd) sr⟩
      · have := nodup_sub nd (m := NS) fun x hx => let ⟨j, u, _, h1, h2⟩ := (mem x).mp hx; hns x (Fm.names_arg (List.mem_of_getElem? h1) h2)
        have := hN.few
        omega
      · rw [pm.mem_iff, mem, Fm.names_args hv]
        constructor
        · rintro ⟨j, u, _, h1, h2⟩
          exact ⟨u, List.mem_of_getElem? h1, h2⟩
        · rintro ⟨u, h1, h2⟩
          obtain ⟨m, hm, h4⟩ := List.mem_iff_getElem.mp h1
          exact ⟨m, u, by have := hws.length; rw [List.length_map] at this; omega, by rw [List.getElem?_eq_getElem hm, h4], h2⟩
theorem ok_names (F : Dn K mg "names_of" s_names_of f fd c) (B : Bl mg) (hN : NsOk NS) (k : Nat) : Cal P w K mg base k "names_of" (spNames K NS k) :=
  Cal.imp (fun vs H Q E ⟨v, t, e, h1, h2, h3, q⟩ => ⟨v, t, e, h1, h2, h3, fun p ns H' e' h4 h5 _ _ => q p ns H' e' h4 h5⟩) (ok_namesS F B hN k)
end
end Sq
set_option Elab.async false
set_option linter.all false
set_option maxRecDepth 100000
set_option maxHeartbeats 4000000
namespace Sq
open PySem PySem.Spec PyProof.Rows L2 RZ
local macro_rules | `(tactic| walk_at "rd") => `(tactic| simp only [tCont, tDisp, tPairs, rIndexS, wipe, tNoPart, tDG2, tDGF, tDInF, tDNInF, sDPutF, tDNewF, rSortD, rInS, rInT, rEqLF, tDcF, tDc2F, tLcF, tForF, tAllF, tAnyF, tSumF, iStr, iEnumF, iZipF, iKeysF, iItems, tLZip, tYes, tSeq, tIfS, tNext, tRet, tRetN, tDrop, tTest, tB, tNot, tAnd, tOr, tChain, tOp, tUn, tCB, tCons, tNil, tC, tVar, tIf, tAndV, tOrV, tNotV, tAsg, tPar, tPar3, gName, gSub, gTupF, gCons, gNil, tTupF, tLstF, rI0, rI, rIxF, rIxG, rIxS, rSetF, rSlF, rCatF, rCatL, rTupL, rListT, rListL, rLenT, rLenL, iTupF, iLstF, rAppF, rExtF, rPopF, tBM, tBM0, tSl, tPart, rEq, rNe, tCall, L2.start,
  List.map_cons, List.map_nil, List.length_cons, List.length_nil, Nat.sub_self, List.replicate, List.append_nil, List.cons_append, List.nil_append, List.getElem?_cons_zero, List.getElem?_cons_succ, List.set_cons_zero, List.set_cons_succ,
  exSl, exI, exI2, exB, exS, exR, ex1, ex1', V.int.injEq, V.bl.injEq, V.ref.injEq, V.str.injEq, Option.some.injEq, List.cons.injEq, and_true, true_and, reduceCtorEq, false_and, and_false, or_false, false_or, exists_false, exists_and_left, exists_eq_left', decide_eq_true_eq, decide_true, decide_false, if_false, if_true, ite_true, ite_false, Bool.false_eq_true, Bool.not_true, Bool.not_false, Nat.reduceAdd, Nat.reduceSub, Nat.zero_add, atI_0, atI_1, atI_2, atI_3, ixN_0, ixN_1, ixN_2, cutV_1, cutV_2, Option.some.injEq, HO.lst.injEq, HO.dK.injEq, scal])
local macro_rules | `(tactic| walk_at "rdc") => `(tactic| simp (config := { contextual := true }) only [tCont, tDisp, tPairs, rIndexS, wipe, tNoPart, tDG2, tDGF, tDInF, tDNInF, sDPutF, tDNewF, rSortD, rInS, rInT, rEqLF, tDcF, tDc2F, tLcF, tForF, tAllF, tAnyF, tSumF, iStr, iEnumF, iZipF, iKeysF, iItems, tLZip, tYes, tSeq, tIfS, tNext, tRet, tRetN, tDrop, tTest, tB, tNot, tAnd, tOr, tChain, tOp, tUn, tCB, tCons, tNil, tC, tVar, tIf, tAndV, tOrV, tNotV, tAsg, tPar, tPar3, gName, gSub, gTupF, gCons, gNil, tTupF, tLstF, rI0, rI, rIxF, rIxG, rIxS, rSetF, rSlF, rCatF, rCatL, rTupL, rListT, rListL, rLenT, rLenL, iTupF, iLstF, rAppF, rExtF, rPopF, tBM, tBM0, tSl, tPart, rEq, rNe, tCall, L2.start,
  List.map_cons, List.map_nil, List.length_cons, List.length_nil, Nat.sub_self, List.replicate, List.append_nil, List.cons_append, List.nil_append, List.getElem?_cons_zero, List.getElem?_cons_succ, List.set_cons_zero, List.set_cons_succ,
  exSl, exI, exI2, exB, exS, exR, ex1, ex1', V.int.injEq, V.bl.injEq, V.ref.injEq, V.str.injEq, Option.some.injEq, List.cons.injEq, and_true, true_and, reduceCtorEq, false_and, and_false, or_false, false_or, exists_false, exists_and_left, exists_eq_left', decide_eq_true_eq, decide_true, decide_false, if_false, if_true, ite_true, ite_false, Bool.false_eq_true, Bool.not_true, Bool.not_false, Nat.reduceAdd, Nat.reduceSub, Nat.zero_add, atI_0, atI_1, atI_2, atI_3, ixN_0, ixN_1, ixN_2, cutV_1, cutV_2, Option.some.injEq, HO.lst.injEq, HO.dK.injEq, scal, *])
/-- the module's constants -/
structure Gc (K : PySem.W.Frag) (mg : Str → Option Value) (aJ : Addr) (uN : Value) : Prop where
  g : mg "JOINS" = some (.ref aJ)
  t : WrT K aJ (joinsT.map V.str)
  n : mg "NAMES" = some uN
  nr : RelV (.str namesT) uN
theorem Gc.at {K : PySem.W.Frag} {mg : Str → Option Value} {aJ : Addr} {uN : Value} (G : Gc K mg aJ uN) (H : Hp) : tupF K H aJ = some (joinsT.map V.str) := tupF_wr G.t
section
variable {P : Program} {w : World} {K : PySem.W.Frag} {mg : Str → Option Value} {base : Heap} {f c aJ : Addr} {uN : Value} {fd : FuncData} {NS : List Str}
abbrev s_laid : Stmt := top 12
abbrev n_laid : List Str := ["formula", "table"]
theorem sc_laid : FnScope n_laid ["formula", "table"] (defScope s_laid) := ⟨rfl, rfl, rfl, by decide +kernel, rfl, by decide +kernel, by decide +kernel⟩
def spLay (K : PySem.W.Frag) (k : Nat) : Sp := fun vs H Q _ => ∃ (v : V) (t : Fm) (a : Addr) (l : Tab), vs = [v, .ref a] ∧ Td K H v t.data ∧ t.dep ≤ k ∧ TabA K H a l ∧ ∀ (v' : V) (H' : Hp), Ext [] H H' → Td K H' v' (t.fill (lk l)).data → Q v' H'
theorem ok_laid (F : Dn K mg "laid" s_laid f fd c) (B : Bl mg) (GJ : Gc K mg aJ uN) : ∀ k, Cal P w K mg base k "laid" (spLay K k) := by
  refine F.calRec (ps := ["formula", "table"]) (fun _ _ _ _ _ _ us hl => match us, hl with | [_, _], _ => rfl) (fun vs H Q E ⟨v, t, _, _, _, _, h, _⟩ => by have := t.dep_pos; omega) fun k G_laid => ?_
  refine F.ok sc_laid (fun vs H Q E h => ?_) (fun A outer s H vs Q E hr h => ?_)
  · obtain ⟨_, _, _, _, rfl, _⟩ := h; rfl
  obtain ⟨v, t, a, l, rfl, ht, hd, hl, q⟩ := h
  refine ⟨_, (pss_cons (ps_if (pt_cmpR op_eq (pe_ix (ix_tupK K) (pv 0) pe_int (fun _ _ => rfl)) pe_str (nomark _)) (pss_one (ps_ret (pe_dget2F (hu_of hr) (pv 1) (pe_ix (ix_tupK K) (pv 0) pe_int (fun _ _ => rfl)) (pv 0) ⟨rfl, rfl, rfl, rfl⟩))) pss_nil)
    (pss_cons (ps_if (pt_cmpR (op_inSK K) (pe_ix (ix_tupK K) (pv 0) pe_int (fun _ _ => rfl)) (pe_glob (v := .ref aJ) (by rfl) GJ.g rfl) (by rfl)) (pss_one (ps_ret (pe_tupK K (pa_cons (pe_ix (ix_tupK K) (pv 0) pe_int (fun _ _ => rfl)) (pa_cons (C8.pe_c G_laid hr (by omega) (by rfl) (pa_cons (pe_ix (ix_tupK K) (pv 0) pe_int (fun _ _ => rfl)) (pa_cons (pv 1) pa_nil))) (pa_cons (C8.pe_c G_laid hr (by omega) (by rfl) (pa_cons (pe_ix (ix_tupK K) (pv 0) pe_int (fun _ _ => rfl)) (pa_cons (pv 1) pa_nil))) pa_nil)))))) pss_nil)
    (pss_one (ps_ret (pv 0))))), ?_⟩
  walk_at "rd"
  obtain ⟨p, ws, rfl, hp⟩ := fd_hd ht
  refine ⟨p, rfl, _, hp, _, atI_0, rfl, ?_⟩
  cases t with
  | name x =>
    rw [if_pos (by rfl)]
    obtain ⟨p', e, hp'⟩ := fd_v ht
    cases e
    obtain ⟨kvs, hk, hr'⟩ := hl
    refine ⟨kvs, hk, p, rfl, _, hp', _, atI_1, x, rfl, kvs, hk, ?_⟩
    rcases hr'.val x with ⟨h1, h2⟩ | ⟨t', v', h1, h2, h3⟩
    · rw [h2]
      exact q _ _ (Ext.refl _ _) (by rw [Fm.fill, h1]; exact ht)
    · rw [h2]
      exact q _ _ (Ext.refl _ _) (by rw [Fm.fill, h1]; exact h3)
  | one =>
    rw [if_neg (fun z => Fm.hd_v (t := .one) rfl (V.str.inj z))]
    refine ⟨p, rfl, _, hp, _, atI_0, _, rfl, joinsT, GJ.at H, ?_⟩
    rw [if_neg (by decide)]
    exact q _ _ (Ext.refl _ _) ht
  | none =>
    rw [if_neg (fun z => Fm.hd_v (t := .none) rfl (V.str.inj z))]
    refine ⟨p, rfl, _, hp, _, atI_0, _, rfl, joinsT, GJ.at H, ?_⟩
    rw [if_neg (by decide)]
    exact q _ _ (Ext.refl _ _) ht
  | bin j s r =>
    obtain ⟨p', x, y, e, hp', hx, hy⟩ := fd_b ht
    cases e
    simp only [Fm.dep] at hd
    rw [if_neg (fun z => Fm.hd_v (t := .bin j s r) rfl (V.str.inj z))]
    refine ⟨p, rfl, _, hp, _, atI_0, _, rfl, joinsT, GJ.at H, ?_⟩
    rw [if_pos (of_decide_eq_true (in_joins (t := .bin j s r)))]
    refine ⟨p, rfl, _, hp', _, atI_0, p, rfl, _, hp', _, atI_1, x, s, a, l, rfl, hx, by omega, hl, fun v1 H1 e1 h1 => ⟨p, rfl, _, tupF_ext e1 hp', _, atI_2, y, r, a, l, rfl, hy.ext e1, by omega, hl.ext0 e1, fun v2 H2 e2 h2 => ⟨by decide, fun p3 H3 e3 h3 => ?_⟩⟩⟩
    exact q _ H3 ((e1.trans e2).trans e3) (.tup h3 (.cons (.str _) (.cons ((h1.ext e2).ext e3) (.cons (h2.ext e3) .nil))))
abbrev s_put : Stmt := top 10
abbrev n_put : List Str := ["formula", "name", "other"]
theorem sc_put : FnScope n_put ["formula", "name", "other"] (defScope s_put) := ⟨rfl, rfl, rfl, by decide +kernel, rfl, by decide +kernel, by decide +kernel⟩
def spPut (K : PySem.W.Frag) (NS : List Str) (k : Nat) : Sp := fun vs H Q _ => ∃ (v u : V) (x : Str) (t o : Fm), vs = [v, .str x, u] ∧ Td K H v t.data ∧ Td K H u o.data ∧ t.dep ≤ k ∧ t.dep ≤ 40 ∧ x ∈ NS ∧ (∀ y ∈ t.names, y ∈ NS) ∧ ∀ (v' : V) (H' : Hp), Ext [] H H' → Td K H' v' (t.fill (one1 x o)).data → Q v' H'
theorem ok_put (F : Dn K mg "put" s_put f fd c) (B : Bl mg) (hN : NsOk NS) (GJ : Gc K mg aJ uN) : ∀ k, Cal P w K mg base k "put" (spPut K NS k) := by
  refine F.calRec (ps := ["formula", "name", "other"]) (fun _ _ _ _ _ _ us hl => match us, hl with | [_, _, _], _ => rfl) (fun vs H Q E ⟨v, u, x, t, o, _, _, _, h, _⟩ => by have := t.dep_pos; omega) fun k G_put => ?_
  refine F.ok sc_put (fun vs H Q E h => ?_) (fun A outer s H vs Q E hr h => ?_)
  · obtain ⟨_, _, _, _, _, rfl, _⟩ := h; rfl
  obtain ⟨v, u, n, t, o, rfl, ht, ho, hd, h40, hn, hns, q⟩ := h
  refine ⟨_, (pss_cons (ps_if (pt_cmpR (op_eqK K hr.units) (pv 0) (pe_tupK K (pa_cons pe_str (pa_cons (pv 1) pa_nil))) (nomark _)) (pss_one (ps_ret (pv 2))) pss_nil)
    (pss_cons (ps_if (pt_cmpR (op_inSK K) (pe_ix (ix_tupK K) (pv 0) pe_int (fun _ _ => rfl)) (pe_glob (v := .ref aJ) (by rfl) GJ.g rfl) (by rfl)) (pss_one (ps_ret (pe_tupK K (pa_cons (pe_ix (ix_tupK K) (pv 0) pe_int (fun _ _ => rfl)) (pa_cons (C8.pe_c G_put hr (by omega) (by rfl) (pa_cons (pe_ix (ix_tupK K) (pv 0) pe_int (fun _ _ => rfl)) (pa_cons (pv 1) (pa_cons (pv 2) pa_nil)))) (pa_cons (C8.pe_c G_put hr (by omega) (by rfl) (pa_cons (pe_ix (ix_tupK K) (pv 0) pe_int (fun _ _ => rfl)) (pa_cons (pv 1) (pa_cons (pv 2) pa_nil)))) pa_nil)))))) pss_nil)
    (pss_one (ps_ret (pv 0))))), ?_⟩
  walk_at "rd"
  refine ⟨by decide, fun p0 H0 e0 h0 => ⟨t.data, (Fm.name n).data, ht.ext e0, .tup h0 (.cons (.str _) (.cons (.str _) .nil)), Fm.shaped hN hns (by omega), Fm.shaped hN (t := .name n) (fun y hy => by
    have : y = n := by simpa [Fm.names] using hy
    rw [this]; exact hn) (by simp [Fm.dep]), _, rfl, ?_⟩⟩
  rw [if_neg Bool.false_ne_true, Fm.eqv_data]
  by_cases htn : t = .name n
  · rw [decide_eq_true htn, if_pos rfl]
    refine q _ _ e0 ?_
    rw [htn]
    show Td K H0 u (((one1 n o) n).getD _).data
    rw [one1_at, if_pos rfl]
    exact ho.ext e0
  · rw [decide_eq_false htn, if_neg (by decide)]
    have ht0 := ht.ext e0
    obtain ⟨p, ws, rfl, hp⟩ := fd_hd ht0
    refine ⟨p, rfl, _, hp, _, atI_0, _, rfl, joinsT, GJ.at H0, ?_⟩
    have keep : t.isB = false → t.fill (one1 n o) = t := fun hb => by
      cases t with
      | name x =>
        refine Fm.fill_id fun y hy => ?_
        have : y = x := by simpa [Fm.names] using hy
        rw [this, one1_at, if_neg (fun z => htn (by rw [z]))]
      | one => rfl
      | none => rfl
      | bin j s r => cases hb
    cases hb : t.isB with
    | false =>
      rw [if_neg (by have := in_joins (t := t); rw [hb] at this; exact of_decide_eq_false this)]
      exact q _ _ e0 (by rw [keep hb]; exact ht0)
    | true =>
      cases t with
      | bin j s r =>
        obtain ⟨p', x, y, e, hp', hx, hy⟩ := fd_b ht0
        cases e
        simp only [Fm.dep] at hd h40
        rw [if_pos (of_decide_eq_true (in_joins (t := .bin j s r)))]
        refine ⟨p, rfl, _, hp', _, atI_0, p, rfl, _, hp', _, atI_1, x, u, n, s, o, rfl, hx, ho.ext e0, by omega, by omega, hn, (fun y hy => hns y (List.mem_append_left _ hy)), fun v1 H1 e1 h1 => ⟨p, rfl, _, tupF_ext e1 hp', _, atI_2, y, u, n, r, o, rfl, hy.ext e1, (ho.ext e0).ext e1, by omega, by omega, hn, (fun y hy => hns y (List.mem_append_right _ hy)), fun v2 H2 e2 h2 => ⟨by decide, fun p3 H3 e3 h3 => ?_⟩⟩⟩
        exact q _ H3 (((e0.trans e1).trans e2).trans e3) (.tup h3 (.cons (.str _) (.cons ((h1.ext e2).ext e3) (.cons (h2.ext e3) .nil))))
      | _ => cases hb
end
end Sq
set_option Elab.async false
set_option linter.all false
set_option maxRecDepth 100000
set_option maxHeartbeats 4000000
namespace Sq
open PySem PySem.Spec PyProof.Rows L2 RZ
local macro_rules | `(tactic| walk_at "rd") => `(tactic| simp only [tCont, tDisp, tPairs, rIndexS, wipe, tNoPart, tDG2, tDGF, tDInF, tDNInF, sDPutF, tDNewF, rSortD, rInS, rInT, rEqLF, tDcF, tDc2F, tLcF, tForF, tAllF, tAnyF, tSumF, iStr, iEnumF, iZipF, iKeysF, iItems, tLZip, tYes, tSeq, tIfS, tNext, tRet, tRetN, tDrop, tTest, tB, tNot, tAnd, tOr, tChain, tOp, tUn, tCB, tCons, tNil, tC, tVar, tIf, tAndV, tOrV, tNotV, tAsg, tPar, tPar3, gName, gSub, gTupF, gCons, gNil, tTupF, tLstF, rI0, rI, rIxF, rIxG, rIxS, rSetF, rSlF, rCatF, rCatL, rTupL, rListT, rListL, rLenT, rLenL, iTupF, iLstF, rAppF, rExtF, rPopF, tBM, tBM0, tSl, tPart, rEq, rNe, tCall, L2.start,
  List.map_cons, List.map_nil, List.length_cons, List.length_nil, Nat.sub_self, List.replicate, List.append_nil, List.cons_append, List.nil_append, List.getElem?_cons_zero, List.getElem?_cons_succ, List.set_cons_zero, List.set_cons_succ,
  exSl, exI, exI2, exB, exS, exR, ex1, ex1', V.int.injEq, V.bl.injEq, V.ref.injEq, V.str.injEq, Option.some.injEq, List.cons.injEq, and_true, true_and, reduceCtorEq, false_and, and_false, or_false, false_or, exists_false, exists_and_left, exists_eq_left', decide_eq_true_eq, decide_true, decide_false, if_false, if_true, ite_true, ite_false, Bool.false_eq_true, Bool.not_true, Bool.not_false, Nat.reduceAdd, Nat.reduceSub, Nat.zero_add, atI_0, atI_1, atI_2, atI_3, ixN_0, ixN_1, ixN_2, cutV_1, cutV_2, Option.some.injEq, HO.lst.injEq, HO.dK.injEq, scal])
local macro_rules | `(tactic| walk_at "rdc") => `(tactic| simp (config := { contextual := true }) only [tCont, tDisp, tPairs, rIndexS, wipe, tNoPart, tDG2, tDGF, tDInF, tDNInF, sDPutF, tDNewF, rSortD, rInS, rInT, rEqLF, tDcF, tDc2F, tLcF, tForF, tAllF, tAnyF, tSumF, iStr, iEnumF, iZipF, iKeysF, iItems, tLZip, tYes, tSeq, tIfS, tNext, tRet, tRetN, tDrop, tTest, tB, tNot, tAnd, tOr, tChain, tOp, tUn, tCB, tCons, tNil, tC, tVar, tIf, tAndV, tOrV, tNotV, tAsg, tPar, tPar3, gName, gSub, gTupF, gCons, gNil, tTupF, tLstF, rI0, rI, rIxF, rIxG, rIxS, rSetF, rSlF, rCatF, rCatL, rTupL, rListT, rListL, rLenT, rLenL, iTupF, iLstF, rAppF, rExtF, rPopF, tBM, tBM0, tSl, tPart, rEq, rNe, tCall, L2.start,
  List.map_cons, List.map_nil, List.length_cons, List.length_nil, Nat.sub_self, List.replicate, List.append_nil, List.cons_append, List.nil_append, List.getElem?_cons_zero, List.getElem?_cons_succ, List.set_cons_zero, List.set_cons_succ,
  exSl, exI, exI2, exB, exS, exR, ex1, ex1', V.int.injEq, V.bl.injEq, V.ref.injEq, V.str.injEq, Option.some.injEq, List.cons.injEq, and_true, true_and, reduceCtorEq, false_and, and_false, or_false, false_or, exists_false, exists_and_left, exists_eq_left', decide_eq_true_eq, decide_true, decide_false, if_false, if_true, ite_true, ite_false, Bool.false_eq_true, Bool.not_true, Bool.not_false, Nat.reduceAdd, Nat.reduceSub, Nat.zero_add, atI_0, atI_1, atI_2, atI_3, ixN_0, ixN_1, ixN_2, cutV_1, cutV_2, Option.some.injEq, HO.lst.injEq, HO.dK.injEq, scal, *])
section
variable {P : Program} {w : World} {K : PySem.W.Frag} {mg : Str → Option Value} {base : Heap} {f c aJ : Addr} {uN : Value} {fd : FuncData} {NS : List Str}
abbrev s_unified : Stmt := top 11
abbrev n_unified : List Str := ["pairs", "free", "table", "left", "one", "other", "name", "what"]
theorem sc_unified : FnScope n_unified ["pairs", "free"] (defScope s_unified) := ⟨rfl, rfl, rfl, by decide +kernel, rfl, by decide +kernel, by decide +kernel⟩
theorem fd_look {H : Hp} {v : V} {t : Fm} (h : Td K H v t.data) : (∃ x p, t = .name x ∧ v = .ref p ∧ tupF K H p = some [.str "name", .str x]) ∨ (t.isN = false ∧ ∃ p ws, v = .ref p ∧ tupF K H p = some (.str t.hd :: ws) ∧ ¬ V.str t.hd = V.str "name" ∧ TdAll K H ws (t.args.map Fm.data)) := by
  cases e : t.isN with
  | false =>
    obtain ⟨p, ws, e1, h1, h2⟩ := fd_f e h
    exact .inr ⟨rfl, p, ws, e1, h1, fun z => Fm.hd_v e (V.str.inj z), h2⟩
  | true =>
    cases t with
    | name x => obtain ⟨p, e1, h1⟩ := fd_v h; exact .inl ⟨x, p, rfl, e1, h1⟩
    | _ => cases e
/-- what the pairs made alike have told -/
def spUniG (K : PySem.W.Frag) (NS : List Str) : Sp := fun vs H Q _ => ∃ (pl pf : Addr) (ys : List V) (prs : FP) (fr : List Str) (N : Nat) (r : Option Tab), vs = [.ref pl, .ref pf] ∧ H pl = some (.lst ys) ∧ TdAll K H ys (prs.map pairD) ∧ tupF K H pf = some (fr.map V.str) ∧ fr.length ≤ 90 ∧ (∀ x ∈ fr, x ∈ NS) ∧ runU fr N [] prs.reverse = some r ∧ SafeU NS fr N [] prs.reverse ∧
  (r = none → ∀ H', Ext [] H H' → Q .non H') ∧ ∀ l, r = some l → UW NS fr l [] → ∀ (a : Addr) (kvs : List (Key × V)) (H' : Hp), Ext [] H H' → H' a = some (.dK kvs) → TabK K H' kvs l → Q (.ref a) H'
/-- the loop's state: turns that are left, the pairs, the table -/
def MW (K : PySem.W.Frag) (NS fr : List Str) (r : Option Tab) (x0 x1 : V) (q : Addr) (H2 : Hp) (m : Nat) (σ : L2.St) (H : Hp) : Prop := ∃ l rl x4 x5 x6 x7 a kvs ys, σ = [some x0, some x1, some (V.ref a), some (V.ref q), x4, x5, x6, x7] ∧ runU fr m l rl = some r ∧ SafeU NS fr m l rl ∧ H a = some (.dK kvs) ∧ TabK K H kvs l ∧ H q = some (.lst ys) ∧ TdAll K H ys (rl.reverse.map pairD) ∧ Ext [] H2 H
theorem ok_unified (F : Dn K mg "unified" s_unified f fd c) (B : Bl mg) (GJ : Gc K mg aJ uN) (hN : NsOk NS) (G_names_of : Cal P w K mg base 64 "names_of" (spNames K NS 64)) (G_laid : Cal P w K mg base 64 "laid" (spLay K 64)) (G_put : Cal P w K mg base 64 "put" (spPut K NS 64)) : Cal P w K mg base 65 "unified" (spUniG K NS) := by
  refine F.cal (ps := ["pairs", "free"]) (fun _ _ _ _ _ _ us hl => match us, hl with | [_, _], _ => rfl) sc_unified (fun vs H Q E h => ?_) (fun A outer s H vs Q E hr h => ?_)
  · obtain ⟨_, _, _, _, _, _, _, rfl, _⟩ := h; rfl
  obtain ⟨pl, pf, ys0, prs, fr, N, r, rfl, hpl, hprs, hpf, hfr, hfN, hrun, hSf, q0, q1⟩ := h
  refine ⟨_, (pss_cons (ps_par (i := 2) (j := 3) (by rfl) sc_unified.nd rfl rfl (by decide) rfl rfl (pa_cons pe_dnewF (pa_cons (pe_callTy call_listL (by rfl) B.b_list (by decide +kernel) (pa_cons (pv 0) pa_nil)) pa_nil)) (by rfl))
    (pss_cons (ps_while PassesOwn.never (pt_cmpR (op_neLK K hr.units) (pv 3) (pe_lstF pa_nil) (nomark _)) (pss_cons (ps_asg (pe_bm0 PySem.F.plainAttrs_list PySem.F.slot_list_pop PySem.F.type_list_pop mt_popF (pv 3)) (pg_tupK K (n := 2) (by rfl) (pgs_cons (pg_name (i := 4) sc_unified.nd rfl (by first | exact Or.inl rfl | exact Or.inr rfl)) (pgs_cons (pg_name (i := 5) sc_unified.nd rfl (by first | exact Or.inl rfl | exact Or.inr rfl)) pgs_nil))))
    (pss_cons (ps_asg (pe_tupK K (pa_cons (C8.pe_c G_laid hr (by omega) (by rfl) (pa_cons (pv 4) (pa_cons (pv 2) pa_nil))) (pa_cons (C8.pe_c G_laid hr (by omega) (by rfl) (pa_cons (pv 5) (pa_cons (pv 2) pa_nil))) pa_nil))) (pg_tupK K (n := 2) (by rfl) (pgs_cons (pg_name (i := 4) sc_unified.nd rfl (by first | exact Or.inl rfl | exact Or.inr rfl)) (pgs_cons (pg_name (i := 5) sc_unified.nd rfl (by first | exact Or.inl rfl | exact Or.inr rfl)) pgs_nil))))
    (pss_cons (ps_if (pt_cmpR (op_eqK K hr.units) (pv 4) (pv 5) (nomark _)) (pss_one ps_continue) pss_nil)
    (pss_cons (ps_if (PW.pt (pw_and (pt_cmpR op_eq (pe_ix (ix_tupK K) (pv 5) pe_int (fun _ _ => rfl)) pe_str (nomark _)) (pw_and (pt_cmpR (op_inSK K) (pe_ix (ix_tupK K) (pv 5) pe_int (fun _ _ => rfl)) (pv 1) (by rfl)) (pw_and1 (pt_not (PW.pt (pw_and (pt_cmpR op_eq (pe_ix (ix_tupK K) (pv 4) pe_int (fun _ _ => rfl)) pe_str (nomark _)) (pw_and1 (pt_cmpR (op_inSK K) (pe_ix (ix_tupK K) (pv 4) pe_int (fun _ _ => rfl)) (pv 1) (by rfl)))))))))) (pss_one (ps_asg (pe_tupK K (pa_cons (pv 5) (pa_cons (pv 4) pa_nil))) (pg_tupK K (n := 2) (by rfl) (pgs_cons (pg_name (i := 4) sc_unified.nd rfl (by first | exact Or.inl rfl | exact Or.inr rfl)) (pgs_cons (pg_name (i := 5) sc_unified.nd rfl (by first | exact Or.inl rfl | exact Or.inr rfl)) pgs_nil))))) pss_nil)
    (PSs.hide (pss_one (ps_if (PW.pt (pw_and (pt_cmpR op_eq (pe_ix (ix_tupK K) (pv 4) pe_int (fun _ _ => rfl)) pe_str (nomark _)) (pw_and1 (pt_cmpR (op_inSK K) (pe_ix (ix_tupK K) (pv 4) pe_int (fun _ _ => rfl)) (pv 1) (by rfl))))) (pss_cons (ps_if (pt_cmpR (op_inSK K) (pe_ix (ix_tupK K) (pv 4) pe_int (fun _ _ => rfl)) (C8.pe_c G_names_of hr (by omega) (by rfl) (pa_cons (pv 5) pa_nil)) (by rfl)) (pss_one (ps_ret pe_non)) pss_nil)
    (pss_cons (ps_lockD (ps_setDcF (i := 2) (own := [("name", 6), ("what", 7)]) rfl sc_unified.nd rfl rfl (sw_trueD rfl rfl rfl (by decide +kernel)) (pi_items (pv 2)) (blkOk_by (own := [("name", 6), ("what", 7)]) (N := n_unified) (sc := defScope s_unified) (by decide +kernel)) (fun _ _ _ _ _ => (pg_tupZ K (n := 2) (by rfl) (pgs_cons (pg_name (i := 6) sc_unified.nd rfl (by first | exact Or.inl rfl | exact Or.inr rfl)) (pgs_cons (pg_name (i := 7) sc_unified.nd rfl (by first | exact Or.inl rfl | exact Or.inr rfl)) pgs_nil)))) (fun _ _ _ _ _ => pts_nil) (fun _ _ _ _ _ => (pv 6)) (fun _ _ _ _ _ => (C8.pe_c G_put hr (by omega) (by rfl) (pa_cons (pv 7) (pa_cons (pe_ix (ix_tupK K) (pv 4) pe_int (fun _ _ => rfl)) (pa_cons (pv 5) pa_nil)))))))
    (pss_one (ps_dputF (hu_of hr) (pv 2) (pe_ix (ix_tupK K) (pv 4) pe_int (fun _ _ => rfl)) (pv 5) rfl)))) (pss_one (ps_if (PW.pt (pw_and (pt_cmpR op_eq (pe_ix (ix_tupK K) (pv 4) pe_int (fun _ _ => rfl)) (pe_ix (ix_tupK K) (pv 5) pe_int (fun _ _ => rfl)) (nomark _)) (pw_and1 (pt_cmpR (op_inSK K) (pe_ix (ix_tupK K) (pv 4) pe_int (fun _ _ => rfl)) (pe_glob (v := .ref aJ) (by rfl) GJ.g rfl) (by rfl))))) (pss_one (ps_expr (pe_bm PySem.F.plainAttrs_list PySem.F.slot_list_extend PySem.F.type_list_extend mt_extF (pv 3) (pa_cons (pe_lstF (pa_cons (pe_tupK K (pa_cons (pe_ix (ix_tupK K) (pv 4) pe_int (fun _ _ => rfl)) (pa_cons (pe_ix (ix_tupK K) (pv 5) pe_int (fun _ _ => rfl)) pa_nil))) (pa_cons (pe_tupK K (pa_cons (pe_ix (ix_tupK K) (pv 4) pe_int (fun _ _ => rfl)) (pa_cons (pe_ix (ix_tupK K) (pv 5) pe_int (fun _ _ => rfl)) pa_nil))) pa_nil))) pa_nil)))) (pss_one (ps_ret pe_non))))))))))))
    (pss_one (ps_ret (pv 2))))), ?_⟩
  walk_at "rd"
  intro p1 H1 n1 e1 h1
  refine ⟨ys0, e1.lst0 hpl, fun p3 H3 n3 e3 h3 => ⟨_, _, ⟨rfl, rfl⟩, ?_⟩⟩
  have e03 := e1.trans e3
  refine ⟨MW K NS fr r (.ref pl) (.ref pf) p3 H1, ⟨N, [], prs.reverse, _, _, _, _, p1, [], ys0, rfl, hrun, hSf, e3.dK0 h1, .nil, h3, by rw [List.reverse_reverse]; exact hprs.ext e03, (Ext.refl [] H1).over n3 (by exact e3.any)⟩, ?_⟩
  rintro m σ' H4 ⟨l, rl, x4, x5, x6, x7, a, kvs, ys, rfl, hm, hS, hk, htk, hys, hall, e4⟩
  obtain ⟨m', rfl⟩ : ∃ m', m = m' + 1 := by
    cases m with
    | zero => cases hm
    | succ m' => exact ⟨m', rfl⟩
  have hUW := hS.1
  have hU := hUW.g
  have hpr : ∀ p ∈ rl.reverse, (∀ x ∈ p.1.names, x ∈ NS) ∧ (∀ x ∈ p.2.names, x ∈ NS) ∧ p.1.dep ≤ 60 ∧ p.2.dep ≤ 60 := fun p hp => by
    obtain ⟨a1, b1⟩ := hU.prs p.1 p.2 (List.mem_reverse.mp hp)
    obtain ⟨a2, b2⟩ := hUW.pd p.1 p.2 (List.mem_reverse.mp hp)
    have := Fm.dep_fill_ge (lk l) p.1
    have := Fm.dep_fill_ge (lk l) p.2
    exact ⟨a1, b1, by omega, by omega⟩
  obtain ⟨sh1, sh2⟩ := pair_shaped hN hpr
  have shl : SeqAt.shaped (.list (rl.reverse.map pairD)) = true := by
    unfold SeqAt.shaped
    rw [PyData.canLay0, sh1, PyData.depth, decide_eq_true (by omega)]
    rfl
  have she : SeqAt.shaped (.list []) = true := by decide +kernel
  have q1' := q1
  have q0' := q0
  clear q0 q1
  walk_at "rd"
  refine ⟨by decide, fun p5 H5 n5 e5 h5 => ⟨ys, e5.lst0 hys, _, h5, _, hall.ext e5, _, .nil, shl, she, ?_⟩⟩
  have e25 := e4.trans e5
  have e05 := e1.trans e25
  cases rl with
  | nil =>
    have er : r = some l := by
      have : runU fr (m' + 1) l [] = some (some l) := rfl
      rw [this] at hm
      exact (Option.some.inj hm).symm
    subst er
    rw [List.reverse_nil, List.map_nil, Fm.eqvAll_nil, if_neg (by decide)]
    exact q1' l rfl hUW a kvs H5 e05 (e5.dK0 hk) (htk.ext e5)
  | cons pr rest =>
    obtain ⟨t, u⟩ := pr
    have hne : PyData.eqvAll (((t, u) :: rest).reverse.map pairD) [] = false := by
      rw [List.reverse_cons, List.map_append]
      cases (rest.reverse.map pairD) with
      | nil => exact Fm.eqvAll_cn _ _
      | cons z zs => exact Fm.eqvAll_cn _ _
    rw [hne, if_pos (by decide)]
    rw [List.reverse_cons, List.map_append] at hall
    obtain ⟨ys', y, rfl, hall', hy⟩ := hall.unsnoc
    refine ⟨fun σ' H' => ∃ m2, m2 < m' + 1 ∧ MW K NS fr r (.ref pl) (.ref pf) p3 H1 m2 σ' H', fun σ' H' h => h, tyV_lst (e5.lst0 hys), _, e5.lst0 hys, y, by simp, fun H6 e6 h6 => ?_⟩
    rw [List.dropLast_concat] at h6
    cases hy with
    | tup hy1 hy2 =>
      cases hy2 with
      | cons ht1 hy2 =>
        cases hy2 with
        | cons hu1 hy2 =>
          cases hy2
          obtain ⟨a1, b1⟩ := hU.prs t u List.mem_cons_self
          obtain ⟨a2, b2⟩ := hUW.pd t u List.mem_cons_self
          have dt := Fm.dep_fill_ge (lk l) t
          have du := Fm.dep_fill_ge (lk l) u
          have e56 := e5.any.trans e6
          have hka : H6 a = some (.dK kvs) := by
            refine e6.dK (e5.dK0 hk) fun z => ?_
            have z' : a = p3 := by simpa using z
            rw [z', hys] at hk
            cases hk
          have hT6 : TabA K H6 a l := ⟨kvs, dctF_dK hka, (htk.ext e5).ext e6⟩
          refine ⟨_, rfl, _, tupF_ext e56 hy1, rfl, _, _, rfl, _, _, rfl, rfl, _, t, a, l, rfl, ht1.ext e56, by omega, hT6, fun v1 H7 e7 h7 => ⟨_, u, a, l, rfl, (hu1.ext e56).ext e7, by omega, hT6.ext0 e7, fun v2 H8 e8 h8 => ⟨by decide, fun p9 H9 e9 h9 => ⟨_, h9, rfl, _, _, rfl, _, _, rfl, rfl, ?_⟩⟩⟩⟩
          have fv1 : Td K H9 v1 (t.fill (lk l)).data := (h7.ext e8).ext e9
          have fv2 : Td K H9 v2 (u.fill (lk l)).data := h8.ext e9
          refine ⟨_, _, fv1, fv2, Fm.shaped hN (fun x hx => (hU.fresh a1 x hx).1) (by omega), Fm.shaped hN (fun x hx => (hU.fresh b1 x hx).1) (by omega), ?_⟩
          refine ⟨_, rfl, ?_⟩
          rw [if_neg Bool.false_ne_true, Fm.eqv_data]
          have hk9 := ((e7.trans e8).trans e9).dK0 hka
          have htk9 := (((htk.ext e5).ext e6).ext (e7.trans e8)).ext e9
          have hys9 := ((e7.trans e8).trans e9).lst0 h6
          have hall9 := (((hall'.ext e5).ext e6).ext (e7.trans e8)).ext e9
          have e29 := (Ext.over e25 n3 e6).trans ((e7.trans e8).trans e9)
          by_cases heq : t.fill (lk l) = u.fill (lk l)
          · rw [if_pos (by simp [heq])]
            refine ⟨m', Nat.lt_succ_self _, l, rest, _, _, _, _, a, kvs, ys', rfl, ?_, (by have h2 := hS.2; have e : stepU fr l ((t, u) :: rest) = .go l rest := (by show stepP fr l rest _ _ = _; unfold stepP; rw [if_pos heq]); rw [e] at h2; exact h2), hk9, htk9, hys9, hall9, e29⟩
            have hm2 : (match stepP fr l rest (t.fill (lk l)) (u.fill (lk l)) with | .out r => some r | .go l rl => runU fr m' l rl) = some r := hm
            unfold stepP at hm2
            rw [if_pos heq] at hm2
            exact hm2
          · rw [if_neg (by simp [heq])]
            have hm2 : (match stepP fr l rest (t.fill (lk l)) (u.fill (lk l)) with | .out r => some r | .go l rl => runU fr m' l rl) = some r := hm
            unfold stepP at hm2
            rw [if_neg heq] at hm2
            have hpf9 : tupF K H9 pf = some (fr.map V.str) := tupF_ext ((((e1.trans e4).trans e5).any.trans e6).trans ((e7.trans e8).trans e9).any) hpf
            generalize hT : hideS _ _ = T
            have tail : ∀ (vp vo : V) (p o : Fm) (Hx : Hp), Ext [] H9 Hx → Td K H9 vp p.data → Td K H9 vo o.data → (∀ y ∈ p.names, y ∈ NS ∧ lk l y = none) → (∀ y ∈ o.names, y ∈ NS ∧ lk l y = none) → p.dep ≤ 40 → o.dep ≤ 40 →
                (match stepQ fr l rest p o with | .out r' => r = r' | .go l' rl' => runU fr m' l' rl' = some r ∧ SafeU NS fr m' l' rl') → T [some (.ref pl), some (.ref pf), some (.ref a), some (.ref p3), some vp, some vo, x6, x7] Hx := by
              intro vp vo p o Hx ex hp ho hpn hon dp dO hq
              subst hT
              rw [hideS_eq]
              walk_at "rd"
              have hpfx := tupF_ext ex hpf9
              replace hp := hp.ext ex
              replace ho := ho.ext ex
              have e2x : Ext [] H Hx := (e1.trans e29).trans ex
              rcases fd_look hp with ⟨x, ap, rfl, rfl, hap⟩ | ⟨hv, ap, wp, rfl, hap, hne, hwp⟩
              · obtain ⟨x1, x2⟩ := hpn x (by simp [Fm.names])
                refine ⟨_, rfl, _, hap, _, atI_0, rfl, ?_⟩
                rw [if_pos rfl]
                refine ⟨_, rfl, _, hap, _, atI_1, x, rfl, fr, hpfx, ?_⟩
                unfold stepQ at hq
                by_cases xf : x ∈ fr
                · rw [if_pos xf]
                  refine ⟨_, rfl, _, hap, _, atI_1, vo, o, rfl, ho, by omega, fun y hy => (hon y hy).1, fun p1 ns Ha ea h1 hns => ⟨x, rfl, p1, rfl, ns, h1, ?_⟩⟩
                  simp only [if_pos xf] at hq
                  by_cases hx : x ∈ o.names
                  · rw [if_pos ((hns x).mpr hx)]
                    have hr0 : r = none := by simpa [hx] using hq
                    subst hr0
                    exact q0' rfl _ (e2x.trans ea)
                  · rw [if_neg fun z => hx ((hns x).mp z)]
                    simp only [if_neg hx] at hq
                    have hk1 : Ha a = some (.dK kvs) := ea.dK0 (ex.dK0 hk9)
                    have htkx := htk9.ext ex
                    have hysx := ex.lst0 hys9
                    have hallx := hall9.ext ex
                    refine ⟨a, kvs, hk1, fun od => ?_⟩
                    walk_at "rd"
                    refine ⟨od, kvs, upd_same, ?_⟩
                    have hloc := Ext.lockD (o := od) hk1
                    have hlen := htkx.length
                    have hlen4 := hU.len
                    refine dc_go walk_items (fun D j ks H' => Ext [] (upd Ha a (.frz od (.dK kvs))) H' ∧ TabK K H' ks ((l.take j).map fun p => (p.1, p.2.fill (one1 x o)))) (fun D' hD => ⟨Ext.new hD, .nil⟩) (fun D' j ks H' ⟨e, _⟩ => e.frz _ _ _ upd_same) (fun D' j z ks H' H'' hD hj ⟨e, htab⟩ hl2 hks y => ?_) fun D' ks H' hD ⟨e, htab⟩ hks hl2 => ?_
                    · refine pair_tgt y fun k v hk' hv' eT => ?_
                      cases hkv : kvs[j]? with
                      | none => rw [hkv] at hk'; cases hk'
                      | some kv =>
                        obtain ⟨key, val⟩ := kv
                        rw [hkv] at hk' hv'
                        cases hk'
                        cases hv'
                        obtain ⟨n, t0, rfl, hlt, htd⟩ := htkx.get hkv
                        have hv1 := hU.vals n t0 (List.mem_of_getElem? hlt)
                        have hv2 := hUW.vd n t0 (List.mem_of_getElem? hlt)
                        have eL := e.trans eT
                        have hapL := tupF_ext eL (tupF_ext hloc (tupF_ext ea hap))
                        walk_at "rd"
                        refine ⟨_, [val], ⟨rfl, rfl⟩, val, [], rfl, rfl, _, hapL, _, atI_1, val, vo, x, t0, o, rfl, ((htd.ext ea).ext hloc).ext eL, ((ho.ext ea).ext hloc).ext eL, by omega, by omega, x1, fun y hy => (hv1 y hy).1, fun v' H5 e5 h5 => ?_⟩
                        have hks5 := e5.dK0 (eT.dK0 hks)
                        have hs1 : (100 : Nat) < sizeLine := by decide
                        have eAll : Ext [] (upd Ha a (.frz od (.dK kvs))) H5 := eL.trans e5
                        have eS : Ext [D'] H5 (upd H5 D' (.dK (putK ks (Sum.inr n) v'))) := Ext.setD List.mem_cons_self hks5
                        refine ⟨ks, Sum.inr n, rfl, hks5, by omega, putK ks (Sum.inr n) v', by have := length_putK ks (Sum.inr n) v'; omega, upd_same, eAll.over hD eS, ?_⟩
                        rw [take_snoc hlt, List.map_append, List.map_singleton, ← putL_fresh (lk_take hU.nd (Fm.fill (one1 x o)) hlt)]
                        exact (((htab.ext eT).ext e5).put h5).ext eS
                    · have hfr' : H' a = some (.frz od (.dK kvs)) := e.frz _ _ _ upd_same
                      have eU := Ext.unlockD hk1 e
                      have hDa : D' ≠ a := fun z => by rw [z, upd_same] at hD; cases hD
                      have hD1 : Ha D' = none := by rw [upd_ne hDa] at hD; exact hD
                      have hs1 : (100 : Nat) < sizeLine := by decide
                      refine ⟨hfr', _, tupF_ext eU (tupF_ext ea hap), _, atI_1, D', rfl, x, rfl, ks, by rw [upd_ne hDa]; exact hks, by omega, fun Hb eb h4 => ?_⟩
                      have e14 : Ext [] Ha Hb := eU.over hD1 eb
                      rw [hlen, List.take_length] at htab
                      exact ⟨m', Nat.lt_succ_self _, bindT l x o, rest, _, _, _, _, D', _, ys', rfl, hq.1, hq.2, h4, (((htab.mapH (tupF_unlock hfr')).put ((ho.ext ea).ext eU))).ext eb, e14.lst0 (ea.lst0 hysx), (hallx.ext ea).ext e14, ((e29.trans ex).trans ea).trans e14⟩
                · rw [if_neg xf]
                  simp only [if_neg xf] at hq
                  subst hq
                  obtain ⟨ao, wo, rfl, hao⟩ := fd_hd ho
                  refine ⟨_, rfl, _, hap, _, atI_0, _, rfl, _, hao, _, atI_0, rfl, ?_⟩
                  refine ite2 (fun _ => ⟨_, rfl, _, hap, _, atI_0, _, rfl, joinsT, GJ.at Hx, ?_⟩) fun _ => q0' rfl _ e2x
                  rw [if_neg (by decide)]
                  exact q0' rfl _ e2x
              · obtain ⟨ao, wo, rfl, hao⟩ := fd_hd ho
                refine ⟨_, rfl, _, hap, _, atI_0, rfl, ?_⟩
                rw [if_neg hne]
                refine ⟨_, rfl, _, hap, _, atI_0, _, rfl, _, hao, _, atI_0, rfl, ?_⟩
                by_cases hh : p.hd = o.hd
                · rw [if_pos (by rw [hh])]
                  refine ⟨_, rfl, _, hap, _, atI_0, _, rfl, joinsT, GJ.at Hx, ?_⟩
                  cases p with
                  | name x => cases hv
                  | one =>
                    rw [if_neg (by decide)]
                    have hr0 : r = none := hq
                    subst hr0
                    exact q0' rfl _ e2x
                  | none =>
                    rw [if_neg (by decide)]
                    have hr0 : r = none := hq
                    subst hr0
                    exact q0' rfl _ e2x
                  | bin j s1 s2 =>
                    rw [if_pos (of_decide_eq_true (in_joins (t := .bin j s1 s2)))]
                    cases o with
                    | name x => exact absurd hh.symm (fun z => Fm.hd_v (t := .bin j s1 s2) rfl z.symm)
                    | one => cases j <;> exact absurd hh (by simp only [Fm.hd, Jn.str]; decide)
                    | none => cases j <;> exact absurd hh (by simp only [Fm.hd, Jn.str]; decide)
                    | bin k t1 t2 =>
                      have hj : j = k := Jn.inj hh
                      unfold stepQ at hq
                      simp only [if_pos hj] at hq
                      subst hj
                      obtain ⟨ap', sp1, sp2, ea1, hap', hs1, hs2⟩ := fd_b hp
                      cases ea1
                      obtain ⟨ao', so1, so2, ea2, hao', ht1', ht2'⟩ := fd_b ho
                      cases ea2
                      refine ⟨tyV_lst (ex.lst0 hys9), _, rfl, _, hap', _, atI_1, _, rfl, _, hao', _, atI_1, by decide, fun pa Ha ea ha => ⟨_, rfl, _, tupF_ext ea hap', _, atI_2, _, rfl, _, tupF_ext ea hao', _, atI_2, by decide, fun pb Hb eb hb => ⟨by decide, fun pc Hc _ ec hc => ?_⟩⟩⟩
                      have ebc := eb.trans ec
                      have eac := ea.trans ebc
                      have exc := ex.trans eac
                      refine ⟨_, exc.lst0 hys9, _, hc, ?_, fun H7 e7 h7 => ?_⟩
                      · have l4 := hall'.length
                        rw [List.length_map, List.length_reverse] at l4
                        have := hUW.cnt
                        rw [List.length_cons] at this
                        have hs1 : (60000 : Nat) < sizeLine := by decide
                        rw [List.length_cons, List.length_cons, List.length_nil]
                        omega
                      · have qa : a ∉ [p3] := fun z => by
                          have z' : a = p3 := by simpa using z
                          rw [z', hys9] at hk9
                          cases hk9
                        refine ⟨m', Nat.lt_succ_self _, l, _, _, _, _, _, a, kvs, _, rfl, hq.1, hq.2, e7.dK (exc.dK0 hk9) qa, (htk9.ext exc).ext e7, h7, ?_, ?_⟩
                        · rw [List.reverse_cons, List.reverse_cons, List.append_assoc, List.map_append]
                          exact ((hall9.ext exc).ext e7).append (.cons (.tup (tupF_ext (ebc.any.trans e7) ha) (.cons ((hs1.ext eac).ext e7) (.cons ((ht1'.ext eac).ext e7) .nil))) (.cons (.tup (tupF_ext (ec.any.trans e7) hb) (.cons ((hs2.ext eac).ext e7) (.cons ((ht2'.ext eac).ext e7) .nil))) .nil))
                        · exact Ext.over (e29.trans exc) n3 e7
                · rw [if_neg (fun z => hh (V.str.inj z))]
                  have hr0 : r = none := by
                    cases p with
                    | name x => cases hv
                    | one => exact hq
                    | none => exact hq
                    | bin j s1 s2 =>
                      cases o with
                      | bin k t1 t2 =>
                        unfold stepQ at hq
                        by_cases hj : j = k
                        · exact absurd (congrArg Jn.str hj) hh
                        · simpa [hj] using hq
                      | _ => exact hq
                  subst hr0
                  exact q0' rfl _ e2x
            have noswap : ¬ ((u.fill (lk l)).isV fr = true ∧ (t.fill (lk l)).isV fr = false) → T [some (.ref pl), some (.ref pf), some (.ref a), some (.ref p3), some v1, some v2, x6, x7] H9 := fun z => by
              rw [if_neg z] at hm2
              exact tail v1 v2 _ _ H9 (Ext.refl _ _) fv1 fv2 (hU.fresh a1) (hU.fresh b1) a2 b2 (stepQ_safe hS (by show stepP fr l rest _ _ = _; unfold stepP; rw [if_neg heq, if_neg z]) hm2)
            have swap : ((u.fill (lk l)).isV fr = true ∧ (t.fill (lk l)).isV fr = false) → ∀ H10, Ext [] H9 H10 → T [some (.ref pl), some (.ref pf), some (.ref a), some (.ref p3), some v2, some v1, x6, x7] H10 := fun z H10 e10 => by
              rw [if_pos z] at hm2
              exact tail v2 v1 _ _ H10 e10 fv2 fv1 (hU.fresh b1) (hU.fresh a1) b2 a2 (stepQ_safe hS (by show stepP fr l rest _ _ = _; unfold stepP; rw [if_neg heq, if_pos z]) hm2)
            rcases fd_look fv2 with ⟨x, p, et, rfl, hp⟩ | ⟨hv, p, ws, rfl, hp, hne, _⟩
            · rw [et] at noswap swap
              refine ⟨p, rfl, _, hp, _, atI_0, rfl, ?_⟩
              rw [if_pos rfl]
              refine ⟨p, rfl, _, hp, _, atI_1, x, rfl, fr, hpf9, ?_⟩
              by_cases hx : x ∈ fr
              · rw [if_pos hx]
                rcases fd_look fv1 with ⟨y, p', et', rfl, hp'⟩ | ⟨hv', p', ws', rfl, hp', hne', _⟩
                · rw [et'] at noswap swap
                  refine ⟨p', rfl, _, hp', _, atI_0, rfl, ?_⟩
                  rw [if_pos rfl]
                  refine ⟨p', rfl, _, hp', _, atI_1, y, rfl, fr, hpf9, ?_⟩
                  by_cases hy : y ∈ fr
                  · rw [if_neg (by simp [hy])]
                    exact noswap fun z => by have := z.2; simp [Fm.isV, hy] at this
                  · rw [if_pos (by simp [hy])]
                    refine ⟨by decide, fun p10 H10 e10 h10 => ⟨_, h10, rfl, _, _, rfl, _, _, rfl, rfl, swap ⟨by simp [Fm.isV, hx], by simp [Fm.isV, hy]⟩ H10 e10⟩⟩
                · refine ⟨p', rfl, _, hp', _, atI_0, rfl, ?_⟩
                  rw [if_neg hne']
                  refine ⟨by decide, fun p10 H10 e10 h10 => ⟨_, h10, rfl, _, _, rfl, _, _, rfl, rfl, swap ⟨by simp [Fm.isV, hx], ?_⟩ H10 e10⟩⟩
                  cases hq : t.fill (lk l) with
                  | name y => rw [hq] at hv'; cases hv'
                  | _ => rfl
              · rw [if_neg hx]
                exact noswap fun z => by have := z.1; simp [Fm.isV, hx] at this
            · refine ⟨p, rfl, _, hp, _, atI_0, rfl, ?_⟩
              rw [if_neg hne]
              refine noswap fun z => ?_
              have z := z.1
              cases hq : u.fill (lk l) with
              | name y => rw [hq] at hv; cases hv
              | _ => rw [hq] at z; cases z
end
end Sq
set_option Elab.async false
set_option linter.all false
set_option maxRecDepth 100000
set_option maxHeartbeats 4000000
namespace Sq
open PySem PySem.Spec PyProof.Rows L2 RZ
local macro_rules | `(tactic| walk_at "rd") => `(tactic| simp only [tCont, tNever, iEnumL, iRng1, rPop0, rTIndex, rKdIx, rKdNin, tDG2, rU, tTIdx, iZipS, rDictC, rDictP, tAugS, ipI, rGetN, tDisp, tPairs, rIndexS, wipe, tNoPart, tDG2, tDGF, tDInF, tDNInF, sDPutF, tDNewF, rSortD, rInS, rInT, rEqLF, tDcF, tDc2F, tLcF, tForF, tAllF, tAnyF, tSumF, iStr, iEnumF, iZipF, iKeysF, iItems, tLZip, tYes, tSeq, tIfS, tNext, tRet, tRetN, tDrop, tTest, tB, tNot, tAnd, tOr, tChain, tOp, tUn, tCB, tCons, tNil, tC, tVar, tIf, tAndV, tOrV, tNotV, tAsg, tPar, tPar3, gName, gSub, gTupF, gCons, gNil, tTupF, tLstF, rI0, rI, rIxF, rIxG, rIxS, rSetF, rSlF, rCatF, rCatL, rTupL, rListT, rListL, rLenT, rLenL, iTupF, iLstF, rAppF, rExtF, rPopF, tBM, tBM0, tSl, tPart, rEq, rNe, tCall, L2.start,
  List.map_cons, List.map_nil, List.length_cons, List.length_nil, Nat.sub_self, List.replicate, List.append_nil, List.cons_append, List.nil_append, List.getElem?_cons_zero, List.getElem?_cons_succ, List.set_cons_zero, List.set_cons_succ,
  exSl, exI, exI2, exB, exS, exR, ex1, ex1', V.int.injEq, V.bl.injEq, V.ref.injEq, V.str.injEq, Option.some.injEq, List.cons.injEq, and_true, true_and, reduceCtorEq, false_and, and_false, or_false, false_or, exists_false, exists_and_left, exists_eq_left', decide_eq_true_eq, decide_true, decide_false, if_false, if_true, ite_true, ite_false, Bool.false_eq_true, Bool.not_true, Bool.not_false, Nat.reduceAdd, Nat.reduceSub, Nat.zero_add, atI_0, atI_1, atI_2, atI_3, ixN_0, ixN_1, ixN_2, cutV_1, cutV_2, Option.some.injEq, HO.lst.injEq, HO.dK.injEq, scal])
local macro_rules | `(tactic| walk_at "rdc") => `(tactic| simp (config := { contextual := true }) only [tCont, tNever, iEnumL, iRng1, rPop0, rTIndex, rKdIx, rKdNin, tDG2, rU, tTIdx, iZipS, rDictC, rDictP, tAugS, ipI, rGetN, tDisp, tPairs, rIndexS, wipe, tNoPart, tDG2, tDGF, tDInF, tDNInF, sDPutF, tDNewF, rSortD, rInS, rInT, rEqLF, tDcF, tDc2F, tLcF, tForF, tAllF, tAnyF, tSumF, iStr, iEnumF, iZipF, iKeysF, iItems, tLZip, tYes, tSeq, tIfS, tNext, tRet, tRetN, tDrop, tTest, tB, tNot, tAnd, tOr, tChain, tOp, tUn, tCB, tCons, tNil, tC, tVar, tIf, tAndV, tOrV, tNotV, tAsg, tPar, tPar3, gName, gSub, gTupF, gCons, gNil, tTupF, tLstF, rI0, rI, rIxF, rIxG, rIxS, rSetF, rSlF, rCatF, rCatL, rTupL, rListT, rListL, rLenT, rLenL, iTupF, iLstF, rAppF, rExtF, rPopF, tBM, tBM0, tSl, tPart, rEq, rNe, tCall, L2.start,
  List.map_cons, List.map_nil, List.length_cons, List.length_nil, Nat.sub_self, List.replicate, List.append_nil, List.cons_append, List.nil_append, List.getElem?_cons_zero, List.getElem?_cons_succ, List.set_cons_zero, List.set_cons_succ,
  exSl, exI, exI2, exB, exS, exR, ex1, ex1', V.int.injEq, V.bl.injEq, V.ref.injEq, V.str.injEq, Option.some.injEq, List.cons.injEq, and_true, true_and, reduceCtorEq, false_and, and_false, or_false, false_or, exists_false, exists_and_left, exists_eq_left', decide_eq_true_eq, decide_true, decide_false, if_false, if_true, ite_true, ite_false, Bool.false_eq_true, Bool.not_true, Bool.not_false, Nat.reduceAdd, Nat.reduceSub, Nat.zero_add, atI_0, atI_1, atI_2, atI_3, ixN_0, ixN_1, ixN_2, cutV_1, cutV_2, Option.some.injEq, HO.lst.injEq, HO.dK.injEq, scal, *])
section
variable {P : Program} {w : World} {K : PySem.W.Frag} {mg : Str → Option Value} {base : Heap} {f c aT : Addr} {fd : FuncData} {NS : List Str}
theorem atI_ltr {n : Nat} (h : n < 26) : ∃ c, atI (Str.ofString "abcdefghijklmnopqrstuvwxyz").cps.toList ((n : Nat) : Int) = some c ∧ ltr n = ⟨#[c]⟩ := by
  have key : ∀ n : Fin 26, (Str.ofString "abcdefghijklmnopqrstuvwxyz").cps.toList[n.1]? = some (97 + n.1) ∧ ltr n.1 = ⟨#[97 + n.1]⟩ := by decide +kernel
  obtain ⟨h1, h2⟩ := key ⟨n, h⟩
  exact ⟨97 + n, atI_nat h1, h2⟩
abbrev s_mark : Stmt := top 22
abbrev n_mark : List Str := ["k", "letters"]
theorem sc_mark : FnScope n_mark ["k"] (defScope s_mark) := ⟨rfl, rfl, rfl, by decide +kernel, rfl, by decide +kernel, by decide +kernel⟩
def spMark (aT : Addr) : Sp := fun vs H Q E => ∃ n : Nat, vs = [.int (n : Nat)] ∧ (n < 26 → Q (.str (ltr n)) H) ∧ (26 ≤ n → E (.ref aT) none H)
theorem ok_mark (F : Dn K mg "mark" s_mark f fd c) (B : Bl mg) (X_BadType : Xc K mg "BadType" aT) : CalX P w K mg base 1 "mark" (spMark aT) := by
  refine F.calX (ps := ["k"]) (fun _ _ _ _ _ _ us hl => match us, hl with | [_], _ => rfl) sc_mark (fun vs H Q E h => ?_) (fun A outer s H vs Q E hr h => ?_)
  · obtain ⟨_, rfl, _⟩ := h; rfl
  obtain ⟨n, rfl, q, qe⟩ := h
  refine ⟨_, (pss_cons (ps_set (i := 1) sc_mark.nd rfl (by first | exact Or.inl rfl | exact Or.inr rfl) pe_str)
    (pss_cons (ps_if (pt_cmpR op_ge (pv 0) (pe_callB call_len_str (by rfl) B.b_len (by decide +kernel) (pa_cons (pv 1) pa_nil)) (nomark _)) (pss_one (ps_raiseX X_BadType (takes_of rfl rfl rfl rfl))) pss_nil)
    (pss_one (ps_ret (pe_ix ix_str (pv 1) (pv 0) (fun _ _ => rfl)))))), ?_⟩
  walk_at "rd"
  have hL : (Str.ofString "abcdefghijklmnopqrstuvwxyz").length = 26 := by decide +kernel
  have hz : (100000 : Nat) ≤ sizeLine := by decide
  refine ⟨by omega, ?_⟩
  rw [hL]
  by_cases hn : n < 26
  · rw [if_neg (by omega)]
    obtain ⟨c, h1, h2⟩ := atI_ltr hn
    refine ⟨by omega, c, h1, ?_⟩
    rw [← h2]
    exact q hn
  · rw [if_pos (by omega)]
    exact qe (by omega)
abbrev s_new_type : Stmt := top 24
abbrev n_new_type : List Str := ["count"]
theorem sc_new_type : FnScope n_new_type ["count"] (defScope s_new_type) := ⟨rfl, rfl, rfl, by decide +kernel, rfl, by decide +kernel, by decide +kernel⟩
def spNew (K : PySem.W.Frag) (aT : Addr) : Sp := fun vs H Q E => ∃ (a : Addr) (n : Nat), vs = [.ref a] ∧ H a = some (.lst [.int (n : Nat)]) ∧ (n < 26 → ∀ v' H', Ext [a] H H' → H' a = some (.lst [.int ((n + 1 : Nat))]) → Td K H' v' (mk n).data → Q v' H') ∧ (26 ≤ n → ∀ H', Ext [a] H H' → E (.ref aT) none H')
theorem ok_new (F : Dn K mg "new_type" s_new_type f fd c) (B : Bl mg) (G_mark : CalX P w K mg base 1 "mark" (spMark aT)) : CalX P w K mg base 2 "new_type" (spNew K aT) := by
  refine F.calX (ps := ["count"]) (fun _ _ _ _ _ _ us hl => match us, hl with | [_], _ => rfl) sc_new_type (fun vs H Q E h => ?_) (fun A outer s H vs Q E hr h => ?_)
  · obtain ⟨_, _, rfl, _⟩ := h; rfl
  obtain ⟨a, n, rfl, ha, q, qe⟩ := h
  refine ⟨_, (pss_cons (ps_augS (pv 0) pe_int get_lstN pe_int ip_add set_lstF)
    (pss_one (ps_ret (pe_tupK K (pa_cons pe_str (pa_cons (pe_cX G_mark hr (by omega) (takes_of rfl rfl rfl rfl) (fun _ _ _ _ h => h) (by rfl) (pa_cons (pe_op op_sub (pe_ix ix_lstF (pv 0) pe_int (fun _ _ => rfl)) pe_int) pa_nil)) pa_nil)))))), ?_⟩
  walk_at "rd"
  refine ⟨_, ha, Int.le_refl _, _, rfl, _, rfl, _, ha, 0, rfl, fun H2 e2 h2 => ⟨_, h2, _, atI_0, _, rfl, n, by rw [Int.add_sub_cancel], fun hn => ⟨by decide, fun p H3 e3 h3 => ?_⟩, fun hn => qe hn H2 e2⟩⟩
  have hn1 : ((n : Int) + 1) = ((n + 1 : Nat) : Int) := by omega
  rw [hn1] at h2
  refine q hn _ H3 (e2.trans e3.any) (e3.lst0 h2) (.tup h3 (.cons (.str _) (.cons (.str _) .nil)))
/-! ### guess -/
abbrev s_guess : Stmt := top 23
abbrev n_guess : List Str := ["bare", "context", "count", "pairs", "kind", "one", "other", "what", "left", "right"]
theorem sc_guess : FnScope n_guess ["bare", "context", "count", "pairs"] (defScope s_guess) := ⟨rfl, rfl, rfl, by decide +kernel, rfl, by decide +kernel, by decide +kernel⟩
structure GsA (K : PySem.W.Frag) (H : Hp) (v : V) (b cn pr : Addr) (t : Bt) (l : Tab) (n : Nat) (ys : List V) (ps : FP) : Prop where
  tt : Td K H v t.data
  ll : TabD K H b l
  few : l.length + t.dep ≤ 900
  hc : H cn = some (.lst [.int (n : Nat)])
  hp : H pr = some (.lst ys)
  hy : TdAll K H ys (ps.map pairD)
  ne : cn ≠ pr
  n26 : n ≤ 26
  len : ps.length ≤ n
def spGs (K : PySem.W.Frag) (aT : Addr) (k : Nat) : Sp := fun vs H Q E => ∃ (v : V) (b cn pr : Addr) (t : Bt) (l : Tab) (n : Nat) (ys : List V) (ps0 : FP), vs = [v, .ref b, .ref cn, .ref pr] ∧ GsA K H v b cn pr t l n ys ps0 ∧ t.dep + 2 ≤ k ∧
  (∀ g m ps, gs t l n = some (g, m, ps) → ∀ v' H' zs', Ext [cn, pr] H H' → GsA K H' v b cn pr t l m zs' (ps0 ++ ps) → Td K H' v' g.data → Q v' H') ∧ (gs t l n = none → ∀ H', Ext [cn, pr] H H' → E (.ref aT) none H')
theorem lst_dK {H : Hp} {a b : Addr} {xs : List V} {l : Tab} (h : TabD K H b l) (k : H a = some (.lst xs)) : b ≠ a := fun e => by
  obtain ⟨kvs, h, _⟩ := h
  rw [e, k] at h
  cases h
theorem td_s1 {H : Hp} {v : V} {a : Str} {d : PyData} (h : Td K H v (.tuple [.str a, d])) : ∃ p x, v = .ref p ∧ tupF K H p = some [.str a, x] ∧ Td K H x d := by
  cases h with
  | tup e r => cases r with
    | cons h1 r => cases r with
      | cons h2 r => cases r; cases h1; exact ⟨_, _, rfl, e, h2⟩
theorem td_s2 {H : Hp} {v : V} {a : Str} {d d' : PyData} (h : Td K H v (.tuple [.str a, d, d'])) : ∃ p x y, v = .ref p ∧ tupF K H p = some [.str a, x, y] ∧ Td K H x d ∧ Td K H y d' := by
  cases h with
  | tup e r => cases r with
    | cons h1 r => cases r with
      | cons h2 r => cases r with
        | cons h3 r => cases r; cases h1; exact ⟨_, _, _, rfl, e, h2, h3⟩
section
variable {H H' : Hp} {v w' : V} {b b' cn pr : Addr} {t u : Bt} {l : Tab} {n m : Nat} {ys zs' : List V} {ps ps' : FP}
theorem GsA.nb (h : GsA K H v b cn pr t l n ys ps) : b ∉ [cn, pr] := fun z => by
  simp only [List.mem_cons, List.not_mem_nil, or_false] at z
  rcases z with z | z
  · exact lst_dK h.ll h.hc z
  · exact lst_dK h.ll h.hp z
theorem GsA.sub (h : GsA K H v b cn pr t l n ys ps) (hu : Td K H w' u.data) (hd : u.dep ≤ t.dep) : GsA K H w' b cn pr u l n ys ps := { h with tt := hu, few := by have := h.few; omega }
theorem GsA.ext0 (h : GsA K H v b cn pr t l n ys ps) (e : Ext [] H H') : GsA K H' v b cn pr t l n ys ps := { h with tt := h.tt.ext e, ll := h.ll.ext0 e, hc := e.lst0 h.hc, hp := e.lst0 h.hp, hy := h.hy.ext e }
theorem GsA.count (h : GsA K H v b cn pr t l n ys ps) (hn : n < 26) (e : Ext [cn] H H') (hc : H' cn = some (.lst [.int ((n + 1 : Nat))])) : GsA K H' v b cn pr t l (n + 1) ys ps :=
  { h with tt := h.tt.ext e, ll := h.ll.ext e (fun z => h.nb (by simp only [List.mem_singleton] at z; simp [z])), hc := hc, hp := e.lst h.hp (fun z => h.ne (by simpa using z : pr = cn).symm), hy := h.hy.ext e, n26 := by omega, len := by have := h.len; omega }
theorem GsA.ctx {x : Str} {f : Fm} (h : GsA K H v b cn pr t l n ys ps) (e : Ext [] H H') (hl : TabD K H' b' (putL l x f)) (hw : Td K H' w' u.data) (hd : u.dep + 1 ≤ t.dep) : GsA K H' w' b' cn pr u (putL l x f) n ys ps :=
  { h with tt := hw, ll := hl, hc := e.lst0 h.hc, hp := e.lst0 h.hp, hy := h.hy.ext e, few := by have := h.few; have := putL_len l x f; omega }
theorem GsA.back {l' : Tab} (h : GsA K H v b cn pr t l n ys ps) (e : Ext [cn, pr] H H') (r : GsA K H' w' b' cn pr u l' m zs' ps') : GsA K H' v b cn pr t l m zs' ps' :=
  { r with tt := h.tt.ext e, ll := h.ll.ext e h.nb, few := h.few }
theorem GsA.app {x : V} {z : Fm × Fm} (h : GsA K H v b cn pr t l n ys ps) (e : Ext [pr] H H') (hp : H' pr = some (.lst (ys ++ [x]))) (hx : Td K H' x (pairD z)) (hl : ps.length + 1 ≤ n) : GsA K H' v b cn pr t l n (ys ++ [x]) (ps ++ [z]) :=
  { h with tt := h.tt.ext e, ll := h.ll.ext e (fun z => h.nb (by simp only [List.mem_singleton] at z; simp [z])), hc := e.lst h.hc (fun z => h.ne (by simpa using z)), hp := hp, hy := by rw [List.map_append]; exact (h.hy.ext e).append (.cons hx .nil), len := by rw [List.length_append]; exact hl }
end
theorem step_gs (F : Dn K mg "guess" s_guess f fd c) (B : Bl mg) (X_BadType : Xc K mg "BadType" aT) (G_new_type : CalX P w K mg base 2 "new_type" (spNew K aT)) (G_with_name : Cal P w K mg base 1 "with_name" (spWith K)) (k : Nat) (hk2 : 2 ≤ k) (G_guess : CalX P w K mg base k "guess" (spGs K aT k)) :
    FnOk P w K mg base (L2.CX P w) (k + 1) f fd ["bare", "context", "count", "pairs"] (spGs K aT (k + 1)) := by
  refine F.okX sc_guess (fun vs H Q E h => ?_) (fun A outer s H vs Q E hr h => ?_)
  · obtain ⟨_, _, _, _, _, _, _, _, _, rfl, _⟩ := h; rfl
  obtain ⟨v, b, cn, pr, t, l, n, zs, ps0, rfl, ha, hd, q, qe⟩ := h
  refine ⟨_, (pss_cons (ps_set (i := 4) sc_guess.nd rfl (by first | exact Or.inl rfl | exact Or.inr rfl) (pe_ix (ix_tupK K) (pv 0) pe_int (fun _ _ => rfl)))
    (pss_cons (ps_if (pt_cmpR op_eq (pv 4) pe_str (nomark _)) (pss_cons (ps_if (pt_cmp (pc_dnotinF (hu_of hr) (pe_ix (ix_tupK K) (pv 0) pe_int (fun _ _ => rfl)) (pv 1))) (pss_one (ps_raiseX X_BadType (takes_of rfl rfl rfl rfl))) pss_nil)
    (pss_one (ps_ret (pe_dgetF (hu_of hr) (pv 1) (pe_ix (ix_tupK K) (pv 0) pe_int (fun _ _ => rfl)) (fun _ _ => rfl))))) pss_nil)
    (pss_cons (ps_if (pt_cmpR op_eq (pv 4) pe_str (nomark _)) (pss_cons (ps_set (i := 5) sc_guess.nd rfl (by first | exact Or.inl rfl | exact Or.inr rfl) (pe_cX G_new_type hr (by omega) (takes_of rfl rfl rfl rfl) (fun _ _ _ _ h => h) (by rfl) (pa_cons (pv 2) pa_nil)))
    (pss_one (ps_ret (pe_tupK K (pa_cons pe_str (pa_cons (pv 5) (pa_cons (pe_cX G_guess hr (by omega) (takes_of rfl rfl rfl rfl) (fun _ _ _ _ h => h) (by rfl) (pa_cons (pe_ix (ix_tupK K) (pv 0) pe_int (fun _ _ => rfl)) (pa_cons (C8.pe_c G_with_name hr (by omega) (by rfl) (pa_cons (pv 1) (pa_cons (pe_ix (ix_tupK K) (pv 0) pe_int (fun _ _ => rfl)) (pa_cons (pv 5) pa_nil)))) (pa_cons (pv 2) (pa_cons (pv 3) pa_nil))))) pa_nil))))))) pss_nil)
    (pss_cons (ps_set (i := 5) sc_guess.nd rfl (by first | exact Or.inl rfl | exact Or.inr rfl) (pe_cX G_guess hr (by omega) (takes_of rfl rfl rfl rfl) (fun _ _ _ _ h => h) (by rfl) (pa_cons (pe_ix (ix_tupK K) (pv 0) pe_int (fun _ _ => rfl)) (pa_cons (pv 1) (pa_cons (pv 2) (pa_cons (pv 3) pa_nil))))))
    (pss_cons (ps_if (pt_cmpR op_eq (pv 4) pe_str (nomark _)) (pss_one (ps_ret (pe_tupK K (pa_cons pe_str (pa_cons (pv 5) (pa_cons (pe_cX G_guess hr (by omega) (takes_of rfl rfl rfl rfl) (fun _ _ _ _ h => h) (by rfl) (pa_cons (pe_ix (ix_tupK K) (pv 0) pe_int (fun _ _ => rfl)) (pa_cons (pv 1) (pa_cons (pv 2) (pa_cons (pv 3) pa_nil))))) pa_nil)))))) pss_nil)
    (pss_cons (ps_if (pt_cmpR op_eq (pv 4) pe_str (nomark _)) (pss_cons (ps_par (i := 6) (j := 7) (by rfl) sc_guess.nd rfl rfl (by decide) rfl rfl (pa_cons (pe_cX G_guess hr (by omega) (takes_of rfl rfl rfl rfl) (fun _ _ _ _ h => h) (by rfl) (pa_cons (pe_ix (ix_tupK K) (pv 0) pe_int (fun _ _ => rfl)) (pa_cons (pv 1) (pa_cons (pv 2) (pa_cons (pv 3) pa_nil))))) (pa_cons (pe_cX G_new_type hr (by omega) (takes_of rfl rfl rfl rfl) (fun _ _ _ _ h => h) (by rfl) (pa_cons (pv 2) pa_nil)) pa_nil)) (by rfl))
    (pss_cons (ps_expr (pe_bm PySem.F.plainAttrs_list PySem.F.slot_list_append PySem.F.type_list_append mt_appF (pv 3) (pa_cons (pe_tupK K (pa_cons (pv 5) (pa_cons (pe_tupK K (pa_cons pe_str (pa_cons (pv 6) (pa_cons (pv 7) pa_nil)))) pa_nil))) pa_nil)))
    (pss_one (ps_ret (pv 7))))) pss_nil)
    (pss_cons (ps_par (i := 8) (j := 9) (by rfl) sc_guess.nd rfl rfl (by decide) rfl rfl (pa_cons (pe_cX G_new_type hr (by omega) (takes_of rfl rfl rfl rfl) (fun _ _ _ _ h => h) (by rfl) (pa_cons (pv 2) pa_nil)) (pa_cons (pe_cX G_new_type hr (by omega) (takes_of rfl rfl rfl rfl) (fun _ _ _ _ h => h) (by rfl) (pa_cons (pv 2) pa_nil)) pa_nil)) (by rfl))
    (pss_cons (ps_expr (pe_bm PySem.F.plainAttrs_list PySem.F.slot_list_append PySem.F.type_list_append mt_appF (pv 3) (pa_cons (pe_tupK K (pa_cons (pv 5) (pa_cons (pe_tupK K (pa_cons pe_str (pa_cons (pv 8) (pa_cons (pv 9) pa_nil)))) pa_nil))) pa_nil)))
    (pss_one (ps_ret (pe_ifExp (pt_cmpR op_eq (pv 4) pe_str (nomark _)) (pv 8) (pv 9)))))))))))), ?_⟩
  walk_at "rd"
  have two : ∀ {S : Addr} {H1 H2 : Hp}, S = cn ∨ S = pr → Ext [S] H1 H2 → Ext [cn, pr] H1 H2 := fun hs e => e.mono fun b hb => by
    rw [show b = _ from (by simpa using hb)]
    rcases hs with h | h <;> simp [h]
  cases t with
  | var x =>
    obtain ⟨p, y, rfl, hp, hy⟩ := td_s1 ha.tt
    cases hy
    obtain ⟨kvs, hk, hr'⟩ := ha.ll
    refine ⟨p, rfl, _, hp, _, atI_0, rfl, ys ⟨p, rfl, _, hp, _, atI_1, x, rfl, kvs, dctF_dK hk, ?_⟩⟩
    rcases hr'.val x with ⟨k1, k2⟩ | ⟨g, v', k1, k2, k3⟩
    · rw [if_pos (by rw [k2]; rfl)]
      exact qe (by simp only [gs, k1]) H (Ext.refl _ _)
    · rw [if_neg (by rw [k2]; simp)]
      exact ⟨p, rfl, _, hp, _, atI_1, x, rfl, kvs, dctF_dK hk, v', k2, q g n [] (by simp only [gs, k1]) v' H _ (Ext.refl _ _) (by rw [List.append_nil]; exact ha) k3⟩
  | fn x t =>
    obtain ⟨p, y, z, rfl, hp, hy, hz⟩ := td_s2 ha.tt
    cases hy
    simp only [Bt.dep] at hd
    refine ⟨p, rfl, _, hp, _, atI_0, rfl, no (a := "fun") (by decide +kernel) ⟨rfl, ys ⟨cn, n, rfl, ha.hc, fun hn v1 H1 e1 h1 d1 => ?_, fun hn H1 e1 => qe (by simp only [gs]; rw [if_neg (by omega)]) H1 (two (.inl rfl) e1)⟩⟩⟩
    have a1 := ha.count hn e1 h1
    have hp1 := tupF_ext e1 hp
    refine ⟨p, rfl, _, hp1, _, atI_2, p, rfl, _, hp1, _, atI_1, b, x, v1, l, mk n, rfl, a1.ll.a, d1, by have := ha.few; omega, fun b2 H2 n2 e2 h2 => ?_⟩
    have a2 := a1.ctx e2 h2 ((hz.ext e1).ext e2) (u := t) (by simp only [Bt.dep]; omega)
    refine ⟨_, b2, cn, pr, t, _, n + 1, zs, ps0, rfl, a2, by omega, fun g m ps hg v3 H3 ys3 e3 a3 d3 => ⟨by decide, fun p4 H4 e4 h4 => ?_⟩, fun hg H3 e3 => qe (by simp only [gs]; rw [if_pos hn, hg]) H3 ((two (.inl rfl) e1).trans (e2.any.trans e3))⟩
    have eA := (two (.inl rfl) e1).trans (e2.any.trans e3)
    refine q (.bin .to (mk n) g) m ps (by simp only [gs]; rw [if_pos hn, hg]) _ H4 ys3 (eA.trans e4.any) ((ha.back eA a3).ext0 e4) (.tup h4 (.cons (.str _) (.cons (((d1.ext e2).ext e3).ext e4) (.cons (d3.ext e4) .nil))))
  | pair t u =>
    obtain ⟨p, y, z, rfl, hp, hy, hz⟩ := td_s2 ha.tt
    simp only [Bt.dep] at hd
    refine ⟨p, rfl, _, hp, _, atI_0, rfl, no (a := "pair") (by decide +kernel) ⟨rfl, no (a := "pair") (by decide +kernel) ?_⟩⟩
    refine ⟨p, rfl, _, hp, _, atI_1, _, b, cn, pr, t, l, n, zs, ps0, rfl, ha.sub hy (by simp only [Bt.dep]; omega), by omega, fun g1 m1 p1 hg1 v1 H1 ys1 e1 a1 d1 => ?_, fun hg H1 e1 => qe (by simp only [gs, hg]) H1 e1⟩
    have b1 := ha.back e1 a1
    have hp1 := tupF_ext e1 hp
    refine ⟨rfl, ys ⟨p, rfl, _, hp1, _, atI_2, _, b, cn, pr, u, l, m1, ys1, _, rfl, b1.sub (hz.ext e1) (by simp only [Bt.dep]; omega), by omega, fun g2 m2 p2 hg2 v2 H2 ys2 e2 a2 d2 => ⟨by decide, fun p4 H4 e4 h4 => ?_⟩, fun hg H2 e2 => qe (by simp only [gs, hg1, hg]) H2 (e1.trans e2)⟩⟩
    have b2 := b1.back e2 a2
    rw [List.append_assoc] at b2
    exact q (.bin .both g1 g2) m2 (p1 ++ p2) (by simp only [gs, hg1, hg2]) _ H4 ys2 ((e1.trans e2).trans e4.any) (b2.ext0 e4) (.tup h4 (.cons (.str _) (.cons ((d1.ext e2).ext e4) (.cons (d2.ext e4) .nil))))
  | app t u =>
    obtain ⟨p, y, z, rfl, hp, hy, hz⟩ := td_s2 ha.tt
    simp only [Bt.dep] at hd
    refine ⟨p, rfl, _, hp, _, atI_0, rfl, no (a := "app") (by decide +kernel) ⟨rfl, no (a := "app") (by decide +kernel) ?_⟩⟩
    refine ⟨p, rfl, _, hp, _, atI_1, _, b, cn, pr, t, l, n, zs, ps0, rfl, ha.sub hy (by simp only [Bt.dep]; omega), by omega, fun g1 m1 p1 hg1 v1 H1 ys1 e1 a1 d1 => ?_, fun hg H1 e1 => qe (by simp only [gs, hg]) H1 e1⟩
    have b1 := ha.back e1 a1
    have hp1 := tupF_ext e1 hp
    refine ⟨rfl, no (a := "app") (by decide +kernel) ⟨rfl, ys ?_⟩⟩
    refine ⟨p, rfl, _, hp1, _, atI_2, _, b, cn, pr, u, l, m1, ys1, _, rfl, b1.sub (hz.ext e1) (by simp only [Bt.dep]; omega), by omega, fun g2 m2 p2 hg2 v2 H2 ys2 e2 a2 d2 => ?_, fun hg H2 e2 => qe (by simp only [gs, hg1, hg]) H2 (e1.trans e2)⟩
    have b2 := b1.back e2 a2
    rw [List.append_assoc] at b2
    refine ⟨cn, m2, rfl, b2.hc, fun hm v3 H3 e3 h3 d3 => ⟨_, _, ⟨rfl, rfl⟩, tyV_lst (b2.count hm e3 h3).hp, by decide, fun p4 H4 e4 h4 => ⟨by decide, fun p5 H5 e5 h5 => ?_⟩⟩, fun hm H3 e3 => qe (by simp only [gs, hg1, hg2]; rw [if_neg (by omega)]) H3 ((e1.trans e2).trans (two (.inl rfl) e3))⟩
    have b3 := b2.count hm e3 h3
    have b5 := b3.ext0 (e4.trans e5)
    have hlen := b2.len
    refine ⟨_, b5.hp, by have := b5.hy.length; rw [List.length_map] at this; have hz : (100000 : Nat) ≤ sizeLine := by decide
                         omega, fun H6 e6 h6 => ?_⟩
    have b6 := b5.app (z := (g1, .bin .to g2 (mk m2))) e6 h6 (.tup (tupF_ext e6 h5) (.cons ((d1.ext (e2.trans (two (.inl rfl) e3))).ext ((e4.trans e5).any.trans e6)) (.cons (.tup (tupF_ext (e5.any.trans e6) h4) (.cons (.str _) (.cons ((d2.ext e3).ext ((e4.trans e5).any.trans e6)) (.cons (d3.ext ((e4.trans e5).any.trans e6)) .nil)))) .nil))) (by omega)
    have eA : Ext [cn, pr] H H6 := ((e1.trans e2).trans (two (.inl rfl) e3)).trans ((e4.trans e5).any.trans (two (.inr rfl) e6))
    rw [List.append_assoc] at b6
    exact q (mk m2) (m2 + 1) (p1 ++ p2 ++ [(g1, .bin .to g2 (mk m2))]) (by simp only [gs, hg1, hg2]; rw [if_pos hm]) v3 H6 _ eA b6 (d3.ext ((e4.trans e5).any.trans e6))
  | fst t =>
    obtain ⟨p, y, rfl, hp, hy⟩ := td_s1 ha.tt
    simp only [Bt.dep] at hd
    refine ⟨p, rfl, _, hp, _, atI_0, rfl, no (a := "first") (by decide +kernel) ⟨rfl, no (a := "first") (by decide +kernel) ?_⟩⟩
    refine ⟨p, rfl, _, hp, _, atI_1, _, b, cn, pr, t, l, n, zs, ps0, rfl, ha.sub hy (by simp only [Bt.dep]; omega), by omega, fun g1 m1 p1 hg1 v1 H1 ys1 e1 a1 d1 => ?_, fun hg H1 e1 => qe (by simp only [gs, hg]) H1 e1⟩
    have b1 := ha.back e1 a1
    have hp1 := tupF_ext e1 hp
    refine ⟨rfl, no (a := "first") (by decide +kernel) ⟨rfl, no (a := "first") (by decide +kernel) ?_⟩⟩
    refine ⟨cn, m1, rfl, b1.hc, fun hm v2 H2 e2 h2 d2 => ?_, fun hm H2 e2 => qe (by simp only [gs, hg1]; rw [if_neg (by omega)]) H2 (e1.trans (two (.inl rfl) e2))⟩
    have b2 := b1.count hm e2 h2
    refine ⟨cn, m1 + 1, rfl, b2.hc, fun hm2 v3 H3 e3 h3 d3 => ⟨_, _, ⟨rfl, rfl⟩, tyV_lst (b2.count hm2 e3 h3).hp, by decide, fun p4 H4 e4 h4 => ⟨by decide, fun p5 H5 e5 h5 => ?_⟩⟩, fun hm2 H3 e3 => qe (by simp only [gs, hg1]; rw [if_neg (by omega)]) H3 ((e1.trans (two (.inl rfl) e2)).trans (two (.inl rfl) e3))⟩
    have b3 := b2.count hm2 e3 h3
    have b5 := b3.ext0 (e4.trans e5)
    have hlen := b1.len
    refine ⟨_, b5.hp, by have := b5.hy.length; rw [List.length_map] at this; have hz : (100000 : Nat) ≤ sizeLine := by decide
                         omega, fun H6 e6 h6 => ?_⟩
    have e46 := (e4.trans e5).any.trans e6
    have b6 := b5.app (z := (g1, .bin .both (mk m1) (mk (m1 + 1)))) e6 h6 (.tup (tupF_ext e6 h5) (.cons ((d1.ext ((two (.inl rfl) e2).trans (two (.inl rfl) e3))).ext e46) (.cons (.tup (tupF_ext (e5.any.trans e6) h4) (.cons (.str _) (.cons ((d2.ext e3).ext e46) (.cons (d3.ext e46) .nil)))) .nil))) (by omega)
    have eA : Ext [cn, pr] H H6 := ((e1.trans (two (.inl rfl) e2)).trans (two (.inl rfl) e3)).trans ((e4.trans e5).any.trans (two (.inr rfl) e6))
    rw [List.append_assoc] at b6
    refine ⟨rfl, ys ?_⟩
    exact q (mk m1) (m1 + 2) (p1 ++ [(g1, .bin .both (mk m1) (mk (m1 + 1)))]) (by simp only [gs, hg1]; rw [if_pos hm2]) _ H6 _ eA b6 ((d2.ext e3).ext e46)
  | snd t =>
    obtain ⟨p, y, rfl, hp, hy⟩ := td_s1 ha.tt
    simp only [Bt.dep] at hd
    refine ⟨p, rfl, _, hp, _, atI_0, rfl, no (a := "second") (by decide +kernel) ⟨rfl, no (a := "second") (by decide +kernel) ?_⟩⟩
    refine ⟨p, rfl, _, hp, _, atI_1, _, b, cn, pr, t, l, n, zs, ps0, rfl, ha.sub hy (by simp only [Bt.dep]; omega), by omega, fun g1 m1 p1 hg1 v1 H1 ys1 e1 a1 d1 => ?_, fun hg H1 e1 => qe (by simp only [gs, hg]) H1 e1⟩
    have b1 := ha.back e1 a1
    have hp1 := tupF_ext e1 hp
    refine ⟨rfl, no (a := "second") (by decide +kernel) ⟨rfl, no (a := "second") (by decide +kernel) ?_⟩⟩
    refine ⟨cn, m1, rfl, b1.hc, fun hm v2 H2 e2 h2 d2 => ?_, fun hm H2 e2 => qe (by simp only [gs, hg1]; rw [if_neg (by omega)]) H2 (e1.trans (two (.inl rfl) e2))⟩
    have b2 := b1.count hm e2 h2
    refine ⟨cn, m1 + 1, rfl, b2.hc, fun hm2 v3 H3 e3 h3 d3 => ⟨_, _, ⟨rfl, rfl⟩, tyV_lst (b2.count hm2 e3 h3).hp, by decide, fun p4 H4 e4 h4 => ⟨by decide, fun p5 H5 e5 h5 => ?_⟩⟩, fun hm2 H3 e3 => qe (by simp only [gs, hg1]; rw [if_neg (by omega)]) H3 ((e1.trans (two (.inl rfl) e2)).trans (two (.inl rfl) e3))⟩
    have b3 := b2.count hm2 e3 h3
    have b5 := b3.ext0 (e4.trans e5)
    have hlen := b1.len
    refine ⟨_, b5.hp, by have := b5.hy.length; rw [List.length_map] at this; have hz : (100000 : Nat) ≤ sizeLine := by decide
                         omega, fun H6 e6 h6 => ?_⟩
    have e46 := (e4.trans e5).any.trans e6
    have b6 := b5.app (z := (g1, .bin .both (mk m1) (mk (m1 + 1)))) e6 h6 (.tup (tupF_ext e6 h5) (.cons ((d1.ext ((two (.inl rfl) e2).trans (two (.inl rfl) e3))).ext e46) (.cons (.tup (tupF_ext (e5.any.trans e6) h4) (.cons (.str _) (.cons ((d2.ext e3).ext e46) (.cons (d3.ext e46) .nil)))) .nil))) (by omega)
    have eA : Ext [cn, pr] H H6 := ((e1.trans (two (.inl rfl) e2)).trans (two (.inl rfl) e3)).trans ((e4.trans e5).any.trans (two (.inr rfl) e6))
    rw [List.append_assoc] at b6
    refine ⟨rfl, no (a := "second") (by decide +kernel) ?_⟩
    exact q (mk (m1 + 1)) (m1 + 2) (p1 ++ [(g1, .bin .both (mk m1) (mk (m1 + 1)))]) (by simp only [gs, hg1]; rw [if_pos hm2]) _ H6 _ eA b6 (d3.ext e46)
end
end Sq
set_option Elab.async false
set_option linter.all false
set_option maxRecDepth 100000
set_option maxHeartbeats 4000000
namespace Sq
open PySem PySem.Spec PyProof.Rows L2 RZ
local macro_rules | `(tactic| walk_at "rd") => `(tactic| simp only [tCont, tDisp, tPairs, rIndexS, wipe, tNoPart, tDG2, tDGF, tDInF, tDNInF, sDPutF, tDNewF, rSortD, rInS, rInT, rEqLF, tDcF, tDc2F, tLcF, tForF, tAllF, tAnyF, tSumF, iStr, iEnumF, iZipF, iKeysF, iItems, tLZip, tYes, tSeq, tIfS, tNext, tRet, tRetN, tDrop, tTest, tB, tNot, tAnd, tOr, tChain, tOp, tUn, tCB, tCons, tNil, tC, tVar, tIf, tAndV, tOrV, tNotV, tAsg, tPar, tPar3, gName, gSub, gTupF, gCons, gNil, tTupF, tLstF, rI0, rI, rIxF, rIxG, rIxS, rSetF, rSlF, rCatF, rCatL, rTupL, rListT, rListL, rLenT, rLenL, iTupF, iLstF, rAppF, rExtF, rPopF, tBM, tBM0, tSl, tPart, rEq, rNe, tCall, L2.start,
  List.map_cons, List.map_nil, List.length_cons, List.length_nil, Nat.sub_self, List.replicate, List.append_nil, List.cons_append, List.nil_append, List.getElem?_cons_zero, List.getElem?_cons_succ, List.set_cons_zero, List.set_cons_succ,
  exSl, exI, exI2, exB, exS, exR, ex1, ex1', V.int.injEq, V.bl.injEq, V.ref.injEq, V.str.injEq, Option.some.injEq, List.cons.injEq, and_true, true_and, reduceCtorEq, false_and, and_false, or_false, false_or, exists_false, exists_and_left, exists_eq_left', decide_eq_true_eq, decide_true, decide_false, if_false, if_true, ite_true, ite_false, Bool.false_eq_true, Bool.not_true, Bool.not_false, Nat.reduceAdd, Nat.reduceSub, Nat.zero_add, atI_0, atI_1, atI_2, atI_3, ixN_0, ixN_1, ixN_2, cutV_1, cutV_2, Option.some.injEq, HO.lst.injEq, HO.dK.injEq, scal])
local macro_rules | `(tactic| walk_at "rdc") => `(tactic| simp (config := { contextual := true }) only [tCont, tDisp, tPairs, rIndexS, wipe, tNoPart, tDG2, tDGF, tDInF, tDNInF, sDPutF, tDNewF, rSortD, rInS, rInT, rEqLF, tDcF, tDc2F, tLcF, tForF, tAllF, tAnyF, tSumF, iStr, iEnumF, iZipF, iKeysF, iItems, tLZip, tYes, tSeq, tIfS, tNext, tRet, tRetN, tDrop, tTest, tB, tNot, tAnd, tOr, tChain, tOp, tUn, tCB, tCons, tNil, tC, tVar, tIf, tAndV, tOrV, tNotV, tAsg, tPar, tPar3, gName, gSub, gTupF, gCons, gNil, tTupF, tLstF, rI0, rI, rIxF, rIxG, rIxS, rSetF, rSlF, rCatF, rCatL, rTupL, rListT, rListL, rLenT, rLenL, iTupF, iLstF, rAppF, rExtF, rPopF, tBM, tBM0, tSl, tPart, rEq, rNe, tCall, L2.start,
  List.map_cons, List.map_nil, List.length_cons, List.length_nil, Nat.sub_self, List.replicate, List.append_nil, List.cons_append, List.nil_append, List.getElem?_cons_zero, List.getElem?_cons_succ, List.set_cons_zero, List.set_cons_succ,
  exSl, exI, exI2, exB, exS, exR, ex1, ex1', V.int.injEq, V.bl.injEq, V.ref.injEq, V.str.injEq, Option.some.injEq, List.cons.injEq, and_true, true_and, reduceCtorEq, false_and, and_false, or_false, false_or, exists_false, exists_and_left, exists_eq_left', decide_eq_true_eq, decide_true, decide_false, if_false, if_true, ite_true, ite_false, Bool.false_eq_true, Bool.not_true, Bool.not_false, Nat.reduceAdd, Nat.reduceSub, Nat.zero_add, atI_0, atI_1, atI_2, atI_3, ixN_0, ixN_1, ixN_2, cutV_1, cutV_2, Option.some.injEq, HO.lst.injEq, HO.dK.injEq, scal, *])
section
variable {P : Program} {w : World} {K : PySem.W.Frag} {mg : Str → Option Value} {base : Heap} {f c tb : Addr} {uN : Value} {fd : FuncData} {NS : List Str}
theorem Ext.overC {S : List Addr} {H H1 H2 : Hp} {D : Addr} (a : Ext [] H H1) (n : H D = none) (b : Ext (D :: S) H1 H2) : Ext S H H2 := by
  refine ⟨fun c o e h m => ?_, fun c o e => b.tup c o (a.tup c o e), fun c o u e => b.frz c o u (a.frz c o u e), fun P h => b.tab P (a.tab P h), fun P ps h k => b.tbl P ps (a.tbl P ps h (fun z => nomatch z)) fun z => ?_⟩
  · refine b.keep c o (a.keep c o e (fun z => nomatch z) m) (fun z => ?_) m
    rcases List.mem_cons.mp z with z | z
    · rw [z, n] at e; cases e
    · exact h z
  · rcases List.mem_cons.mp z with z | z
    · rw [z, n] at h; cases h
    · exact k z
abbrev s_match_in : Stmt := top 14
abbrev n_match_in : List Str := ["pattern", "formula", "table", "one", "other"]
theorem sc_match_in : FnScope n_match_in ["pattern", "formula", "table"] (defScope s_match_in) := ⟨rfl, rfl, rfl, by decide +kernel, rfl, by decide +kernel, by decide +kernel⟩
def spMtIn (K : PySem.W.Frag) (NS : List Str) (tb : Addr) (k : Nat) : Sp := fun vs H Q _ => ∃ (v u : V) (s t : Fm) (a : Addr) (kvs : List (Key × V)) (l : Tab), vs = [v, u, .ref a] ∧ Td K H v s.data ∧ Td K H u t.data ∧ 2 * s.dep ≤ k ∧ (∀ x ∈ s.names, x ∈ NS) ∧ (∀ x ∈ t.names, x ∈ NS) ∧ t.dep ≤ 40 ∧ H a = some (.dK kvs) ∧ TabK K H kvs l ∧ TbI NS l ∧ GxR.TabG H tb ∧
  ∀ (H' : Hp) (kvs' : List (Key × V)), Ext [a, tb] H H' → H' a = some (.dK kvs') → TabK K H' kvs' (mt l s t).1 → Q (.bl (mt l s t).2) H'
theorem ok_mtin (F : Dn K mg "match_in" s_match_in f fd c) (B : Bl mg) (hN : NsOk NS) (TB : GxR.TabB base mg c tb) : ∀ k, Cal P w K mg base k "match_in" (spMtIn K NS tb k) := by
  have h0 : ∀ k, k < 2 → ∀ vs H Q E, ¬ spMtIn K NS tb k vs H Q E := fun k hk vs H Q E ⟨v, u, s, t, _, _, _, _, _, _, h, _⟩ => by have := s.dep_pos; omega
  refine F.calRec2 (ps := ["pattern", "formula", "table"]) (fun _ _ _ _ _ _ us hl => match us, hl with | [_, _, _], _ => rfl) (h0 0 (by omega)) (h0 1 (by omega)) fun k G_match_in => ?_
  refine F.ok sc_match_in (fun vs H Q E h => ?_) (fun A outer s H vs Q E hrG h => ?_)
  · obtain ⟨_, _, _, _, _, _, _, rfl, _⟩ := h; rfl
  have hr := hrG.mono (Nat.le_succ k)
  obtain ⟨v, u, s1, t1, a, kvs, l, rfl, hs, ht, hd, hns, hnt, htd, ha, hl, hI, htb, q⟩ := h
  refine ⟨_, (pss_cons (ps_if (pt_cmpR op_eq (pe_ix (ix_tupK K) (pv 0) pe_int (fun _ _ => rfl)) pe_str (nomark _)) (pss_cons (ps_if (pt_cmp (pc_dinF (hu_of hr) (pe_ix (ix_tupK K) (pv 0) pe_int (fun _ _ => rfl)) (pv 2))) (pss_one (ps_ret (pe_cmpR (op_eqK K hr.units) (pe_dgetF (hu_of hr) (pv 2) (pe_ix (ix_tupK K) (pv 0) pe_int (fun _ _ => rfl)) (fun _ _ => rfl)) (pv 1) (nomark _)))) pss_nil)
    (pss_cons (ps_dputF (hu_of hr) (pv 2) (pe_ix (ix_tupK K) (pv 0) pe_int (fun _ _ => rfl)) (pv 1) rfl)
    (pss_one (ps_ret pe_bl)))) pss_nil)
    (pss_cons (ps_if (pt_cmpR op_ne (pe_ix (ix_tupK K) (pv 0) pe_int (fun _ _ => rfl)) (pe_ix (ix_tupK K) (pv 1) pe_int (fun _ _ => rfl)) (nomark _)) (pss_one (ps_ret pe_bl)) pss_nil)
    (pss_one (ps_ret (pe_allF (own := [("one", 3), ("other", 4)]) hr rfl sc_match_in.nd (by rfl) B.b_all TB rfl (pi_zipK K (by rfl) B.b_zip (pa_cons (pe_slice (sl_tupK K) (pv 0) (po_some pe_int) po_none) (pa_cons (pe_slice (sl_tupK K) (pv 1) (po_some pe_int) po_none) pa_nil))) (blkOk_by (own := [("one", 3), ("other", 4)]) (N := n_match_in) (sc := defScope s_match_in) (by decide +kernel)) (by decide +kernel) (by rfl) (by rfl) (fun _ _ _ _ _ => (pg_tupZ K (n := 2) (by rfl) (pgs_cons (pg_name (i := 3) sc_match_in.nd rfl (by first | exact Or.inl rfl | exact Or.inr rfl)) (pgs_cons (pg_name (i := 4) sc_match_in.nd rfl (by first | exact Or.inl rfl | exact Or.inr rfl)) pgs_nil)))) (fun _ _ _ _ _ => pts_nil) (fun _ _ _ _ _ => (C8.pe_c G_match_in (Room.gen hrG) (by omega) (by rfl) (pa_cons (pv 3) (pa_cons (pv 4) (pa_cons (pv 2) pa_nil)))))))))), ?_⟩
  walk_at "rd"
  rcases fd_look hs with ⟨x, p, rfl, rfl, hp⟩ | ⟨hv, p, wp, rfl, hp, hne, hwp⟩
  · refine ⟨p, rfl, _, hp, _, atI_0, rfl, ?_⟩
    rw [if_pos rfl]
    refine ⟨p, rfl, _, hp, _, atI_1, x, rfl, kvs, dctF_dK ha, ?_⟩
    have hs1 : (64 : Nat) < sizeLine := by decide
    rcases hl.val x with ⟨h1, h2⟩ | ⟨w0, v', h1, h2, h3⟩
    · rw [h2, if_neg (by decide)]
      refine ⟨p, rfl, _, hp, _, atI_1, x, rfl, kvs, ha, by have := hl.length; have := hI.len; have := hN.few; omega, fun H4 e4 h4 => ?_⟩
      replace e4 : Ext [a, tb] H H4 := e4.mono (by simp)
      have em : mt l (.name x) t1 = (putL l x t1, true) := by unfold mt; rw [h1]
      rw [em] at q
      exact q H4 _ e4 h4 ((hl.put ht).ext e4)
    · rw [h2, if_pos (by rfl)]
      have em : mt l (.name x) t1 = (l, decide (w0 = t1)) := by unfold mt; rw [h1]
      rw [em] at q
      obtain ⟨hw1, hw2⟩ := hI.vals x w0 (lk_mem h1)
      refine ⟨p, rfl, _, hp, _, atI_1, x, rfl, kvs, dctF_dK ha, v', h2, _, _, h3, ht, Fm.shaped hN hw1 (by omega), Fm.shaped hN hnt (by omega), ?_⟩
      rw [if_neg Bool.false_ne_true, Fm.eqv_data]
      exact q H kvs (Ext.refl _ _) ha hl
  · refine ⟨p, rfl, _, hp, _, atI_0, rfl, ?_⟩
    rw [if_neg hne]
    obtain ⟨pu, wu0, rfl, hu⟩ := fd_hd ht
    refine ⟨p, rfl, _, hp, _, atI_0, pu, rfl, _, hu, _, atI_0, rfl, ?_⟩
    by_cases hh : s1.hd = t1.hd
    · rw [if_neg (by simp [hh])]
      have htv : t1.isN = false := by
        cases t1 with
        | name x => exact absurd hh (Fm.hd_v hv)
        | _ => rfl
      obtain ⟨pu', wu, e, hu', hwu⟩ := fd_f htv ht
      cases e
      refine ⟨p, rfl, _, hp, fun p1 H1 e1 h1 => ⟨pu, rfl, _, tupF_ext e1 hu', fun p2 H2 e2 h2 => ?_⟩⟩
      rw [cutV_1] at h1 h2
      refine ⟨p1, p2, ⟨rfl, rfl⟩, wp, tupF_ext e2 h1, wu, h2, ?_⟩
      have e12 := e1.trans e2
      have h1' := tupF_ext e2 h1
      have lz : (s1.args.zip t1.args).length = min wp.length wu.length := by
        have l1 := hwp.length
        have l2 := hwu.length
        rw [List.length_map] at l1 l2
        rw [List.length_zip, l1, l2]
      rw [mt_args hv hh] at q
      have hna : a ∉ [tb] := fun z => by
        obtain ⟨ps, hps, _⟩ := htb
        rw [show a = tb by simpa using z, hps] at ha
        cases ha
      refine gen_go (walk_zipT (xs := wp) (ys := wu) rfl) (e12.tab _ htb) (fun j _ H' => (mtS l ((s1.args.zip t1.args).take j)).2 = true ∧ ∃ kvs', Ext [a, tb] H H' ∧ Ext [a, tb] H2 H' ∧ H' a = some (.dK kvs') ∧ TabK K H' kvs' (mtS l ((s1.args.zip t1.args).take j)).1) (fun H3 e3 => ⟨rfl, kvs, e12.any.trans (e3.mono (by simp)), e3.mono (by simp), e3.dK (e12.dK0 ha) hna, (hl.ext e12).ext e3⟩)
        (fun j _ H' hj ⟨_, _, _, e, _⟩ => ?_) (fun j z _ H' H'' hj ⟨ok, kvs', e, e2', hk, hl'⟩ y => ?_) (fun _ H' h => ?_)
      · exact ⟨tupF_sq (tupF_ext e h1'), tupF_sq (tupF_ext e h2)⟩
      · refine pair_tgt y fun x1 x2 hx1 hx2 eT => ?_
        obtain ⟨u1, hu1, hm1, ht1⟩ := fd_arg hwp hx1
        obtain ⟨u2, hu2, hm2, ht2⟩ := fd_arg hwu hx2
        have hz : (s1.args.zip t1.args)[j]? = some (u1, u2) := List.getElem?_zip_eq_some.mpr ⟨hu1, hu2⟩
        have hzz : ∀ z ∈ (s1.args.zip t1.args).take j, (∀ x ∈ z.1.names, x ∈ NS) ∧ (∀ x ∈ z.2.names, x ∈ NS) ∧ z.2.dep ≤ 40 := fun z hz => by
          obtain ⟨i1, i2⟩ := List.of_mem_zip (List.mem_of_mem_take hz)
          have := Fm.dep_arg i2
          exact ⟨fun x hx => hns x (Fm.names_arg i1 hx), fun x hx => hnt x (Fm.names_arg i2 hx), by omega⟩
        have d1 := Fm.dep_arg hm1
        have d2 := Fm.dep_arg hm2
        have eH := e.trans eT.any
        walk_at "rd"
        refine ⟨x1, [x2], ⟨rfl, rfl⟩, x2, [], rfl, rfl, x1, x2, u1, u2, a, kvs', _, rfl, ht1.ext eH, ht2.ext eH, by omega, fun x hx => hns x (Fm.names_arg hm1 hx), fun x hx => hnt x (Fm.names_arg hm2 hx), by omega, eT.dK0 hk, hl'.ext eT, mtS_ti hI hzz, eH.tab _ htb, fun H4 kvs4 e4 h4 hl4 => ⟨_, rfl, ?_⟩⟩
        rw [← mtS_next ok hz] at hl4 ⊢
        cases hb : (mtS l ((s1.args.zip t1.args).take (j + 1))).2 with
        | true =>
          rw [if_pos rfl]
          exact ⟨rfl, eH.trans e4, (e2'.trans eT.any).trans e4, kvs4, h4, hl4⟩
        | false =>
          rw [if_neg (by decide)]
          have st := mtS_stuck (zs := s1.args.zip t1.args) hb
          rw [st, hb] at q
          exact q H4 kvs4 (eH.trans e4) h4 hl4
      · obtain ⟨ok, kvs', e, e2', hk, hl'⟩ := h
        rw [← lz, List.take_length] at ok hl'
        rw [ok] at q
        exact q H' kvs' e hk hl'
    · rw [if_pos (by simp [hh])]
      have em := mt_hd (l := l) hv hh
      rw [em] at q
      exact q H kvs (Ext.refl _ _) ha hl
abbrev s_matched : Stmt := top 13
abbrev n_matched : List Str := ["pattern", "formula", "table"]
theorem sc_matched : FnScope n_matched ["pattern", "formula"] (defScope s_matched) := ⟨rfl, rfl, rfl, by decide +kernel, rfl, by decide +kernel, by decide +kernel⟩
def spMt (K : PySem.W.Frag) (NS : List Str) (tb : Addr) : Sp := fun vs H Q _ => ∃ (v u : V) (s t : Fm), vs = [v, u] ∧ Td K H v s.data ∧ Td K H u t.data ∧ s.dep ≤ 30 ∧ (∀ x ∈ s.names, x ∈ NS) ∧ (∀ x ∈ t.names, x ∈ NS) ∧ t.dep ≤ 40 ∧ GxR.TabG H tb ∧
  ((mt [] s t).2 = false → ∀ H', Ext [tb] H H' → Q .non H') ∧ ((mt [] s t).2 = true → ∀ (a : Addr) (H' : Hp), Ext [tb] H H' → TabA K H' a (mt [] s t).1 → Q (.ref a) H')
theorem ok_matched (F : Dn K mg "matched" s_matched f fd c) (B : Bl mg) (G_match_in : Cal P w K mg base 60 "match_in" (spMtIn K NS tb 60)) : Cal P w K mg base 61 "matched" (spMt K NS tb) := by
  refine F.cal (ps := ["pattern", "formula"]) (fun _ _ _ _ _ _ us hl => match us, hl with | [_, _], _ => rfl) sc_matched (fun vs H Q E h => ?_) (fun A outer s H vs Q E hr h => ?_)
  · obtain ⟨_, _, _, _, rfl, _⟩ := h; rfl
  obtain ⟨v, u, s1, t1, rfl, hs, ht, hd, hns, hnt, htd, htb, q0, q1⟩ := h
  refine ⟨_, (pss_cons (ps_set (i := 2) sc_matched.nd rfl (by first | exact Or.inl rfl | exact Or.inr rfl) pe_dnewF)
    (pss_cons (ps_if (pt_val (C8.pe_c G_match_in hr (by omega) (by rfl) (pa_cons (pv 0) (pa_cons (pv 1) (pa_cons (pv 2) pa_nil))))) (pss_one (ps_ret (pv 2))) pss_nil)
    (pss_one (ps_ret pe_non)))), ?_⟩
  walk_at "rd"
  intro p H1 n1 e1 h1
  refine ⟨v, u, s1, t1, p, [], [], rfl, hs.ext e1, ht.ext e1, by omega, hns, hnt, htd, h1, .nil, .nil, e1.tab _ htb, fun H2 kvs2 e2 h2 hl2 => ?_⟩
  refine ⟨_, rfl, ?_⟩
  have e12 : Ext [tb] H H2 := e1.overC n1 e2
  cases hb : (mt [] s1 t1).2 with
  | true => rw [if_pos rfl]; exact q1 hb p H2 e12 ⟨kvs2, dctF_dK h2, hl2⟩
  | false => rw [if_neg (by decide)]; exact q0 hb H2 e12
end
end Sq
set_option Elab.async false
set_option linter.all false
set_option maxRecDepth 100000
set_option maxHeartbeats 4000000
namespace Sq
open PySem PySem.Spec PyProof.Rows L2 RZ
local macro_rules | `(tactic| walk_at "rd") => `(tactic| simp only [tCont, tNever, iEnumL, tWords, CwR.tReplC, iRng1, L2.rNeDA, rSlS, rListS, rDictP, tDisp, tPairs, rIndexS, wipe, tNoPart, tDG2, tDGF, tDInF, tDNInF, sDPutF, tDNewF, rSortD, rInS, rInT, rEqLF, tDcF, tDc2F, tLcF, tForF, tAllF, tAnyF, tSumF, iStr, iEnumF, iZipF, iKeysF, iItems, tLZip, tYes, tSeq, tIfS, tNext, tRet, tRetN, tDrop, tTest, tB, tNot, tAnd, tOr, tChain, tOp, tUn, tCB, tCons, tNil, tC, tVar, tIf, tAndV, tOrV, tNotV, tAsg, tPar, tPar3, gName, gSub, gTupF, gCons, gNil, tTupF, tLstF, rI0, rI, rIxF, rIxG, rIxS, rSetF, rSlF, rCatF, rCatL, rTupL, rListT, rListL, rLenT, rLenL, iTupF, iLstF, rAppF, rExtF, rPopF, tBM, tBM0, tSl, tPart, rEq, rNe, tCall, L2.start,
  List.map_cons, List.map_nil, List.length_cons, List.length_nil, Nat.sub_self, List.replicate, List.append_nil, List.cons_append, List.nil_append, List.getElem?_cons_zero, List.getElem?_cons_succ, List.set_cons_zero, List.set_cons_succ,
  exSl, exI, exI2, exB, exS, exR, ex1, ex1', V.int.injEq, V.bl.injEq, V.ref.injEq, V.str.injEq, Option.some.injEq, List.cons.injEq, and_true, true_and, reduceCtorEq, false_and, and_false, or_false, false_or, exists_false, exists_and_left, exists_eq_left', decide_eq_true_eq, decide_true, decide_false, if_false, if_true, ite_true, ite_false, Bool.false_eq_true, Bool.not_true, Bool.not_false, Nat.reduceAdd, Nat.reduceSub, Nat.zero_add, atI_0, atI_1, atI_2, atI_3, ixN_0, ixN_1, ixN_2, cutV_1, cutV_2, Option.some.injEq, HO.lst.injEq, HO.dK.injEq, scal])
local macro_rules | `(tactic| walk_at "rdc") => `(tactic| simp (config := { contextual := true }) only [tCont, tNever, iEnumL, tWords, CwR.tReplC, iRng1, L2.rNeDA, rSlS, rListS, rDictP, tDisp, tPairs, rIndexS, wipe, tNoPart, tDG2, tDGF, tDInF, tDNInF, sDPutF, tDNewF, rSortD, rInS, rInT, rEqLF, tDcF, tDc2F, tLcF, tForF, tAllF, tAnyF, tSumF, iStr, iEnumF, iZipF, iKeysF, iItems, tLZip, tYes, tSeq, tIfS, tNext, tRet, tRetN, tDrop, tTest, tB, tNot, tAnd, tOr, tChain, tOp, tUn, tCB, tCons, tNil, tC, tVar, tIf, tAndV, tOrV, tNotV, tAsg, tPar, tPar3, gName, gSub, gTupF, gCons, gNil, tTupF, tLstF, rI0, rI, rIxF, rIxG, rIxS, rSetF, rSlF, rCatF, rCatL, rTupL, rListT, rListL, rLenT, rLenL, iTupF, iLstF, rAppF, rExtF, rPopF, tBM, tBM0, tSl, tPart, rEq, rNe, tCall, L2.start,
  List.map_cons, List.map_nil, List.length_cons, List.length_nil, Nat.sub_self, List.replicate, List.append_nil, List.cons_append, List.nil_append, List.getElem?_cons_zero, List.getElem?_cons_succ, List.set_cons_zero, List.set_cons_succ,
  exSl, exI, exI2, exB, exS, exR, ex1, ex1', V.int.injEq, V.bl.injEq, V.ref.injEq, V.str.injEq, Option.some.injEq, List.cons.injEq, and_true, true_and, reduceCtorEq, false_and, and_false, or_false, false_or, exists_false, exists_and_left, exists_eq_left', decide_eq_true_eq, decide_true, decide_false, if_false, if_true, ite_true, ite_false, Bool.false_eq_true, Bool.not_true, Bool.not_false, Nat.reduceAdd, Nat.reduceSub, Nat.zero_add, atI_0, atI_1, atI_2, atI_3, ixN_0, ixN_1, ixN_2, cutV_1, cutV_2, Option.some.injEq, HO.lst.injEq, HO.dK.injEq, scal, *])
section
variable {P : Program} {w : World} {K : PySem.W.Frag} {mg : Str → Option Value} {base : Heap} {f c aJ : Addr} {uN : Value} {fd : FuncData} {NS : List Str}
abbrev s_gather : Stmt := top 16
abbrev n_gather : List Str := ["formula", "order"]
theorem sc_gather : FnScope n_gather ["formula", "order"] (defScope s_gather) := ⟨rfl, rfl, rfl, by decide +kernel, rfl, by decide +kernel, by decide +kernel⟩
def spGth (K : PySem.W.Frag) (NS : List Str) (k : Nat) : Sp := fun vs H Q _ => ∃ (v : V) (t : Fm) (a : Addr) (ns : List Str), vs = [v, .ref a] ∧ Td K H v t.data ∧ t.dep ≤ k ∧ H a = some (.lst (ns.map V.str)) ∧ (∀ x ∈ ns, x ∈ NS) ∧ ns.Nodup ∧ (∀ x ∈ t.names, x ∈ NS) ∧ ∀ H', Ext [a] H H' → H' a = some (.lst ((gth ns t).map V.str)) → Q .non H'
theorem ok_gather (F : Dn K mg "gather" s_gather f fd c) (B : Bl mg) (hN : NsOk NS) (GJ : Gc K mg aJ uN) : ∀ k, Cal P w K mg base k "gather" (spGth K NS k) := by
  refine F.calRec (ps := ["formula", "order"]) (fun _ _ _ _ _ _ us hl => match us, hl with | [_, _], _ => rfl) (fun vs H Q E ⟨v, t, _, _, _, _, h, _⟩ => by have := t.dep_pos; omega) fun k G_gather => ?_
  refine F.ok sc_gather (fun vs H Q E h => ?_) (fun A outer s H vs Q E hr h => ?_)
  · obtain ⟨_, _, _, _, rfl, _⟩ := h; rfl
  obtain ⟨v, t, a, ns, rfl, ht, hd, ha, hns, nd, hab, q⟩ := h
  refine ⟨_, (pss_one (ps_if (pt_cmpR op_eq (pe_ix (ix_tupK K) (pv 0) pe_int (fun _ _ => rfl)) pe_str (nomark _)) (pss_one (ps_if (pt_cmpR op_notIn_seq (pe_ix (ix_tupK K) (pv 0) pe_int (fun _ _ => rfl)) (pv 1) (by rfl)) (pss_one (ps_expr (pe_bm PySem.F.plainAttrs_list PySem.F.slot_list_append PySem.F.type_list_append mt_appF (pv 1) (pa_cons (pe_ix (ix_tupK K) (pv 0) pe_int (fun _ _ => rfl)) pa_nil)))) pss_nil)) (pss_one (ps_if (pt_cmpR (op_inSK K) (pe_ix (ix_tupK K) (pv 0) pe_int (fun _ _ => rfl)) (pe_glob (v := .ref aJ) (by rfl) GJ.g rfl) (by rfl)) (pss_cons (ps_expr (C8.pe_c G_gather hr (by omega) (by rfl) (pa_cons (pe_ix (ix_tupK K) (pv 0) pe_int (fun _ _ => rfl)) (pa_cons (pv 1) pa_nil))))
    (pss_one (ps_expr (C8.pe_c G_gather hr (by omega) (by rfl) (pa_cons (pe_ix (ix_tupK K) (pv 0) pe_int (fun _ _ => rfl)) (pa_cons (pv 1) pa_nil)))))) pss_nil)))), ?_⟩
  walk_at "rd"
  rcases fd_look ht with ⟨x, p, rfl, rfl, hp⟩ | ⟨hv, p, wp, rfl, hp, hne, hwp⟩
  · refine ⟨p, rfl, _, hp, _, atI_0, rfl, ?_⟩
    rw [if_pos rfl]
    refine ⟨p, rfl, _, hp, _, atI_1, a, ns.map V.str, rfl, .inl (SqL.of ha), rfl, by simp [flatV], _, rfl, ?_⟩
    rw [if_pos rfl, inV_strs]
    have eg : gth ns (.name x) = if x ∈ ns then ns else ns ++ [x] := rfl
    rw [eg] at q
    by_cases hx : x ∈ ns
    · rw [if_neg (by simp [hx])]
      rw [if_pos hx] at q
      exact q H (Ext.refl _ _) ha
    · rw [if_pos (by simp [hx])]
      rw [if_neg hx, List.map_append] at q
      refine ⟨tyV_lst ha, p, rfl, _, hp, _, atI_1, _, ha, ?_, fun H2 e2 h2 => q H2 e2 h2⟩
      have := nodup_sub nd hns
      have hs1 : (64 : Nat) < sizeLine := by decide
      have hz := hN.few
      rw [List.length_map]; omega
  · refine ⟨p, rfl, _, hp, _, atI_0, rfl, ?_⟩
    rw [if_neg hne]
    refine ⟨p, rfl, _, hp, _, atI_0, _, rfl, joinsT, GJ.at H, ?_⟩
    cases t with
    | name x => cases hv
    | one => rw [if_neg (by decide)]; exact q H (Ext.refl _ _) ha
    | none => rw [if_neg (by decide)]; exact q H (Ext.refl _ _) ha
    | bin j s1 s2 =>
      rw [if_pos (of_decide_eq_true (in_joins (t := .bin j s1 s2)))]
      obtain ⟨p', v1, v2, e, hp', h1, h2⟩ := fd_b ht
      cases e
      simp only [Fm.dep] at hd
      refine ⟨p, rfl, _, hp', _, atI_1, v1, s1, a, ns, rfl, h1, by omega, ha, hns, nd, (fun x hx => hab x (List.mem_append_left _ hx)), fun H1 e1 g1 => ⟨p, rfl, _, tupF_ext e1 hp', _, atI_2, v2, s2, a, gth ns s1, rfl, h2.ext e1, by omega, g1, fun x hx => ?_, gth_nd s1 nd, (fun x hx => hab x (List.mem_append_right _ hx)), fun H2 e2 g2 => q H2 (e1.trans e2) g2⟩⟩
      rcases (gth_mem s1).mp hx with z | z
      · exact hns x z
      · exact hab x (List.mem_append_left _ z)
theorem ltr3 {j : Nat} (h : j < 3) : ∃ c, atI namesT.cps.toList ((j : Nat) : Int) = some c ∧ ABC[j]? = some ⟨#[c]⟩ := by
  match j, h with
  | 0, _ => exact ⟨97, by decide +kernel, by decide +kernel⟩
  | 1, _ => exact ⟨98, by decide +kernel, by decide +kernel⟩
  | 2, _ => exact ⟨99, by decide +kernel, by decide +kernel⟩
abbrev s_plain_names : Stmt := top 15
abbrev n_plain_names : List Str := ["formula", "order", "k", "name"]
theorem sc_plain_names : FnScope n_plain_names ["formula"] (defScope s_plain_names) := ⟨rfl, rfl, rfl, by decide +kernel, rfl, by decide +kernel, by decide +kernel⟩
def spPl (K : PySem.W.Frag) (NS : List Str) : Sp := fun vs H Q _ => ∃ (v : V) (t : Fm), vs = [v] ∧ Td K H v t.data ∧ t.dep ≤ 40 ∧ (∀ x ∈ t.names, x ∈ NS) ∧ (gth [] t).length ≤ 3 ∧ ∀ v' H', Ext [] H H' → Td K H' v' (pl t).data → Q v' H'
theorem ok_plain (F : Dn K mg "plain_names" s_plain_names f fd c) (B : Bl mg) (GJ : Gc K mg aJ uN) (G_gather : Cal P w K mg base 60 "gather" (spGth K NS 60)) (G_laid : Cal P w K mg base 60 "laid" (spLay K 60)) : Cal P w K mg base 61 "plain_names" (spPl K NS) := by
  refine F.cal (ps := ["formula"]) (fun _ _ _ _ _ _ us hl => match us, hl with | [_], _ => rfl) sc_plain_names (fun vs H Q E h => ?_) (fun A outer s H vs Q E hr h => ?_)
  · obtain ⟨_, _, rfl, _⟩ := h; rfl
  obtain ⟨v, t, rfl, ht, hd, hab, hl, q⟩ := h
  refine ⟨_, (pss_cons (ps_set (i := 1) sc_plain_names.nd rfl (by first | exact Or.inl rfl | exact Or.inr rfl) (pe_lstF pa_nil))
    (pss_cons (ps_expr (C8.pe_c G_gather hr (by omega) (by rfl) (pa_cons (pv 0) (pa_cons (pv 1) pa_nil))))
    (pss_cons (ps_if (pt_cmpR op_gt (pe_callB call_lenL (by rfl) B.b_len (by decide +kernel) (pa_cons (pv 1) pa_nil)) pe_int (nomark _)) (pss_one ps_never) pss_nil)
    (pss_one (ps_ret (C8.pe_c G_laid hr (by omega) (by rfl) (pa_cons (pv 0) (pa_cons (pe_dcF (own := [("k", 2), ("name", 3)]) rfl sc_plain_names.nd (pi_enumLK K (by rfl) B.b_enumerate (pa_cons (pv 1) pa_nil)) (blkOk_by (own := [("k", 2), ("name", 3)]) (N := n_plain_names) (sc := defScope s_plain_names) (by decide +kernel)) (fun _ _ _ _ _ => (pg_tupZ K (n := 2) (by rfl) (pgs_cons (pg_name (i := 2) sc_plain_names.nd rfl (by first | exact Or.inl rfl | exact Or.inr rfl)) (pgs_cons (pg_name (i := 3) sc_plain_names.nd rfl (by first | exact Or.inl rfl | exact Or.inr rfl)) pgs_nil)))) (fun _ _ _ _ _ => pts_nil) (fun _ _ _ _ _ => (pv 3)) (fun _ _ _ _ _ => (pe_tupK K (pa_cons pe_str (pa_cons (pe_ix ix_str (pe_glob (v := .str namesT) (by rfl) GJ.n GJ.nr) (pv 2) (fun _ _ => rfl)) pa_nil))))) pa_nil)))))))), ?_⟩
  walk_at "rd"
  refine ⟨by decide, fun p H1 n1 e1 h1 => ⟨v, t, p, [], rfl, ht.ext e1, by omega, h1, (fun x hx => by cases hx), List.nodup_nil, hab, fun H2 e2 h2 => ?_⟩⟩
  have e12 : Ext [] H H2 := e1.over n1 e2
  dsimp only
  refine ⟨_, h2, ?_⟩
  rw [if_neg (by rw [List.length_map]; omega)]
  refine ⟨_, h2, ?_⟩
  have nd := gth_nd t (ns := []) List.nodup_nil
  revert hl nd h2 q
  unfold pl
  generalize gth [] t = ns
  intro hl q h2 nd
  have hlz : (tabP ns).length = ns.length := by unfold tabP; rw [List.length_map, List.length_zip]; show min ns.length 3 = _; omega
  refine dc_go walk_enum (fun D j ks H' => Ext [] H2 H' ∧ TabK K H' ks ((tabP ns).take j)) (fun D' hD => ⟨Ext.new hD, .nil⟩) (fun D' j ks H' ⟨e, _⟩ => SqL.of (e.lst0 h2)) (fun D' j z ks H' H'' hD hj ⟨e, htab⟩ hl2 hks y => ?_) fun D' ks H' hD ⟨e, htab⟩ hks hl2 => ?_
  · refine pair_tgt y fun k v1 hk hv eT => ?_
    cases hk
    rw [List.getElem?_map] at hv
    cases hn : ns[j]? with
    | none => rw [hn] at hv; cases hv
    | some n =>
      rw [hn] at hv
      cases hv
      walk_at "rd"
      have hj3 : j < 3 := by have := (List.getElem?_eq_some_iff.mp hn).1; omega
      obtain ⟨c0, hc, hb⟩ := ltr3 hj3
      refine ⟨_, _, ⟨rfl, rfl⟩, _, _, rfl, rfl, _, rfl, by decide +kernel, c0, hc, by decide, fun pt H5 e5 h5 => ?_⟩
      have hks5 := e5.dK0 (eT.dK0 hks)
      have hs1 : (100 : Nat) < sizeLine := by decide
      have eAll : Ext [] H2 H5 := (e.trans eT).trans e5
      have hlk : ks.length ≤ 3 := by rw [htab.length, List.length_take, hlz]; omega
      have eS : Ext [D'] H5 (upd H5 D' (.dK (putK ks (Sum.inr n) (.ref pt)))) := Ext.setD List.mem_cons_self hks5
      refine ⟨ks, Sum.inr n, rfl, hks5, by omega, putK ks (Sum.inr n) (.ref pt), by have := length_putK ks (Sum.inr n) (.ref pt); omega, upd_same, eAll.over hD eS, ?_⟩
      have ht5 : Td K H5 (.ref pt) (Fm.name ⟨#[c0]⟩).data := .tup h5 (.cons (.str _) (.cons (.str _) .nil))
      rw [take_snoc (tabP_at hn hb), ← putL_fresh (tabP_fresh nd hl hn hb)]
      exact (((htab.ext eT).ext e5).put ht5).ext eS
  · rw [List.length_map] at htab
    rw [← hlz, List.take_length] at htab
    exact ⟨v, t, D', _, rfl, ht.ext (e12.trans e), by omega, ⟨ks, dctF_dK hks, htab⟩, fun v' H4 e4 h4 => q v' H4 ((e12.trans e).trans e4) h4⟩
end
end Sq
set_option Elab.async false
set_option linter.all false
set_option maxRecDepth 100000
set_option maxHeartbeats 4000000
namespace Sq
open PySem PySem.Spec PyProof.Rows L2 RZ
local macro_rules | `(tactic| walk_at "rd") => `(tactic| simp only [tCont, tNever, iEnumL, iRng1, rPop0, rTIndex, rKdIx, rKdNin, tDG2, rU, tTIdx, iZipS, rDictC, rDictP, tAugS, ipI, rGetN, tDisp, tPairs, rIndexS, wipe, tNoPart, tDG2, tDGF, tDInF, tDNInF, sDPutF, tDNewF, rSortD, rInS, rInT, rEqLF, tDcF, tDc2F, tLcF, tForF, tAllF, tAnyF, tSumF, iStr, iEnumF, iZipF, iKeysF, iItems, tLZip, tYes, tSeq, tIfS, tNext, tRet, tRetN, tDrop, tTest, tB, tNot, tAnd, tOr, tChain, tOp, tUn, tCB, tCons, tNil, tC, tVar, tIf, tAndV, tOrV, tNotV, tAsg, tPar, tPar3, gName, gSub, gTupF, gCons, gNil, tTupF, tLstF, rI0, rI, rIxF, rIxG, rIxS, rSetF, rSlF, rCatF, rCatL, rTupL, rListT, rListL, rLenT, rLenL, iTupF, iLstF, rAppF, rExtF, rPopF, tBM, tBM0, tSl, tPart, rEq, rNe, tCall, L2.start,
  List.map_cons, List.map_nil, List.length_cons, List.length_nil, Nat.sub_self, List.replicate, List.append_nil, List.cons_append, List.nil_append, List.getElem?_cons_zero, List.getElem?_cons_succ, List.set_cons_zero, List.set_cons_succ,
  exSl, exI, exI2, exB, exS, exR, ex1, ex1', V.int.injEq, V.bl.injEq, V.ref.injEq, V.str.injEq, Option.some.injEq, List.cons.injEq, and_true, true_and, reduceCtorEq, false_and, and_false, or_false, false_or, exists_false, exists_and_left, exists_eq_left', decide_eq_true_eq, decide_true, decide_false, if_false, if_true, ite_true, ite_false, Bool.false_eq_true, Bool.not_true, Bool.not_false, Nat.reduceAdd, Nat.reduceSub, Nat.zero_add, atI_0, atI_1, atI_2, atI_3, ixN_0, ixN_1, ixN_2, cutV_1, cutV_2, Option.some.injEq, HO.lst.injEq, HO.dK.injEq, scal])
local macro_rules | `(tactic| walk_at "rdc") => `(tactic| simp (config := { contextual := true }) only [tCont, tNever, iEnumL, iRng1, rPop0, rTIndex, rKdIx, rKdNin, tDG2, rU, tTIdx, iZipS, rDictC, rDictP, tAugS, ipI, rGetN, tDisp, tPairs, rIndexS, wipe, tNoPart, tDG2, tDGF, tDInF, tDNInF, sDPutF, tDNewF, rSortD, rInS, rInT, rEqLF, tDcF, tDc2F, tLcF, tForF, tAllF, tAnyF, tSumF, iStr, iEnumF, iZipF, iKeysF, iItems, tLZip, tYes, tSeq, tIfS, tNext, tRet, tRetN, tDrop, tTest, tB, tNot, tAnd, tOr, tChain, tOp, tUn, tCB, tCons, tNil, tC, tVar, tIf, tAndV, tOrV, tNotV, tAsg, tPar, tPar3, gName, gSub, gTupF, gCons, gNil, tTupF, tLstF, rI0, rI, rIxF, rIxG, rIxS, rSetF, rSlF, rCatF, rCatL, rTupL, rListT, rListL, rLenT, rLenL, iTupF, iLstF, rAppF, rExtF, rPopF, tBM, tBM0, tSl, tPart, rEq, rNe, tCall, L2.start,
  List.map_cons, List.map_nil, List.length_cons, List.length_nil, Nat.sub_self, List.replicate, List.append_nil, List.cons_append, List.nil_append, List.getElem?_cons_zero, List.getElem?_cons_succ, List.set_cons_zero, List.set_cons_succ,
  exSl, exI, exI2, exB, exS, exR, ex1, ex1', V.int.injEq, V.bl.injEq, V.ref.injEq, V.str.injEq, Option.some.injEq, List.cons.injEq, and_true, true_and, reduceCtorEq, false_and, and_false, or_false, false_or, exists_false, exists_and_left, exists_eq_left', decide_eq_true_eq, decide_true, decide_false, if_false, if_true, ite_true, ite_false, Bool.false_eq_true, Bool.not_true, Bool.not_false, Nat.reduceAdd, Nat.reduceSub, Nat.zero_add, atI_0, atI_1, atI_2, atI_3, ixN_0, ixN_1, ixN_2, cutV_1, cutV_2, Option.some.injEq, HO.lst.injEq, HO.dK.injEq, scal, *])
section
variable {P : Program} {w : World} {K : PySem.W.Frag} {mg : Str → Option Value} {base : Heap} {f c aT : Addr} {fd : FuncData} {NS : List Str}
theorem ok_gs (F : Dn K mg "guess" s_guess f fd c) (B : Bl mg) (X_BadType : Xc K mg "BadType" aT) (G_new : CalX P w K mg base 2 "new_type" (spNew K aT)) (G_with : Cal P w K mg base 1 "with_name" (spWith K)) : ∀ k, CalX P w K mg base k "guess" (spGs K aT k)
  | 0 => F.vacX (ps := ["bare", "context", "count", "pairs"]) (fun _ _ _ _ _ _ us hl => match us, hl with | [_, _, _, _], _ => rfl) fun vs H Q E ⟨_, _, _, _, t, _, _, _, _, _, _, h, _⟩ => by have := t.dep_pos; omega
  | 1 => F.vacX (ps := ["bare", "context", "count", "pairs"]) (fun _ _ _ _ _ _ us hl => match us, hl with | [_, _, _, _], _ => rfl) fun vs H Q E ⟨_, _, _, _, t, _, _, _, _, _, _, h, _⟩ => by have := t.dep_pos; omega
  | 2 => F.vacX (ps := ["bare", "context", "count", "pairs"]) (fun _ _ _ _ _ _ us hl => match us, hl with | [_, _, _, _], _ => rfl) fun vs H Q E ⟨_, _, _, _, t, _, _, _, _, _, _, h, _⟩ => by have := t.dep_pos; omega
  | k + 3 => ⟨f, fd, ["bare", "context", "count", "pairs"], step_gs F B X_BadType G_new G_with (k + 2) (by omega) (ok_gs F B X_BadType G_new G_with (k + 2)), F.mgf, F.kp, F.binds (fun _ _ _ _ _ _ us hl => match us, hl with | [_, _, _, _], _ => rfl)⟩
theorem Ext.back0 {H H1 : Hp} {p : Addr} (e : Ext [] H H1) (h : H1 p = none) : H p = none := by
  cases q : H p with
  | none => rfl
  | some o =>
    exfalso
    cases o with
    | tbl ps => rw [e.tbl p ps q (fun z => nomatch z)] at h; cases h
    | _ => rw [e.keep p _ q (fun z => nomatch z) (fun ps z => by cases z)] at h; cases h
def spMark0 : Sp := fun vs H Q _ => ∃ n : Nat, vs = [.int (n : Nat)] ∧ n < 26 ∧ Q (.str (ltr n)) H
theorem mark0 (G : CalX P w K mg base 1 "mark" (spMark aT)) : Cal P w K mg base 1 "mark" spMark0 := G.cal fun vs H Q E ⟨n, e, h, q⟩ => ⟨n, e, fun _ => q, fun z => by omega⟩
abbrev s_principal : Stmt := top 21
abbrev n_principal : List Str := ["bare", "count", "pairs", "what", "free", "k", "table"]
theorem sc_principal : FnScope n_principal ["bare"] (defScope s_principal) := ⟨rfl, rfl, rfl, by decide +kernel, rfl, by decide +kernel, by decide +kernel⟩
def spPr (K : PySem.W.Frag) : Sp := fun vs H Q _ => ∃ (v : V) (b : Bt), vs = [v] ∧ Td K H v b.data ∧ b.dep + 2 ≤ 60 ∧
  (gs b [] 0 = none → ∀ H', Ext [] H H' → Q .non H') ∧ ∀ g m ps, gs b [] 0 = some (g, m, ps) → g.dep ≤ 60 ∧ ∃ N r, runU (LET.take m) N [] ps.reverse = some r ∧ SafeU LET (LET.take m) N [] ps.reverse ∧ (r = none → ∀ H', Ext [] H H' → Q .non H') ∧ ∀ l, r = some l → UW LET (LET.take m) l [] → ∀ v' H', Ext [] H H' → Td K H' v' (g.fill (lk l)).data → Q v' H'
theorem ok_prin (F : Dn K mg "principal" s_principal f fd c) (B : Bl mg) (XT : Xc K mg "BadType" aT) (exT : PySem.W.exmOne K (.ref aT) (.ref aT) = some true) (G_mark : Cal P w K mg base 1 "mark" spMark0) (G_guess : CalX P w K mg base 60 "guess" (spGs K aT 60)) (G_unified : Cal P w K mg base 65 "unified" (spUniG K LET)) (G_laid : Cal P w K mg base 64 "laid" (spLay K 64)) : Cal P w K mg base 66 "principal" (spPr K) := by
  refine F.cal (ps := ["bare"]) (fun _ _ _ _ _ _ us hl => match us, hl with | [_], _ => rfl) sc_principal (fun vs H Q E h => ?_) (fun A outer s H vs Q E hr h => ?_)
  · obtain ⟨_, _, rfl, _⟩ := h; rfl
  obtain ⟨v, b, rfl, hb, hd, q0, q1⟩ := h
  refine ⟨_, (pss_cons (ps_par (i := 1) (j := 2) (by rfl) sc_principal.nd rfl rfl (by decide) rfl rfl (pa_cons (pe_lstF (pa_cons pe_int pa_nil)) (pa_cons (pe_lstF pa_nil) pa_nil)) (by rfl))
    (pss_cons (ps_try_only (X := CxD P w K mg base n_principal "principal" s_principal f c A outer s H E) (tb := fun W D σ H => ∃ Ech : XK, (∀ cls d σ' H', Ech cls d H' → W cls d σ' H') ∧ (tAsg (tCall (spGs K aT 60) [] Ech (tCons (tVar 0) (tCons tDNewF (tCons (tVar 1) (tCons (tVar 2) tNil))))) (gName 3)) D σ H) (ts := fun _ _ _ => tRet (tC .non)) (c := .ref aT) rfl rfl ⟨rfl, by decide, .inl XT.g⟩ LamX.takes0 (fun W pn xe tk _ => ⟨fun pins s' σ H' D I ⟨Ech, hW, h⟩ => (pss_one (ps_set (i := 3) sc_principal.nd rfl (by first | exact Or.inl rfl | exact Or.inr rfl) (pe_cX G_guess hr (by omega) tk hW (by rfl) (pa_cons (pv 0) (pa_cons pe_dnewF (pa_cons (pv 1) (pa_cons (pv 2) pa_nil))))))).run pins s' σ H' D I h⟩) (fun a oe cls d pn _ _ => pss_one (ps_ret pe_non)))
    (pss_cons (ps_set (i := 4) sc_principal.nd rfl (by first | exact Or.inl rfl | exact Or.inr rfl) (pe_callTy (call_tupleK K) (by rfl) B.b_tuple (by decide +kernel) (pa_cons (pe_lcF (own := [("k", 5)]) rfl sc_principal.nd (pi_range1 (by rfl) B.b_range (pa_cons (pe_ix ix_lstF (pv 1) pe_int (fun _ _ => rfl)) pa_nil)) (blkOk_by (own := [("k", 5)]) (N := n_principal) (sc := defScope s_principal) (by decide +kernel)) (fun _ _ _ _ _ => (pg_name (i := 5) sc_principal.nd rfl (by first | exact Or.inl rfl | exact Or.inr rfl))) (fun _ _ _ _ _ => pts_nil) (fun _ _ _ _ _ => (C8.pe_c G_mark hr (by omega) (by rfl) (pa_cons (pv 5) pa_nil)))) pa_nil)))
    (pss_cons (ps_set (i := 6) sc_principal.nd rfl (by first | exact Or.inl rfl | exact Or.inr rfl) (C8.pe_c G_unified hr (by omega) (by rfl) (pa_cons (pv 2) (pa_cons (pv 4) pa_nil))))
    (pss_one (ps_ret (pe_ifExp (pt_cmpR op_isN (pv 6) pe_non (nomark _)) pe_non (C8.pe_c G_laid hr (by omega) (by rfl) (pa_cons (pv 3) (pa_cons (pv 6) pa_nil)))))))))), ?_⟩
  walk_at "rd"
  refine ⟨by decide, fun cn H1 n1 e1 h1 => ⟨by decide, fun pr H2 n2 e2 h2 => ⟨_, _, ⟨rfl, rfl⟩, ?_⟩⟩⟩
  refine ⟨fun cls _ H' => cls = .ref aT ∧ Q .non H', fun cls d σ' H' ⟨e, z⟩ => ?_, ?_⟩
  · subst e
    exact ⟨true, exT, fun _ a _ => z, fun y => absurd y (by decide)⟩
  intro b3 H3 n3 e3 h3
  have hne : cn ≠ pr := fun e => by rw [← e, h1] at n2; cases n2
  have npr := e1.back0 n2
  have e03 := e1.trans (e2.trans e3)
  have fresh : ∀ {H4 : Hp}, Ext [cn, pr] H3 H4 → Ext [] H H4 := fun e => (Ext.refl [] H).overC npr (e03.overC n1 e)
  refine ⟨v, b3, cn, pr, b, [], 0, [], [], rfl, ⟨hb.ext e03, ⟨[], h3, .nil⟩, by simp only [List.length_nil]; omega, (e2.trans e3).lst0 h1, e3.lst0 h2, .nil, hne, by decide, Nat.le_refl _⟩, hd, fun g m ps hg v' H4 ws e4 a4 d4 => ?_, fun hg H4 e4 => ⟨rfl, q0 hg H4 (fresh e4)⟩⟩
  have hz : (100000 : Nat) ≤ sizeLine := by decide
  obtain ⟨hgd, N, r, hrun, hsafe, qn, qs⟩ := q1 g m ps hg
  have m26 := a4.n26
  refine ⟨cn, rfl, _, a4.hc, _, atI_0, m, rfl, by omega, by omega, ?_⟩
  rw [show ((m : Nat) : Int).toNat = m by omega]
  refine lc_go walk_range (fun D i ys H' => Ext [] H4 H' ∧ ys = (LET.take i).map V.str) (fun D hD => ⟨Ext.new hD, rfl⟩) (fun _ _ _ _ _ => trivial) (fun D i x ys H5 H6 hD hi ⟨e5, hys⟩ hl hDy y => ?_) fun D ys H5 hD ⟨e5, hys⟩ hDy hl => ?_
  · obtain ⟨rfl, rfl⟩ := y
    walk_at "rd"
    refine ⟨i, by rw [Int.zero_add], by omega, ys, hDy, by omega, ys ++ [V.str (ltr i)], by rw [List.length_append]; simp; omega, upd_same, Ext.over e5 hD (Ext.setL List.mem_cons_self hDy), ?_⟩
    rw [take_succ (by omega), List.map_append, hys]; rfl
  subst hys
  refine ⟨D, rfl, _, hDy, fun pf H6 e6 h6 => ?_⟩
  have e46 := e5.trans e6
  have hT := a4.hy.ext e46
  rw [List.nil_append] at hT
  have hpre : Ext [] H H6 := (fresh e4).trans e46
  have ltk : (LET.take m).length ≤ 90 := by rw [List.length_take, let_len]; omega
  refine ⟨pr, pf, ws, ps, LET.take m, N, r, rfl, e46.lst0 a4.hp, hT, h6, ltk, fun x hx => List.mem_of_mem_take hx, hrun, hsafe, fun hr0 H7 e7 => ?_, fun l hr0 hW a kvs H7 e7 h7 t7 => ?_⟩
  · dsimp only
    rw [if_pos rfl]
    exact qn hr0 H7 (hpre.trans e7)
  · dsimp only
    rw [if_neg (by simp)]
    exact ⟨v', g, a, l, rfl, (d4.ext e46).ext e7, by omega, ⟨kvs, dctF_dK h7, t7⟩, fun v8 H8 e8 d8 => qs l hr0 hW v8 H8 ((hpre.trans e7).trans e8) d8⟩
end
end Sq
set_option Elab.async false
set_option linter.all false
set_option maxRecDepth 100000
set_option maxHeartbeats 2000000
namespace Sq
open PySem PySem.Spec PyProof.Rows L2
/-! ### bare terms: their texts, shapes -/
namespace Bt
def nms : Bt → List Str
  | var x => [x]
  | fn x t => x :: t.nms
  | app t u => t.nms ++ u.nms
  | pair t u => t.nms ++ u.nms
  | fst t => t.nms
  | snd t => t.nms
def sz : Bt → Nat
  | var _ => 1
  | fn _ t => t.sz + 1
  | app t u => t.sz + u.sz + 1
  | pair t u => t.sz + u.sz + 1
  | fst t => t.sz + 1
  | snd t => t.sz + 1
theorem show_ok : ∀ t : Bt, t.data.showable = true := fun t => by
  induction t <;> simp_all [data, PyData.showable, PyData.showableAll]
theorem depth_data : ∀ t : Bt, t.data.depth = t.dep
  | var x => by simp [data, PyData.depth, PyData.depthAll, dep]
  | fn x t => by simp [data, PyData.depth, PyData.depthAll, dep, depth_data t]
  | app t u => by simp [data, PyData.depth, PyData.depthAll, dep, depth_data t, depth_data u]
  | pair t u => by simp [data, PyData.depth, PyData.depthAll, dep, depth_data t, depth_data u]
  | fst t => by simp [data, PyData.depth, PyData.depthAll, dep, depth_data t]
  | snd t => by simp [data, PyData.depth, PyData.depthAll, dep, depth_data t]
theorem kw_ok : PyData.strOk "var" = true ∧ PyData.strOk "fun" = true ∧ PyData.strOk "app" = true ∧ PyData.strOk "pair" = true ∧ PyData.strOk "first" = true ∧ PyData.strOk "second" = true := by decide +kernel
theorem lay_data : ∀ t : Bt, (∀ x ∈ t.nms, PyData.strOk x = true) → t.data.canLay0 = true := by
  obtain ⟨k1, k2, k3, k4, k5, k6⟩ := kw_ok
  intro t
  induction t with
  | var x => intro h; simp only [data, Fm.lay_tup, Fm.lay_cons, Fm.lay_nil, Fm.lay_str, k1, h x (by simp [nms]), Bool.and_self]
  | fn x t ih => intro h; simp only [data, Fm.lay_tup, Fm.lay_cons, Fm.lay_nil, Fm.lay_str, k2, h x (by simp [nms]), ih fun y hy => h y (by simp [nms, hy]), Bool.and_self]
  | app t u i1 i2 => intro h; simp only [data, Fm.lay_tup, Fm.lay_cons, Fm.lay_nil, Fm.lay_str, k3, i1 fun y hy => h y (by simp [nms, hy]), i2 fun y hy => h y (by simp [nms, hy]), Bool.and_self]
  | pair t u i1 i2 => intro h; simp only [data, Fm.lay_tup, Fm.lay_cons, Fm.lay_nil, Fm.lay_str, k4, i1 fun y hy => h y (by simp [nms, hy]), i2 fun y hy => h y (by simp [nms, hy]), Bool.and_self]
  | fst t ih => intro h; simp only [data, Fm.lay_tup, Fm.lay_cons, Fm.lay_nil, Fm.lay_str, k5, ih fun y hy => h y (by simp [nms, hy]), Bool.and_self]
  | snd t ih => intro h; simp only [data, Fm.lay_tup, Fm.lay_cons, Fm.lay_nil, Fm.lay_str, k6, ih fun y hy => h y (by simp [nms, hy]), Bool.and_self]
theorem nx_ok {x : Str} (h : x ∈ NX) : PyData.strOk x = true := by
  have : ∀ x ∈ NX, PyData.strOk x = true := by decide +kernel
  exact this x h
theorem shaped {t : Bt} (h : ∀ x ∈ t.nms, x ∈ NX) (hd : t.dep ≤ 60) : SeqAt.shaped t.data = true := by
  unfold SeqAt.shaped
  rw [lay_data t fun x hx => nx_ok (h x hx), depth_data, decide_eq_true (by omega)]
  rfl
theorem show_len : ∀ t : Bt, (∀ x ∈ t.nms, x ∈ NX) → t.data.shown.length ≤ 30 * t.sz := by
  obtain ⟨k1, k2, k3, k4, k5, k6⟩ := kw_repr
  intro t
  induction t with
  | var x =>
    intro h
    have h1 := rep_nx (h x (by simp [nms]))
    have := tup_len [reprText (Str.ofString "var"), reprText x] (by simp)
    simp only [piled, List.map_cons, List.map_nil, List.sum_cons, List.sum_nil] at this
    refine Nat.le_trans this ?_
    simp only [sz]; omega
  | fn x t ih =>
    intro h
    have h1 := rep_nx (h x (by simp [nms]))
    have h2 := ih fun y hy => h y (by simp [nms, hy])
    have := tup_len [reprText (Str.ofString "fun"), reprText x, t.data.shown] (by simp)
    simp only [piled, List.map_cons, List.map_nil, List.sum_cons, List.sum_nil] at this
    refine Nat.le_trans this ?_
    simp only [sz]; omega
  | app t u i1 i2 =>
    intro h
    have h1 := i1 fun y hy => h y (by simp [nms, hy])
    have h2 := i2 fun y hy => h y (by simp [nms, hy])
    have := tup_len [reprText (Str.ofString "app"), t.data.shown, u.data.shown] (by simp)
    simp only [piled, List.map_cons, List.map_nil, List.sum_cons, List.sum_nil] at this
    refine Nat.le_trans this ?_
    simp only [sz]; omega
  | pair t u i1 i2 =>
    intro h
    have h1 := i1 fun y hy => h y (by simp [nms, hy])
    have h2 := i2 fun y hy => h y (by simp [nms, hy])
    have := tup_len [reprText (Str.ofString "pair"), t.data.shown, u.data.shown] (by simp)
    simp only [piled, List.map_cons, List.map_nil, List.sum_cons, List.sum_nil] at this
    refine Nat.le_trans this ?_
    simp only [sz]; omega
  | fst t ih =>
    intro h
    have h2 := ih fun y hy => h y (by simp [nms, hy])
    have := tup_len [reprText (Str.ofString "first"), t.data.shown] (by simp)
    simp only [piled, List.map_cons, List.map_nil, List.sum_cons, List.sum_nil] at this
    refine Nat.le_trans this ?_
    simp only [sz]; omega
  | snd t ih =>
    intro h
    have h2 := ih fun y hy => h y (by simp [nms, hy])
    have := tup_len [reprText (Str.ofString "second"), t.data.shown] (by simp)
    simp only [piled, List.map_cons, List.map_nil, List.sum_cons, List.sum_nil] at this
    refine Nat.le_trans this ?_
    simp only [sz]; omega
end Bt
/-- a term's bare one is no larger -/
theorem bare_le : ∀ (t : Tm) (b : Bt), t.bare = some b → b.sz ≤ t.sz ∧ b.dep ≤ t.dep ∧ ∀ x ∈ b.nms, x ∈ t.nms := by
  intro t
  induction t with
  | var x => intro b h; cases h; exact ⟨Nat.le_refl _, Nat.le_refl _, fun y hy => hy⟩
  | fn x f t ih =>
    intro b h
    simp only [Tm.bare, Option.map_eq_some_iff] at h
    obtain ⟨b, h, rfl⟩ := h
    obtain ⟨h1, h2, h3⟩ := ih b h
    refine ⟨by simp only [Bt.sz, Tm.sz]; omega, by simp only [Bt.dep, Tm.dep]; omega, fun y hy => ?_⟩
    simp only [Bt.nms, List.mem_cons] at hy
    simp only [Tm.nms, List.mem_cons]
    exact hy.imp id (h3 y)
  | app t u i1 i2 =>
    intro b h
    simp only [Tm.bare] at h
    split at h
    · rename_i a c e1 e2
      cases h
      obtain ⟨h1, h2, h3⟩ := i1 a e1
      obtain ⟨k1, k2, k3⟩ := i2 c e2
      refine ⟨by simp only [Bt.sz, Tm.sz]; omega, by simp only [Bt.dep, Tm.dep]; omega, fun y hy => ?_⟩
      simp only [Bt.nms, List.mem_append] at hy
      simp only [Tm.nms, List.mem_append]
      exact hy.imp (h3 y) (k3 y)
    · cases h
  | pair t u i1 i2 =>
    intro b h
    simp only [Tm.bare] at h
    split at h
    · rename_i a c e1 e2
      cases h
      obtain ⟨h1, h2, h3⟩ := i1 a e1
      obtain ⟨k1, k2, k3⟩ := i2 c e2
      refine ⟨by simp only [Bt.sz, Tm.sz]; omega, by simp only [Bt.dep, Tm.dep]; omega, fun y hy => ?_⟩
      simp only [Bt.nms, List.mem_append] at hy
      simp only [Tm.nms, List.mem_append]
      exact hy.imp (h3 y) (k3 y)
    · cases h
  | fst t ih =>
    intro b h
    simp only [Tm.bare, Option.map_eq_some_iff] at h
    obtain ⟨b, h, rfl⟩ := h
    obtain ⟨h1, h2, h3⟩ := ih b h
    exact ⟨by simp only [Bt.sz, Tm.sz]; omega, by simp only [Bt.dep, Tm.dep]; omega, h3⟩
  | snd t ih =>
    intro b h
    simp only [Tm.bare, Option.map_eq_some_iff] at h
    obtain ⟨b, h, rfl⟩ := h
    obtain ⟨h1, h2, h3⟩ := ih b h
    exact ⟨by simp only [Bt.sz, Tm.sz]; omega, by simp only [Bt.dep, Tm.dep]; omega, h3⟩
  | _ => intro b h; cases h
def bareD (t : Tm) : PyData := match t.bare with
  | some b => b.data
  | none => .none
theorem bareD_none (t : Tm) : PyData.eqv (bareD t) .none = t.bare.isNone := by
  unfold bareD
  cases t.bare with
  | none => rw [PyData.eqv]; rfl
  | some b => cases b <;> (simp only [Bt.data]; rw [PyData.eqv]; rfl)
end Sq
set_option Elab.async false
set_option linter.all false
set_option maxRecDepth 100000
set_option maxHeartbeats 4000000
namespace Sq
open PySem PySem.Spec PyProof.Rows L2 RZ
local macro_rules | `(tactic| walk_at "rd") => `(tactic| simp only [tCont, tNever, iEnumL, iRng1, rPop0, rTIndex, rKdIx, rKdNin, tDG2, rU, tTIdx, iZipS, rDictC, rDictP, rIn, rInL, tDisp, tPairs, rIndexS, wipe, tNoPart, tDG2, tDGF, tDInF, tDNInF, sDPutF, tDNewF, rSortD, rInS, rInT, rEqLF, tDcF, tDc2F, tLcF, tForF, tAllF, tAnyF, tSumF, iStr, iEnumF, iZipF, iKeysF, iItems, tLZip, tYes, tSeq, tIfS, tNext, tRet, tRetN, tDrop, tTest, tB, tNot, tAnd, tOr, tChain, tOp, tUn, tCB, tCons, tNil, tC, tVar, tIf, tAndV, tOrV, tNotV, tAsg, tPar, tPar3, gName, gSub, gTupF, gCons, gNil, tTupF, tLstF, rI0, rI, rIxF, rIxG, rIxS, rSetF, rSlF, rCatF, rCatL, rTupL, rListT, rListL, rLenT, rLenL, iTupF, iLstF, rAppF, rExtF, rPopF, tBM, tBM0, tSl, tPart, rEq, rNe, tCall, L2.start,
  List.map_cons, List.map_nil, List.length_cons, List.length_nil, Nat.sub_self, List.replicate, List.append_nil, List.cons_append, List.nil_append, List.getElem?_cons_zero, List.getElem?_cons_succ, List.set_cons_zero, List.set_cons_succ,
  exSl, exI, exI2, exB, exS, exR, ex1, ex1', V.int.injEq, V.bl.injEq, V.ref.injEq, V.str.injEq, Option.some.injEq, List.cons.injEq, and_true, true_and, reduceCtorEq, false_and, and_false, or_false, false_or, exists_false, exists_and_left, exists_eq_left', decide_eq_true_eq, decide_true, decide_false, if_false, if_true, ite_true, ite_false, Bool.false_eq_true, Bool.not_true, Bool.not_false, Nat.reduceAdd, Nat.reduceSub, Nat.zero_add, atI_0, atI_1, atI_2, atI_3, ixN_0, ixN_1, ixN_2, cutV_1, cutV_2, Option.some.injEq, HO.lst.injEq, HO.dK.injEq, scal])
local macro_rules | `(tactic| walk_at "rdc") => `(tactic| simp (config := { contextual := true }) only [tCont, tNever, iEnumL, iRng1, rPop0, rTIndex, rKdIx, rKdNin, tDG2, rU, tTIdx, iZipS, rDictC, rDictP, rIn, rInL, tDisp, tPairs, rIndexS, wipe, tNoPart, tDG2, tDGF, tDInF, tDNInF, sDPutF, tDNewF, rSortD, rInS, rInT, rEqLF, tDcF, tDc2F, tLcF, tForF, tAllF, tAnyF, tSumF, iStr, iEnumF, iZipF, iKeysF, iItems, tLZip, tYes, tSeq, tIfS, tNext, tRet, tRetN, tDrop, tTest, tB, tNot, tAnd, tOr, tChain, tOp, tUn, tCB, tCons, tNil, tC, tVar, tIf, tAndV, tOrV, tNotV, tAsg, tPar, tPar3, gName, gSub, gTupF, gCons, gNil, tTupF, tLstF, rI0, rI, rIxF, rIxG, rIxS, rSetF, rSlF, rCatF, rCatL, rTupL, rListT, rListL, rLenT, rLenL, iTupF, iLstF, rAppF, rExtF, rPopF, tBM, tBM0, tSl, tPart, rEq, rNe, tCall, L2.start,
  List.map_cons, List.map_nil, List.length_cons, List.length_nil, Nat.sub_self, List.replicate, List.append_nil, List.cons_append, List.nil_append, List.getElem?_cons_zero, List.getElem?_cons_succ, List.set_cons_zero, List.set_cons_succ,
  exSl, exI, exI2, exB, exS, exR, ex1, ex1', V.int.injEq, V.bl.injEq, V.ref.injEq, V.str.injEq, Option.some.injEq, List.cons.injEq, and_true, true_and, reduceCtorEq, false_and, and_false, or_false, false_or, exists_false, exists_and_left, exists_eq_left', decide_eq_true_eq, decide_true, decide_false, if_false, if_true, ite_true, ite_false, Bool.false_eq_true, Bool.not_true, Bool.not_false, Nat.reduceAdd, Nat.reduceSub, Nat.zero_add, atI_0, atI_1, atI_2, atI_3, ixN_0, ixN_1, ixN_2, cutV_1, cutV_2, Option.some.injEq, HO.lst.injEq, HO.dK.injEq, scal, *])
section
variable {P : Program} {w : World} {K : PySem.W.Frag} {mg : Str → Option Value} {base : Heap} {f c aT : Addr} {fd : FuncData} {NS : List Str}
abbrev s__law_bare : Stmt := top 34
abbrev n__law_bare : List Str := ["term", "kind", "inner", "part"]
theorem sc__law_bare : FnScope n__law_bare ["term"] (defScope s__law_bare) := ⟨rfl, rfl, rfl, by decide +kernel, rfl, by decide +kernel, by decide +kernel⟩
def spBare (K : PySem.W.Frag) (k : Nat) : Sp := fun vs H Q _ => ∃ (v : V) (t : Tm), vs = [v] ∧ Td K H v t.data ∧ t.dep ≤ k ∧ t.dep ≤ 60 ∧ (∀ x ∈ t.nms, x ∈ NX) ∧ ∀ v' H', Ext [] H H' → Td K H' v' (bareD t) → Q v' H'
theorem ok_bare (F : Dn K mg "_law_bare" s__law_bare f fd c) (B : Bl mg) : ∀ k, Cal P w K mg base k "_law_bare" (spBare K k) := by
  refine F.calRec (ps := ["term"]) (fun _ _ _ _ _ _ us hl => match us, hl with | [_], _ => rfl) (fun vs H Q E ⟨v, t, _, _, h, _⟩ => by have := t.dep_pos; omega) fun k G__law_bare => ?_
  refine F.ok sc__law_bare (fun vs H Q E h => ?_) (fun A outer s H vs Q E hr h => ?_)
  · obtain ⟨_, _, rfl, _⟩ := h; rfl
  obtain ⟨v, t, rfl, ht, hd, hd60, hn, q⟩ := h
  refine ⟨_, (pss_cons (ps_set (i := 1) sc__law_bare.nd rfl (by first | exact Or.inl rfl | exact Or.inr rfl) (pe_ix (ix_tupK K) (pv 0) pe_int (fun _ _ => rfl)))
    (pss_cons (ps_if (pt_cmpR op_eq (pv 1) pe_str (nomark _)) (pss_one (ps_ret (pv 0))) pss_nil)
    (pss_cons (ps_if (pt_cmpR (op_inQ K) (pv 1) (pe_lstF (pa_cons pe_str (pa_cons pe_str (pa_cons pe_str (pa_cons pe_str (pa_cons pe_str pa_nil)))))) (by rfl)) (pss_one (ps_ret pe_non)) pss_nil)
    (PSs.hide (pss_cons (ps_setLcF (i := 2) (own := [("part", 3)]) rfl sc__law_bare.nd rfl rfl (sw_true rfl rfl rfl (by decide +kernel)) (pi_tupK K (pe_ifExp (pt_cmpR op_eq (pv 1) pe_str (nomark _)) (pe_slice (sl_tupK K) (pv 0) (po_some pe_int) po_none) (pe_slice (sl_tupK K) (pv 0) (po_some pe_int) po_none))) (blkOk_by (own := [("part", 3)]) (N := n__law_bare) (sc := defScope s__law_bare) (by decide +kernel)) (fun _ _ _ _ _ => (pg_name (i := 3) sc__law_bare.nd rfl (by first | exact Or.inl rfl | exact Or.inr rfl))) (fun _ _ _ _ _ => pts_nil) (fun _ _ _ _ _ => (C8.pe_c G__law_bare hr (by omega) (by rfl) (pa_cons (pv 3) pa_nil))))
    (pss_cons (ps_if (pt_cmpR (op_inLK K (unitsT hr)) pe_non (pv 2) (by rfl)) (pss_one (ps_ret pe_non)) pss_nil)
    (pss_one (ps_ret (pe_ifExp (pt_cmpR op_eq (pv 1) pe_str (nomark _)) (pe_tupK K (pa_cons pe_str (pa_cons (pe_ix (ix_tupK K) (pv 0) pe_int (fun _ _ => rfl)) (pa_cons (pe_ix ix_lstF (pv 2) pe_int (fun _ _ => rfl)) pa_nil)))) (pe_op (op_catK K) (pe_tupK K (pa_cons (pv 1) pa_nil)) (pe_callTy (call_tupleK K) (by rfl) B.b_tuple (by decide +kernel) (pa_cons (pv 2) pa_nil)))))))))))), ?_⟩
  walk_at "rd"
  have hz : (100000 : Nat) ≤ sizeLine := by decide
  generalize hT : (hideS _ : TS) = T
  have nth : ∀ {H' : Hp} {ws : List V} {us : List Tm}, TdAll K H' ws (us.map bareD) → (∀ u ∈ us, ∀ x ∈ u.nms, x ∈ NX) → (∀ u ∈ us, u.dep ≤ 60) → us.length ≤ 2 → SeqAt.shaped (.list (us.map bareD)) = true := fun {H' ws us} _ hn hd hl => by
    have key : ∀ us : List Tm, (∀ u ∈ us, ∀ x ∈ u.nms, x ∈ NX) → (∀ u ∈ us, u.dep ≤ 60) → PyData.canLayAll0 (us.map bareD) = true ∧ PyData.depthAll (us.map bareD) ≤ 60 := fun us => by
      induction us with
      | nil => exact fun _ _ => ⟨Fm.lay_nil, by rw [List.map_nil, PyData.depthAll]; omega⟩
      | cons u us ih =>
        intro hn hd
        obtain ⟨i1, i2⟩ := ih (fun u hu => hn u (List.mem_cons_of_mem _ hu)) fun u hu => hd u (List.mem_cons_of_mem _ hu)
        have hb : (bareD u).canLay0 = true ∧ (bareD u).depth ≤ 60 := by
          unfold bareD
          cases e : u.bare with
          | none => exact ⟨by rw [PyData.canLay0], by rw [PyData.depth]; omega⟩
          | some b =>
            obtain ⟨_, h2, h3⟩ := bare_le u b e
            have := hd u List.mem_cons_self
            exact ⟨b.lay_data fun x hx => Bt.nx_ok (hn u List.mem_cons_self x (h3 x hx)), by rw [Bt.depth_data]; omega⟩
        rw [List.map_cons, PyData.canLayAll0, PyData.depthAll, i1, hb.1]
        exact ⟨rfl, by omega⟩
    obtain ⟨h1, h2⟩ := key us hn hd
    unfold SeqAt.shaped
    rw [PyData.canLay0, PyData.depth, h1, decide_eq_true (by omega)]
    rfl
  have any_n : ∀ us : List Tm, ((us.map bareD).any fun z => PyData.eqv z .none) = us.any fun u => u.bare.isNone := fun us => by
    induction us with
    | nil => rfl
    | cons u us ih => rw [List.map_cons, List.any_cons, List.any_cons, ih, bareD_none]
  have no_kinds : ∀ (a : Str) (R1 : Prop) (R : Hp → Prop) (H : Hp), (a = "fun" ∨ a = "app" ∨ a = "pair" ∨ a = "first" ∨ a = "second") → (∀ H2, Ext [] H H2 → R H2) → 5 ≤ sizeLine ∧ ∀ (p : Addr) (H2 : Hp), H p = none → Ext [] H H2 → H2 p = some (HO.lst [V.str (Str.ofString "left"), V.str (Str.ofString "right"), V.str (Str.ofString "case"), V.str (Str.ofString "unit"), V.str (Str.ofString "absurd")]) →
      ∃ x, (SqL K H2 p x ∨ SqT K H2 p x) ∧ flatV (V.str a) = true ∧ x.all flatV = true ∧ if inV (V.str a) x = true then Q V.non H2 else R H2 := fun a R1 R H ha r => by
    refine ⟨by omega, fun p H2 n2 e2 h2 => ⟨_, .inl (SqL.of h2), rfl, rfl, ?_⟩⟩
    have : inV (V.str a) [V.str (Str.ofString "left"), V.str (Str.ofString "right"), V.str (Str.ofString "case"), V.str (Str.ofString "unit"), V.str (Str.ofString "absurd")] = false := by
      rcases ha with e | e | e | e | e <;> subst e <;> decide +kernel
    rw [this, if_neg (by decide)]
    exact r H2 e2
  have yes_kinds : ∀ (a : Str) (R : Hp → Prop) (H0 : Hp), Ext [] H H0 → (a = "left" ∨ a = "right" ∨ a = "case" ∨ a = "unit" ∨ a = "absurd") → bareD t = .none → 5 ≤ sizeLine ∧ ∀ (p : Addr) (H2 : Hp), H0 p = none → Ext [] H0 H2 → H2 p = some (HO.lst [V.str (Str.ofString "left"), V.str (Str.ofString "right"), V.str (Str.ofString "case"), V.str (Str.ofString "unit"), V.str (Str.ofString "absurd")]) →
      ∃ x, (SqL K H2 p x ∨ SqT K H2 p x) ∧ flatV (V.str a) = true ∧ x.all flatV = true ∧ if inV (V.str a) x = true then Q V.non H2 else R H2 := fun a R H0 e0 ha hb => by
    refine ⟨by omega, fun p H2 n2 e2 h2 => ⟨_, .inl (SqL.of h2), rfl, rfl, ?_⟩⟩
    have : inV (V.str a) [V.str (Str.ofString "left"), V.str (Str.ofString "right"), V.str (Str.ofString "case"), V.str (Str.ofString "unit"), V.str (Str.ofString "absurd")] = true := by
      rcases ha with e | e | e | e | e <;> subst e <;> decide +kernel
    rw [this, if_pos rfl]
    exact q _ H2 (e0.trans e2) (by rw [hb]; exact .non)
  obtain ⟨p, ws, rfl, hp, hw⟩ := tm_hd ht
  refine ⟨p, rfl, _, hp, _, atI_0, rfl, ?_⟩
  have tail : ∀ (κ : Str) (us : List Tm) (H2 : Hp), κ ≠ "fun" → Ext [] H H2 → tupF K H p = some (.str κ :: ws) → TdAll K H ws (us.map Tm.data) → (∀ u ∈ us, u.dep ≤ k ∧ u.dep ≤ 60) → (∀ u ∈ us, ∀ x ∈ u.nms, x ∈ NX) → us.length ≤ 2 → ((us.any fun u => u.bare.isNone) = true → ∀ H', Ext [] H H' → Q .non H') → ((us.any fun u => u.bare.isNone) = false → ∀ v' H', Ext [] H H' → Td K H' v' (.tuple (.str κ :: us.map bareD)) → Q v' H') →
      T { nx := fun _ H' => Q V.non H', rt := Q } [some (V.ref p), some (V.str κ), none, none] H2 := by
    intro κ us H2 hκ e2 hp hws hdu hnu hlu qn qs
    rw [← hT, hideS_eq]
    walk_at "rd"
    have hc1 : cutV (V.str κ :: ws) (some 1) none = ws := cutV_1
    have hwl := hws.length
    rw [List.length_map] at hwl
    rw [if_neg (fun z => hκ z)]
    refine ⟨_, tupF_ext e2 hp, fun p1 H3 e3 h3 => ⟨_, h3, ?_⟩⟩
    rw [hc1] at h3
    refine lc_map (ds := us.map bareD) h3 (by rw [List.length_map]; omega) (by omega) (fun x => rfl) (fun j x d H4 R hx hd4 e4 r => ?_) fun D ys H5 hD e5 hDy hyd => ?_
    · walk_at "rd"
      rw [List.getElem?_map] at hd4
      cases hu : us[j]? with
      | none => rw [hu] at hd4; cases hd4
      | some u =>
        rw [hu] at hd4
        cases hd4
        obtain ⟨d', hd', hx'⟩ := hws.get hx
        rw [List.getElem?_map, hu] at hd'
        cases hd'
        have hum := List.mem_of_getElem? hu
        exact ⟨x, u, rfl, (hx'.ext (e2.trans e3)).ext e4, (hdu u hum).1, (hdu u hum).2, hnu u hum, fun v' H' e' d' => r v' H' e' d'⟩
    refine ⟨.none, .non, D, rfl, _, hDy, _, hyd, by decide +kernel, nth hyd hnu (fun u hu => (hdu u hu).2) hlu, ?_⟩
    have e05 := (e2.trans e3).trans e5
    rw [any_n]
    by_cases ha : (us.any fun u => u.bare.isNone) = true
    · rw [if_pos ha]
      exact qn ha H5 e05
    · rw [if_neg ha, if_neg (fun z => hκ z)]
      refine ⟨by omega, fun p6 H6 e6 h6 => ⟨D, rfl, _, e6.lst0 hDy, fun p7 H7 e7 h7 => ⟨_, tupF_ext e7 h6, _, h7, by have := hyd.length; rw [List.length_map] at this; simp only [List.length_singleton]; omega, fun p8 H8 e8 h8 => ?_⟩⟩⟩
      exact qs (by simpa using ha) _ H8 (e05.trans ((e6.trans e7).trans e8)) (.tup h8 (.cons (.str _) (((hyd.ext e6).ext e7).ext e8)))
  cases t with
  | var x => exact ys (q _ H (Ext.refl _ _) ht)
  | lft t f => exact no (a := "left") (by decide +kernel) (yes_kinds _ _ H (Ext.refl _ _) (.inl rfl) rfl)
  | rgt f t => exact no (a := "right") (by decide +kernel) (yes_kinds _ _ H (Ext.refl _ _) (.inr (.inl rfl)) rfl)
  | cs t x u y z => exact no (a := "case") (by decide +kernel) (yes_kinds _ _ H (Ext.refl _ _) (.inr (.inr (.inl rfl))) rfl)
  | unit => exact no (a := "unit") (by decide +kernel) (yes_kinds _ _ H (Ext.refl _ _) (.inr (.inr (.inr (.inl rfl)))) rfl)
  | absd t f => exact no (a := "absurd") (by decide +kernel) (yes_kinds _ _ H (Ext.refl _ _) (.inr (.inr (.inr (.inr rfl)))) rfl)
  | app t u =>
    simp only [Tm.dep] at hd hd60
    refine no (a := "app") (by decide +kernel) (no_kinds _ True _ H (.inr (.inl rfl)) fun H2 e2 => tail "app" [t, u] H2 (by decide +kernel) e2 hp hw (fun a ha => ?_) (fun a ha x hx => ?_) (by simp) (fun ha H' e' => ?_) fun ha v' H' e' d' => ?_)
    · simp only [List.mem_cons, List.not_mem_nil, or_false] at ha
      rcases ha with rfl | rfl <;> omega
    · simp only [List.mem_cons, List.not_mem_nil, or_false] at ha
      rcases ha with rfl | rfl <;> exact hn x (by simp [Tm.nms, hx])
    · refine q _ H' e' ?_
      have : bareD (.app t u) = .none := by
        simp only [List.any_cons, List.any_nil, Bool.or_false, Bool.or_eq_true, Option.isNone_iff_eq_none] at ha
        unfold bareD
        simp only [Tm.bare]
        rcases ha with ha | ha
        · rw [ha]
        · rw [ha]; cases t.bare <;> rfl
      rw [this]; exact .non
    · refine q _ H' e' ?_
      have : bareD (.app t u) = .tuple [.str "app", bareD t, bareD u] := by
        simp only [List.any_cons, List.any_nil, Bool.or_false, Bool.or_eq_false_iff, Option.isNone_eq_false_iff, Option.isSome_iff_exists] at ha
        obtain ⟨⟨a, h1⟩, b, h2⟩ := ha
        unfold bareD
        simp only [Tm.bare, h1, h2, Bt.data]
      rw [this]; exact d'
  | pair t u =>
    simp only [Tm.dep] at hd hd60
    refine no (a := "pair") (by decide +kernel) (no_kinds _ True _ H (.inr (.inr (.inl rfl))) fun H2 e2 => tail "pair" [t, u] H2 (by decide +kernel) e2 hp hw (fun a ha => ?_) (fun a ha x hx => ?_) (by simp) (fun ha H' e' => ?_) fun ha v' H' e' d' => ?_)
    · simp only [List.mem_cons, List.not_mem_nil, or_false] at ha
      rcases ha with rfl | rfl <;> omega
    · simp only [List.mem_cons, List.not_mem_nil, or_false] at ha
      rcases ha with rfl | rfl <;> exact hn x (by simp [Tm.nms, hx])
    · refine q _ H' e' ?_
      have : bareD (.pair t u) = .none := by
        simp only [List.any_cons, List.any_nil, Bool.or_false, Bool.or_eq_true, Option.isNone_iff_eq_none] at ha
        unfold bareD
        simp only [Tm.bare]
        rcases ha with ha | ha
        · rw [ha]
        · rw [ha]; cases t.bare <;> rfl
      rw [this]; exact .non
    · refine q _ H' e' ?_
      have : bareD (.pair t u) = .tuple [.str "pair", bareD t, bareD u] := by
        simp only [List.any_cons, List.any_nil, Bool.or_false, Bool.or_eq_false_iff, Option.isNone_eq_false_iff, Option.isSome_iff_exists] at ha
        obtain ⟨⟨a, h1⟩, b, h2⟩ := ha
        unfold bareD
        simp only [Tm.bare, h1, h2, Bt.data]
      rw [this]; exact d'
  | fst t =>
    simp only [Tm.dep] at hd hd60
    refine no (a := "first") (by decide +kernel) (no_kinds _ True _ H (.inr (.inr (.inr (.inl rfl)))) fun H2 e2 => tail "first" [t] H2 (by decide +kernel) e2 hp hw (fun a ha => ?_) (fun a ha x hx => ?_) (by simp) (fun ha H' e' => ?_) fun ha v' H' e' d' => ?_)
    · rw [show a = t by simpa using ha]; omega
    · rw [show a = t by simpa using ha] at hx; exact hn x hx
    · refine q _ H' e' ?_
      have : bareD (.fst t) = .none := by
        have ha : t.bare = none := by simpa using ha
        unfold bareD
        simp only [Tm.bare, ha, Option.map_none]
      rw [this]; exact .non
    · refine q _ H' e' ?_
      have : bareD (.fst t) = .tuple [.str "first", bareD t] := by
        have ha : ∃ a, t.bare = some a := by simpa [Option.isSome_iff_exists] using ha
        obtain ⟨a, h1⟩ := ha
        unfold bareD
        simp only [Tm.bare, h1, Option.map_some, Bt.data]
      rw [this]; exact d'
  | snd t =>
    simp only [Tm.dep] at hd hd60
    refine no (a := "second") (by decide +kernel) (no_kinds _ True _ H (.inr (.inr (.inr (.inr rfl)))) fun H2 e2 => tail "second" [t] H2 (by decide +kernel) e2 hp hw (fun a ha => ?_) (fun a ha x hx => ?_) (by simp) (fun ha H' e' => ?_) fun ha v' H' e' d' => ?_)
    · rw [show a = t by simpa using ha]; omega
    · rw [show a = t by simpa using ha] at hx; exact hn x hx
    · refine q _ H' e' ?_
      have : bareD (.snd t) = .none := by
        have ha : t.bare = none := by simpa using ha
        unfold bareD
        simp only [Tm.bare, ha, Option.map_none]
      rw [this]; exact .non
    · refine q _ H' e' ?_
      have : bareD (.snd t) = .tuple [.str "second", bareD t] := by
        have ha : ∃ a, t.bare = some a := by simpa [Option.isSome_iff_exists] using ha
        obtain ⟨a, h1⟩ := ha
        unfold bareD
        simp only [Tm.bare, h1, Option.map_some, Bt.data]
      rw [this]; exact d'
  | fn x f t =>
    simp only [Tm.dep] at hd hd60
    refine no (a := "fun") (by decide +kernel) (no_kinds _ True _ H (.inl rfl) fun H2 e2 => ?_)
    rw [← hT, hideS_eq]
    clear hT T tail yes_kinds no_kinds
    walk_at "rd"
    cases hw with
    | cons a1 hw => cases hw with
      | cons a2 hw => cases hw with
        | cons a3 hw =>
          cases hw
          cases a1
          rename_i v2 v3
          have hc3 : cutV [V.str (Tm.fn x f t).kind, V.str x, v2, v3] (some 3) none = [v3] := cutV_from (k := 3)
          have hkk : (Tm.fn x f t).kind = Str.ofString "fun" := rfl
          rw [if_pos hkk]
          refine ⟨_, tupF_ext e2 hp, fun p1 H3 e3 h3 => ⟨_, h3, ?_⟩⟩
          rw [hc3] at h3
          refine lc_map (ds := [bareD t]) h3 rfl (by simp) (fun x => rfl) (fun j y d H4 R hx hd4 e4 r => ?_) fun D ys H5 hD e5 hDy hyd => ?_
          · walk_at "rd"
            cases j with
            | zero =>
              cases hx
              cases hd4
              exact ⟨_, t, rfl, (a3.ext (e2.trans e3)).ext e4, by omega, by omega, fun y hy => hn y (by simp [Tm.nms, hy]), fun v' H' e' d' => r v' H' e' d'⟩
            | succ j => cases hx
          have e05 := (e2.trans e3).trans e5
          have hbd : (∃ b, t.bare = some b) ∨ t.bare = none := by cases t.bare with
            | none => exact .inr rfl
            | some b => exact .inl ⟨b, rfl⟩
          refine ⟨.none, .non, D, rfl, _, hDy, _, hyd, by decide +kernel, nth (us := [t]) hyd (fun u hu y hy => by rw [show u = t by simpa using hu] at hy; exact hn y (by simp [Tm.nms, hy])) (fun u hu => by rw [show u = t by simpa using hu]; omega) (by simp), ?_⟩
          have an := any_n [t]
          simp only [List.map_cons, List.map_nil, List.any_cons, List.any_nil, Bool.or_false] at an
          simp only [List.any_cons, List.any_nil, Bool.or_false]
          rw [an]
          rcases hbd with ⟨b, hb⟩ | hb
          · rw [if_neg (by simp [hb]), if_pos hkk]
            cases hyd with
            | cons y1 hyd =>
              cases hyd
              refine ⟨_, tupF_ext e05 hp, _, atI_1, D, rfl, _, hDy, _, atI_0, by omega, fun p6 H6 e6 h6 => ?_⟩
              refine q _ H6 (e05.trans e6) ?_
              have : bareD (.fn x f t) = .tuple [.str "fun", .str x, bareD t] := by
                unfold bareD
                simp only [Tm.bare, hb, Option.map_some, Bt.data]
              rw [this]
              exact .tup h6 (.cons (.str _) (.cons (.str _) (.cons (y1.ext e6) .nil)))
          · rw [if_pos (by simp [hb])]
            refine q _ H5 e05 ?_
            have : bareD (.fn x f t) = .none := by
              unfold bareD
              simp only [Tm.bare, hb, Option.map_none]
            rw [this]; exact .non
end
end Sq
set_option Elab.async false
set_option linter.all false
set_option maxRecDepth 100000
set_option maxHeartbeats 2000000
namespace Sq
open PySem PySem.Spec PyProof.Rows L2
/-! ### fixed bare terms: read by counting -/
def uwB (NS fr : List Str) (l : Tab) (rl : FP) : Bool :=
  decide ((l.map (·.1)).Nodup) && (l.map (·.1)).all (fun n => decide (n ∈ fr)) && l.all (fun p => p.2.names.all fun x => decide (x ∈ NS) && decide (lk l x = none)) && rl.all (fun p => p.1.names.all (fun x => decide (x ∈ NS)) && p.2.names.all (fun x => decide (x ∈ NS))) && l.all (fun p => decide (p.2.dep ≤ 40)) && rl.all (fun p => decide ((p.1.fill (lk l)).dep ≤ 40) && decide ((p.2.fill (lk l)).dep ≤ 40)) && decide (rl.length ≤ 50000)
def safeB (NS fr : List Str) : Nat → Tab → FP → Bool
  | 0, _, _ => true
  | n + 1, l, rl => uwB NS fr l rl && match stepU fr l rl with
    | .out _ => true
    | .go l' rl' => safeB NS fr n l' rl'
theorem uwB_ok {NS fr : List Str} {l : Tab} {rl : FP} (h : uwB NS fr l rl = true) : UW NS fr l rl := by
  unfold uwB at h
  simp only [Bool.and_eq_true, decide_eq_true_eq, List.all_eq_true] at h
  obtain ⟨⟨⟨⟨⟨⟨h1, h2⟩, h3⟩, h4⟩, h5⟩, h6⟩, h7⟩ := h
  exact ⟨⟨h1, h2, fun n t hm x hx => h3 _ hm x hx, fun t u hm => h4 _ hm⟩, fun n t hm => h5 _ hm, fun t u hm => h6 _ hm, h7⟩
theorem safeB_ok {NS fr : List Str} : ∀ (n : Nat) (l : Tab) (rl : FP), safeB NS fr n l rl = true → SafeU NS fr n l rl
  | 0, _, _, _ => trivial
  | n + 1, l, rl, h => by
    unfold safeB at h
    rw [Bool.and_eq_true] at h
    obtain ⟨h1, h2⟩ := h
    refine ⟨uwB_ok h1, ?_⟩
    cases e : stepU fr l rl with
    | out r => trivial
    | go l' rl' => rw [e] at h2; exact safeB_ok n l' rl' h2
/-- principal tells f of b -/
structure Fx (b : Bt) (g : Fm) (m : Nat) (ps : FP) (N : Nat) (l : Tab) (f t : Fm) : Prop where
  e : gs b [] 0 = some (g, m, ps)
  gd : g.dep ≤ 60
  run : runU (LET.take m) N [] ps.reverse = some (some l)
  safe : SafeU LET (LET.take m) N [] ps.reverse
  ff : g.fill (lk l) = f
  pl : pl f = t
  few : (gth [] f).length ≤ 3
  fd : f.dep ≤ 40
  nm : ∀ x ∈ f.names, x ∈ LET
def fxB (b : Bt) (t : Fm) : Bool := match gs b [] 0 with
  | none => false
  | some (g, m, ps) => match runU (LET.take m) 100 [] ps.reverse with
    | some (some l) => decide (g.dep ≤ 60) && safeB LET (LET.take m) 100 [] ps.reverse && decide (pl (g.fill (lk l)) = t) && decide ((gth [] (g.fill (lk l))).length ≤ 3) && decide ((g.fill (lk l)).dep ≤ 40) && (g.fill (lk l)).names.all (fun x => decide (x ∈ LET))
    | _ => false
theorem fx_of {b : Bt} {t : Fm} (h : fxB b t = true) : ∃ g m ps N l f, Fx b g m ps N l f t := by
  unfold fxB at h
  split at h
  · cases h
  · rename_i g m ps e
    split at h
    · rename_i l er
      simp only [Bool.and_eq_true, decide_eq_true_eq, List.all_eq_true] at h
      obtain ⟨⟨⟨⟨⟨h1, h2⟩, h3⟩, h4⟩, h5⟩, h6⟩ := h
      exact ⟨g, m, ps, 100, l, _, ⟨e, h1, er, safeB_ok _ _ _ h2, rfl, h3, h4, h5, h6⟩⟩
    · cases h
def idB : Bt := .fn "x" (.var "x")
def kB : Bt := .fn "x" (.fn "y" (.var "x"))
def swB : Bt := .fn "x" (.pair (.snd (.var "x")) (.fst (.var "x")))
def wideB : Bt := .fn "x" (.fn "y" (.fn "z" (.app (.app (.var "x") (.var "z")) (.app (.var "y") (.var "z")))))
def selfB : Bt := .fn "x" (.app (.var "x") (.var "x"))
def openB : Bt := .fn "x" (.var "y")
def nA : Fm := .name "a"
def nB : Fm := .name "b"
def nC : Fm := .name "c"
def idT : Fm := .bin .to nA nA
def kT : Fm := .bin .to nA (.bin .to nB nA)
def swT : Fm := .bin .to (.bin .both nA nB) (.bin .both nB nA)
def dueT : Fm := .bin .to (.bin .to nA (.bin .to nB nC)) (.bin .to (.bin .to nA nB) (.bin .to nA nC))
theorem id_fx : fxB idB idT = true := by decide +kernel
theorem k_fx : fxB kB kT = true := by decide +kernel
theorem sw_fx : fxB swB swT = true := by decide +kernel
theorem wide_fx : fxB wideB dueT = true := by decide +kernel
theorem open_no : gs openB [] 0 = none := by decide +kernel
theorem self_no : ∃ g m ps, gs selfB [] 0 = some (g, m, ps) ∧ g.dep ≤ 60 ∧ runU (LET.take m) 100 [] ps.reverse = some none ∧ SafeU LET (LET.take m) 100 [] ps.reverse :=
  ⟨.bin .to (mk 0) (mk 1), 2, [(mk 0, .bin .to (mk 0) (mk 1))], by decide +kernel, by decide +kernel, by decide +kernel, safeB_ok _ _ _ (by decide +kernel)⟩
/-! ### as many are guessed as are counted -/
theorem gs_cnt : ∀ (b : Bt) (l : Tab) (n : Nat) (g : Fm) (m : Nat) (ps : FP), gs b l n = some (g, m, ps) → m = n + b.cnt ∧ (n ≤ 26 → m ≤ 26) := by
  intro b
  induction b with
  | var x =>
    intro l n g m ps h
    simp only [gs] at h
    split at h
    · cases h; exact ⟨rfl, id⟩
    · cases h
  | fn x t ih =>
    intro l n g m ps h
    simp only [gs] at h
    split at h
    · split at h
      · rename_i e
        cases h
        obtain ⟨h1, h2⟩ := ih _ _ _ _ _ e
        simp only [Bt.cnt]
        exact ⟨by omega, fun _ => h2 (by omega)⟩
      · cases h
    · cases h
  | pair t u i1 i2 =>
    intro l n g m ps h
    simp only [gs] at h
    split at h
    · rename_i e1
      split at h
      · rename_i e2
        cases h
        obtain ⟨h1, h2⟩ := i1 _ _ _ _ _ e1
        obtain ⟨h3, h4⟩ := i2 _ _ _ _ _ e2
        simp only [Bt.cnt]
        exact ⟨by omega, fun z => h4 (h2 z)⟩
      · cases h
    · cases h
  | app t u i1 i2 =>
    intro l n g m ps h
    simp only [gs] at h
    split at h
    · rename_i e1
      split at h
      · rename_i e2
        split at h
        · cases h
          obtain ⟨h1, h2⟩ := i1 _ _ _ _ _ e1
          obtain ⟨h3, h4⟩ := i2 _ _ _ _ _ e2
          simp only [Bt.cnt]
          exact ⟨by omega, fun z => by omega⟩
        · cases h
      · cases h
    · cases h
  | fst t ih =>
    intro l n g m ps h
    simp only [gs] at h
    split at h
    · rename_i e1
      split at h
      · cases h
        obtain ⟨h1, h2⟩ := ih _ _ _ _ _ e1
        simp only [Bt.cnt]
        exact ⟨by omega, fun z => by omega⟩
      · cases h
    · cases h
  | snd t ih =>
    intro l n g m ps h
    simp only [gs] at h
    split at h
    · rename_i e1
      split at h
      · cases h
        obtain ⟨h1, h2⟩ := ih _ _ _ _ _ e1
        simp only [Bt.cnt]
        exact ⟨by omega, fun z => by omega⟩
      · cases h
    · cases h
theorem gs_many {b : Bt} (h : 26 < b.cnt) : gs b [] 0 = none := by
  cases e : gs b [] 0 with
  | none => rfl
  | some r =>
    obtain ⟨g, m, ps⟩ := r
    obtain ⟨h1, h2⟩ := gs_cnt b _ _ _ _ _ e
    have := h2 (by omega)
    omega
end Sq
set_option Elab.async false
set_option linter.all false
set_option maxRecDepth 100000
set_option maxHeartbeats 4000000
namespace Sq
open PySem PySem.Spec PyProof.Rows L2 RZ
local macro_rules | `(tactic| walk_at "rd") => `(tactic| simp only [tCont, tDisp, tPairs, rIndexS, wipe, tNoPart, tDG2, tDGF, tDInF, tDNInF, sDPutF, tDNewF, rSortD, rInS, rInT, rEqLF, tDcF, tDc2F, tLcF, tForF, tAllF, tAnyF, tSumF, iStr, iEnumF, iZipF, iKeysF, iItems, tLZip, tYes, tSeq, tIfS, tNext, tRet, tRetN, tDrop, tTest, tB, tNot, tAnd, tOr, tChain, tOp, tUn, tCB, tCons, tNil, tC, tVar, tIf, tAndV, tOrV, tNotV, tAsg, tPar, tPar3, gName, gSub, gTupF, gCons, gNil, tTupF, tLstF, rI0, rI, rIxF, rIxG, rIxS, rSetF, rSlF, rCatF, rCatL, rTupL, rListT, rListL, rLenT, rLenL, iTupF, iLstF, rAppF, rExtF, rPopF, tBM, tBM0, tSl, tPart, rEq, rNe, tCall, L2.start,
  List.map_cons, List.map_nil, List.length_cons, List.length_nil, Nat.sub_self, List.replicate, List.append_nil, List.cons_append, List.nil_append, List.getElem?_cons_zero, List.getElem?_cons_succ, List.set_cons_zero, List.set_cons_succ,
  exSl, exI, exI2, exB, exS, exR, ex1, ex1', V.int.injEq, V.bl.injEq, V.ref.injEq, V.str.injEq, Option.some.injEq, List.cons.injEq, and_true, true_and, reduceCtorEq, false_and, and_false, or_false, false_or, exists_false, exists_and_left, exists_eq_left', decide_eq_true_eq, decide_true, decide_false, if_false, if_true, ite_true, ite_false, Bool.false_eq_true, Bool.not_true, Bool.not_false, Nat.reduceAdd, Nat.reduceSub, Nat.zero_add, atI_0, atI_1, atI_2, atI_3, ixN_0, ixN_1, ixN_2, cutV_1, cutV_2, Option.some.injEq, HO.lst.injEq, HO.dK.injEq, scal])
local macro_rules | `(tactic| walk_at "rdc") => `(tactic| simp (config := { contextual := true }) only [tCont, tDisp, tPairs, rIndexS, wipe, tNoPart, tDG2, tDGF, tDInF, tDNInF, sDPutF, tDNewF, rSortD, rInS, rInT, rEqLF, tDcF, tDc2F, tLcF, tForF, tAllF, tAnyF, tSumF, iStr, iEnumF, iZipF, iKeysF, iItems, tLZip, tYes, tSeq, tIfS, tNext, tRet, tRetN, tDrop, tTest, tB, tNot, tAnd, tOr, tChain, tOp, tUn, tCB, tCons, tNil, tC, tVar, tIf, tAndV, tOrV, tNotV, tAsg, tPar, tPar3, gName, gSub, gTupF, gCons, gNil, tTupF, tLstF, rI0, rI, rIxF, rIxG, rIxS, rSetF, rSlF, rCatF, rCatL, rTupL, rListT, rListL, rLenT, rLenL, iTupF, iLstF, rAppF, rExtF, rPopF, tBM, tBM0, tSl, tPart, rEq, rNe, tCall, L2.start,
  List.map_cons, List.map_nil, List.length_cons, List.length_nil, Nat.sub_self, List.replicate, List.append_nil, List.cons_append, List.nil_append, List.getElem?_cons_zero, List.getElem?_cons_succ, List.set_cons_zero, List.set_cons_succ,
  exSl, exI, exI2, exB, exS, exR, ex1, ex1', V.int.injEq, V.bl.injEq, V.ref.injEq, V.str.injEq, Option.some.injEq, List.cons.injEq, and_true, true_and, reduceCtorEq, false_and, and_false, or_false, false_or, exists_false, exists_and_left, exists_eq_left', decide_eq_true_eq, decide_true, decide_false, if_false, if_true, ite_true, ite_false, Bool.false_eq_true, Bool.not_true, Bool.not_false, Nat.reduceAdd, Nat.reduceSub, Nat.zero_add, atI_0, atI_1, atI_2, atI_3, ixN_0, ixN_1, ixN_2, cutV_1, cutV_2, Option.some.injEq, HO.lst.injEq, HO.dK.injEq, scal, *])
section
variable {P : Program} {w : World} {K : PySem.W.Frag} {mg : Str → Option Value} {base : Heap} {f c tb tw : Addr} {fd : FuncData} {NS NV : List Str}
abbrev n__law_rounds : List Str := ["script", "most", "cells", "cell"]
theorem sc__law_rounds : FnScope n__law_rounds ["script", "most"] (defScope s__law_rounds) := ⟨rfl, rfl, rfl, by decide +kernel, rfl, by decide +kernel, by decide +kernel⟩
/-- the script's list, whatever its numbers -/
def spRounds (K : PySem.W.Frag) (most : Nat) : Sp := fun vs H Q _ => ∃ (a : Addr) (ns : List Int), vs = [.ref a, .int (most : Nat)] ∧ SqL K H a (ns.map V.int) ∧
  ∀ (p : Addr) (ds : List Addr) (H' : Hp), Ext [] H H' → H' p = some (.lst (ds.map V.ref)) → ds.length ≤ most → (∀ d ∈ ds, DiceAt H' d) → ds.Nodup → p ∉ ds → Q (.ref p) H'
theorem ok_rounds {most : Nat} (hmo : 1 ≤ most ∧ most ≤ 50) (F : Dn K mg "_law_rounds" s__law_rounds f fd c) (B : Bl mg) (G__law_dice : Cal P w K mg base 1 "_law_dice" spDice) : Cal P w K mg base 2 "_law_rounds" (spRounds K most) := by
  refine F.cal (ps := ["script", "most"]) (fun _ _ _ _ _ _ us hl => match us, hl with | [_, _], _ => rfl) sc__law_rounds (fun vs H Q E h => ?_) (fun A outer s H vs Q E hr h => ?_)
  · obtain ⟨_, _, rfl, _⟩ := h; rfl
  obtain ⟨a, ns, rfl, ha, q⟩ := h
  refine ⟨_, (pss_cons (ps_set (i := 2) sc__law_rounds.nd rfl (by first | exact Or.inl rfl | exact Or.inr rfl) (pe_slice sl_list (pv 0) po_none (po_some (pv 1))))
    (pss_cons (ps_if (pt_cmpR (op_eqLK K hr.units) (pv 2) (pe_lstF pa_nil) (nomark _)) (pss_one (ps_set (i := 2) sc__law_rounds.nd rfl (by first | exact Or.inl rfl | exact Or.inr rfl) (pe_lstF (pa_cons pe_int pa_nil)))) pss_nil)
    (pss_one (ps_ret (pe_lcF (own := [("cell", 3)]) rfl sc__law_rounds.nd (pi_lstK K (pv 2)) (blkOk_by (own := [("cell", 3)]) (N := n__law_rounds) (sc := defScope s__law_rounds) (by decide +kernel)) (fun _ _ _ _ _ => (pg_name (i := 3) sc__law_rounds.nd rfl (by first | exact Or.inl rfl | exact Or.inr rfl))) (fun _ _ _ _ _ => pts_nil) (fun _ _ _ _ _ => (C8.pe_c G__law_dice hr (by omega) (by rfl) (pa_cons (pv 3) pa_nil)))))))), ?_⟩
  have mk : ∀ (pl : Addr) (ms : List Int) (H1 : Hp) (x0 x1 x2 : Option V), ms.length ≤ most → Ext [] H H1 → H1 pl = some (.lst (ms.map V.int)) → LcB (Itl K pl) (gName 3) tYes (tCall spDice [] C8.E0 (tCons (tVar 3) tNil)) [3] [x0, x1, x2, none] H1 Q := fun pl ms H1 x0 x1 x2 hl e1 h1 => by
    refine lc_go walk_list (fun D i ys H' => ∃ ds : List Addr, ys = ds.map V.ref ∧ ds.length = i ∧ Ext [] H1 H' ∧ (∀ d ∈ ds, DiceAt H' d ∧ d ≠ D) ∧ ds.Nodup) (fun D hD => ⟨[], rfl, rfl, Ext.new hD, fun d hd => (by cases hd), List.nodup_nil⟩) (fun D i ys H' ⟨_, _, _, e, _⟩ => SqL.of (e.lst0 h1)) (fun D i x ys H' H'' hD hi ⟨ds, hys, hdl, e, hds, nd⟩ hyl hH y => ?_) fun D ys H' hD ⟨ds, hys, hdl, e, hds, nd⟩ hH _ => ?_
    · obtain ⟨rfl, hx⟩ := y
      rw [List.getElem?_map] at hx
      cases hm : ms[i]? with
      | none => rw [hm] at hx; cases hx
      | some n =>
        rw [hm] at hx
        cases hx
        walk_at "rd"
        have hs1 : (100 : Nat) < sizeLine := by decide
        rw [List.length_map] at hi
        refine ⟨n, rfl, fun p H2 hp e2 hdp => ⟨ys, e2.lst0 hH, by omega, ys ++ [.ref p], by rw [List.length_append, List.length_singleton]; omega, upd_same, ds ++ [p], by rw [hys, List.map_append]; rfl, by rw [List.length_append, List.length_singleton]; omega, (e.trans e2).over hD (Ext.setL List.mem_cons_self (e2.lst0 hH)), fun d hd => ?_, ?_⟩⟩
        · have keep : ∀ d, DiceAt H2 d → d ≠ D → DiceAt (upd H2 D (.lst (ys ++ [.ref p]))) d ∧ d ≠ D := fun d ⟨x, y, z, h⟩ n => ⟨⟨x, y, z, by rw [upd_ne n]; exact h⟩, n⟩
          rcases List.mem_append.mp hd with z | z
          · obtain ⟨⟨x, y, z, h⟩, n⟩ := hds d z
            exact keep d ⟨x, y, z, e2.lst0 h⟩ n
          · have : d = p := by simpa using z
            subst this
            exact keep d hdp fun z => by rw [z, hH] at hp; cases hp
        · refine List.nodup_append.mpr ⟨nd, by simp, fun a ha b hb e => ?_⟩
          have hb' : b = p := by simpa using hb
          subst hb' e
          obtain ⟨⟨x, y, z, h⟩, _⟩ := hds a ha
          rw [h] at hp
          cases hp
    · rw [List.length_map] at hdl
      exact q D ds H' (e1.trans e) (by rw [hH, hys]) (by omega) (fun d hd => (hds d hd).1) nd fun hm => (hds D hm).2 rfl
  have tdi : ∀ (ms : List Int) (H1 : Hp), TdAll K H1 (ms.map V.int) (ms.map PyData.int) := fun ms H1 => by
    induction ms with
    | nil => exact .nil
    | cons m ms ih => exact .cons (.int m) ih
  have shi : ∀ ms : List Int, SeqAt.shaped (.list (ms.map PyData.int)) = true := fun ms => by
    have : PyData.canLayAll0 (ms.map PyData.int) = true ∧ PyData.depthAll (ms.map PyData.int) = 0 := by
      induction ms with
      | nil => exact ⟨by rw [List.map_nil, PyData.canLayAll0], by rw [List.map_nil, PyData.depthAll]⟩
      | cons x l ih => exact ⟨by rw [List.map_cons, PyData.canLayAll0, ih.1, PyData.canLay0]; rfl, by rw [List.map_cons, PyData.depthAll, ih.2, PyData.depth]; rfl⟩
    unfold SeqAt.shaped
    rw [PyData.canLay0, PyData.depth, this.1, this.2]
    rfl
  have she : SeqAt.shaped (.list []) = true := by decide +kernel
  have hcut : cutV (ns.map V.int) none (some (most : Nat)) = (ns.take most).map V.int := by
    have := cutV_to (xs := ns.map V.int) (k := most)
    rw [List.map_take]
    exact this
  have h4 : (ns.take most).length ≤ most := by rw [List.length_take]; omega
  walk_at "rd"
  refine ⟨a, ns.map V.int, rfl, ha, fun p1 hp1 => ⟨by decide, fun p2 H2 n2 e2 h2 => ⟨p1, rfl, _, e2.lst0 upd_same, _, h2, (ns.take most).map PyData.int, by rw [hcut]; exact tdi _ _, [], .nil, shi _, she, ?_⟩⟩⟩
  have e02 : Ext [] H H2 := (Ext.new hp1).trans e2
  by_cases hq : PyData.eqvAll ((ns.take most).map PyData.int) [] = true
  · rw [if_pos hq]
    exact ⟨by decide, fun p3 H3 n3 e3 h3 => ⟨_, h3, mk p3 [0] H3 _ _ _ (by simpa using hmo.1) (e02.trans e3) h3⟩⟩
  · rw [if_neg hq]
    refine ⟨p1, rfl, _, e2.lst0 upd_same, ?_⟩
    exact mk p1 (ns.take most) H2 _ _ _ h4 e02 (by rw [← hcut]; exact e2.lst0 upd_same)
end
end Sq
set_option Elab.async false
set_option linter.all false
set_option maxRecDepth 100000
set_option maxHeartbeats 2000000
namespace Sq
open PySem PySem.Spec PyProof.Rows L2 RZ
/-! ### a lambda handed to a def; the other tables stay -/
section
variable {X : Cx} {pins : List (Addr × Obj)} {σ : L2.St} {H : Hp} {s : Shared}
theorem TabS.keep {S : List Addr} {H H' : Hp} {P : Addr} {q : Str} (t : LamX.TabS H P q) (e : Ext S H H') (n : P ∉ S) (hS : ∀ a ∈ S, ∀ c, H a ≠ some (LamX.CodeO c q)) : LamX.TabS H' P q := by
  obtain ⟨ps, h1, h2, h3⟩ := t
  refine ⟨ps, e.tbl P ps h1 n, h2, fun pos cv hc => ?_⟩
  obtain ⟨c, e1, e2⟩ := h3 pos cv hc
  exact ⟨c, e1, e.keep c _ e2 (fun z => hS c z c e2) LamX.codeO_ne⟩
theorem lam_new {c P : Addr} {params : Arguments} {body : Expr} {scope : Scope} {pos : Pos} {E Q : Value → Shared → Prop} (I : L2.Inv X pins σ H s) (TB : LamX.TabB X.base X.mg c P) (hcode : X.env.code = .ref c) (hT : LamX.TabS H P (X.env.qual ++ "<lambda>"))
    (hdef : defaultsOf params X.env = ([], [])) (hfree : ∀ y ∈ scope.names, y.2 = .free → ∃ c, X.env.cells.lookup y.1 = some c)
    (go : ∀ (g c' : Addr) (pm cv : Value) (G : Hp) (r : Shared), L2.Inv X pins σ G r → Ext [P] H G → LamX.TabS G P (X.env.qual ++ "<lambda>") →
      r.heap.get? g = some (PySem.W.kla_obj "<lambda>" (X.env.qual ++ "<lambda>") params body scope (cloFrom X.env.cells scope.names []) pm c' cv) → G g = none → g ∉ frs X.stack → G c' = some (LamX.CodeO c' (X.env.qual ++ "<lambda>")) → Q (.ref g) r) :
    wpAny (model X.prog X.w) X.A (eval (.Lambda params body scope pos) X.env) Q E s := by
  obtain ⟨ps, hP, htr, hnm⟩ := id hT
  refine PySem.W.kla_eval hdef ?_
  have hBI : s.heap.BuiltinsAt X.mg P := TB.bm.keeps I.bk
  have hobj : s.heap.get? P = some { cls := .none, data := .fields ps } := I.hok P _ hP
  have away : ∀ g, s.heap.objs.size ≤ g → g ∉ frs X.stack := fun g hg hm => by
    rcases List.mem_cons.mp (I.stkSub _ hm) with z | z
    · have hlt := I.lt
      rw [← z] at hlt
      exact absurd (Nat.lt_of_lt_of_le hlt hg) (Nat.lt_irrefl _)
    · exact I.nofs hg z
  cases hfound : codeAmong pos ps.toList with
  | some cv0 =>
    obtain ⟨c', rfl, hcode'⟩ := hnm pos cv0 hfound
    refine PySem.W.kla_makeFunctionHit (mg := X.mg) (c := c) (P := P) (ps := ps) (closure_ok hfree) I.ok.glob (I.mod.glob.keeps I.bk) hcode (TB.code.keeps I.bk) hobj htr hfound hBI fun cv h' tk hk hge => ?_
    exact go h'.objs.size c' _ cv H _ (I.kept fun b o z => Heap.get?_push_of_some _ (hk b o z)) (Ext.refl _ _) hT (Heap.get?_push_size _ rfl) (I.hok.fresh hge) (away _ hge) hcode'
  | none =>
    refine PySem.W.kla_makeFunction (mg := X.mg) (c := c) (P := P) (ps := ps) (closure_ok hfree) I.ok.glob (I.mod.glob.keeps I.bk) hcode (TB.code.keeps I.bk) hobj htr hfound TB.gP hBI fun c' cv h' tk hk hge hlt hrec hnewt => ?_
    obtain ⟨c2, oc, fs, t, z, hoc, hfs, hq⟩ := hrec
    cases z
    have big : s.heap.objs.size ≤ h'.objs.size := Nat.le_trans hge (Nat.le_of_lt hlt)
    have hcn : H c' = none := I.hok.fresh hge
    have hPc : P ≠ c' := ne_of_none hP hcn
    generalize hG : upd (upd H P (.tbl (ps ++ #[rawInt pos.line, rawInt pos.col, .ref c']))) c' (LamX.CodeO c' (X.env.qual ++ "<lambda>")) = G
    have I' : L2.Inv X pins σ G { s with heap := h'.push (PySem.W.kla_obj "<lambda>" (X.env.qual ++ "<lambda>") params body scope (cloFrom X.env.cells scope.names []) ((X.mg "__name__").getD .none) c' cv), toks := tk } := by
      rw [← hG]
      exact LamX.inv_table (more := #[rawInt pos.line, rawInt pos.col, .ref c']) I hP (fun b o hb z => Heap.get?_push_of_some _ (hk b o hb z)) (Heap.get?_push_of_some _ hnewt) hge ⟨oc, fs, t, Heap.get?_push_of_some _ hoc, hfs, hq⟩
    have gP : G P = some (.tbl (ps ++ #[rawInt pos.line, rawInt pos.col, .ref c'])) := by rw [← hG, upd_ne hPc, upd_same]
    have gO : ∀ b o, H b = some o → b ≠ P → G b = some o := fun b o z n => by rw [← hG, upd_ne (ne_of_none z hcn), upd_ne n]; exact z
    have gC : G c' = some (LamX.CodeO c' (X.env.qual ++ "<lambda>")) := by rw [← hG, upd_same]
    have nt : ∀ b o, H b = some o → (∀ qs, o ≠ .tbl qs) → b ≠ P := fun b o z n y => by rw [y, hP] at z; exact n ps (Option.some.inj z).symm
    have hl : (ps ++ #[rawInt pos.line, rawInt pos.col, .ref c']).toList = ps.toList ++ [rawInt pos.line, rawInt pos.col, .ref c'] := by simp
    have htr' : TriplesOk (ps ++ #[rawInt pos.line, rawInt pos.col, .ref c']).toList := by rw [hl]; exact PySem.TriplesOk_snoc _ _ _ _ htr
    have eG : Ext [P] H G := by
      refine ⟨fun b o z _ n => gO b o z (nt b o z n), fun b xs z => gO b _ z (nt b _ z fun _ y => by cases y), fun b o u z => gO b _ z (nt b _ z fun _ y => by cases y), fun P' t' => ?_, fun P' qs z n => gO P' _ z (by simpa using n)⟩
      by_cases y : P' = P
      · rw [y]; exact ⟨_, gP, htr'⟩
      · obtain ⟨qs, z, k⟩ := t'
        exact ⟨qs, gO P' _ z y, k⟩
    refine go h'.objs.size c' _ cv G _ I' eG ⟨_, gP, htr', fun p' cw hcw => ?_⟩ (Heap.get?_push_size _ rfl) ?_ (away _ big) gC
    · rw [hl] at hcw
      rcases LamX.among_app _ htr hcw with z | z
      · obtain ⟨c0, y1, y2⟩ := hnm p' cw z
        exact ⟨c0, y1, gO c0 _ y2 (nt c0 _ y2 LamX.codeO_ne)⟩
      · exact ⟨c', z, gC⟩
    · have n1 : h'.objs.size ≠ c' := Nat.ne_of_gt hlt
      have n2 : h'.objs.size ≠ P := Nat.ne_of_gt (Nat.lt_of_lt_of_le (Heap.lt_size hobj) big)
      rw [← hG, upd_ne n1, upd_ne n2]
      exact I.hok.fresh big
end
def tLamX (P : Addr) (q : Str) (TT : (XK → Hp → VK → Prop) → Hp → VK → Prop) (t : XK → TE) : TE := fun σ H Q => LamX.TabS H P q ∧ ∀ G, Ext [P] H G → LamX.TabS G P q → TT (fun E H' Q' => t E σ H' Q') G Q
theorem pe_lamX {X : Cx} {TT : (XK → Hp → VK → Prop) → Hp → VK → Prop} {x a : Str} {st : Stmt} {g cg c P : Addr} {fd : FuncData} {k : Nat} {Ng : List Str} {params : Arguments} {body : Expr} {scope : Scope} {t : XK → TE} {p lpos pos : Pos} (F : Dn X.K X.mg x st g fd cg) (hg : Gl X x)
    (hb : BindOk x st [a]) (Sg : FnScope Ng [a] (defScope st)) (hNg : Ng[0]? = some a) (hva : Vis (defScope st) a) (hG : LamX.GivesTo X Ng x (defScope st) g (.ref cg) (defBody st) a (X.env.qual ++ "<lambda>") TT)
    (TB : LamX.TabB X.base X.mg c P) (hcode : X.env.code = .ref c) (hr : Room (k + 2) X.A) (L : LamX.LamS X.env.scope scope) (hdef : defaultsOf params X.env = ([], []))
    (hbind : ∀ (q : Str) (cl : List (Str × Addr)) (pm cv ctv : Value), bindArgs (PySem.W.kla_fn "<lambda>" q params body scope cl pm cv ctv) ⟨[], []⟩ = pure [])
    (hbody : ∀ (A : Around) (outer : List Env) (s : Shared) (H : Hp) (E : XK) (f c' : Addr), Room k (A.deeper (LamX.lamEnv X scope s.heap.objs.size f c')) → PE (LamX.lamCx X A outer s H E scope f c') body (t E))
    (hdb : (x == ("__debug__" : Str)) = false := by decide) (hd : (a == ("__debug__" : Str)) = false := by decide) (hcd : (a == ("__classdict__" : Str)) = false := by decide) :
    PE X (.Call (.Name x p) [.Lambda params body scope lpos] [] pos) (tLamX P (X.env.qual ++ "<lambda>") TT t) := by
  have hbd := F.binds hb
  obtain ⟨⟨oc, od, kV, doc, pm, an, ct, osl, rfl, lk, hcg⟩, hm, hk⟩ := F
  refine ⟨fun pins s σ H Q I ⟨hT, q⟩ => ?_⟩
  refine wpAny_Call_Name_kw (ld_glob I hg hm ?_ hdb)
  refine PySem.W.callWith_K (h₀ := X.base) I.ok.mod.kin hk ?_ (by rfl) (by rfl)
  refine Calls.spliced_cons (lam_new I TB hcode hT hdef (L.has I.ok) fun f c' pm' cv G r I1 eG tG hf hfn hfr hco => ?_)
  refine Calls.spliced_nil ⟨I1.kIn, ?_⟩
  refine wpAny_call (codeAny_mono (LamX.run_ofS (N := Ng) (ps := [a]) (us := [.ref f]) (vs := [.ref f]) (E := C8.E0) (Q := Q) (CX := C8.CX0) lk hcg Sg hr I1.env0 (hbd r [.ref f] I1.kIn rfl) (.cons rfl .nil) rfl fun hr' => ?_) fun z s2 out => ?_)
  · obtain ⟨t', ht', hq'⟩ := hG f c' r G Q (fun E H' Q' => t E σ H' Q') (fun W pn xe E p1 p2 tk hW => LamX.pe_act (i := 0) I1 L hf hfn hfr (hbind _ _ _ _ _) tk hW hr' (fun A outer s H hr2 => hbody A outer s H E f c' hr2) hNg hva hd hcd) hco (q G eG tG)
    exact ⟨t', ht'.nox, hq'⟩
  · cases z with
    | error e => exact (show False from out).elim
    | ok fl =>
      cases fl with
      | ret u => exact I1.after out
      | next => exact False.elim out
      | brk => exact False.elim out
      | cont => exact False.elim out
end Sq
set_option Elab.async false
set_option linter.all false
set_option maxRecDepth 100000
set_option maxHeartbeats 2000000
namespace Sq
open PySem PySem.Spec PyProof.Rows L2
/-! ### what stays through a law's turns: the dice, two tables, the lambdas' table -/
structure RI (ds : List Addr) (p tN tS tL : Addr) (q : Str) (H : Hp) : Prop where
  p : H p = some (.lst (ds.map V.ref))
  d : ∀ d ∈ ds, DiceAt H d
  tn : GxR.TabG H tN
  ts : GxR.TabG H tS
  tl : LamX.TabS H tL q
theorem code_lst {c : Addr} {q : Str} {xs : List V} : LamX.CodeO c q ≠ .lst xs := fun z => by unfold LamX.CodeO at z; cases z
theorem TabG.nl {t : Addr} {H : Hp} (ht : GxR.TabG H t) {a : Addr} {xs : List V} (k : H a = some (.lst xs)) : a ∉ [t] := fun w => by
  obtain ⟨ps, hps, _⟩ := ht
  rw [show a = t by simpa using w, hps] at k; cases k
theorem TabS.nl {t : Addr} {q : Str} {H : Hp} (ht : LamX.TabS H t q) {a : Addr} {xs : List V} (k : H a = some (.lst xs)) : a ∉ [t] := fun w => by
  obtain ⟨ps, hps, _⟩ := ht
  rw [show a = t by simpa using w, hps] at k; cases k
theorem dice_ne {H : Hp} {d D : Addr} {l : List Str} (h : DiceAt H d) (e : H D = some (.lst (l.map V.str))) : D ∉ [d] := fun z => by
  obtain ⟨x, y, z', hd⟩ := h
  rw [show D = d by simpa using z, hd] at e
  cases l with
  | nil => cases e
  | cons a l => cases e
section
variable {ds : List Addr} {p tN tS tL : Addr} {q : Str} {H H' : Hp}
theorem RI.ext0 (h : RI ds p tN tS tL q H) (e : Ext [] H H') : RI ds p tN tS tL q H' :=
  ⟨e.lst0 h.p, fun d hd => DiceAt.ext0 e (h.d d hd), e.tab _ h.tn, e.tab _ h.ts, TabS.keep h.tl e (fun z => nomatch z) fun _ z => nomatch z⟩
theorem RI.step {d : Addr} (h : RI ds p tN tS tL q H) (hp : p ∉ ds) (hd : d ∈ ds) (e : Ext [d] H H') (h' : DiceAt H' d) : RI ds p tN tS tL q H' := by
  obtain ⟨x, y, z, hdl⟩ := h.d d hd
  refine ⟨e.lst h.p fun w => hp (by rw [show p = d by simpa using w]; exact hd), fun d' hd' => ?_, e.tab _ h.tn, e.tab _ h.ts, TabS.keep h.tl e (fun w => ?_) fun a ha c => ?_⟩
  · by_cases q : d' = d
    · rw [q]; exact h'
    · obtain ⟨x, y, z, r⟩ := h.d d' hd'
      exact ⟨x, y, z, e.lst r (by simpa using q)⟩
  · obtain ⟨ps, h1, _⟩ := h.tl
    rw [show tL = d by simpa using w, hdl] at h1
    cases h1
  · rw [show a = d by simpa using ha, hdl]
    exact fun w => code_lst (Option.some.inj w).symm
theorem RI.tab {t : Addr} (h : RI ds p tN tS tL q H) (ht : GxR.TabG H t) (n : tL ≠ t) (e : Ext [t] H H') : RI ds p tN tS tL q H' := by
  obtain ⟨ps, hps, _⟩ := id ht
  refine ⟨e.lst h.p (TabG.nl ht h.p), fun d hd => ?_, e.tab _ h.tn, e.tab _ h.ts, TabS.keep h.tl e (fun w => n (by simpa using w)) fun a ha c => ?_⟩
  · obtain ⟨x, y, z, r⟩ := h.d d hd
    exact ⟨x, y, z, e.lst r (TabG.nl ht r)⟩
  · rw [show a = t by simpa using ha, hps]
    exact fun w => LamX.codeO_ne ps (Option.some.inj w).symm
theorem RI.lam (h : RI ds p tN tS tL q H) (e : Ext [tL] H H') (ht : LamX.TabS H' tL q) : RI ds p tN tS tL q H' := by
  refine ⟨e.lst h.p (TabS.nl h.tl h.p), fun d hd => ?_, e.tab _ h.tn, e.tab _ h.ts, ht⟩
  obtain ⟨x, y, z, r⟩ := h.d d hd
  exact ⟨x, y, z, e.lst r (TabS.nl h.tl r)⟩
end
end Sq
set_option Elab.async false
set_option linter.all false
set_option maxRecDepth 100000
set_option maxHeartbeats 4000000
namespace Sq
open PySem PySem.Spec PyProof.Rows L2 RZ
local macro_rules | `(tactic| walk_at "rd") => `(tactic| simp only [tCont, tNever, iEnumL, iRng1, rPop0, rTIndex, rKdIx, rKdNin, tDG2, rU, tTIdx, iZipS, rDictC, rDictP, rStrT, tDisp, tPairs, rIndexS, wipe, tNoPart, tDG2, tDGF, tDInF, tDNInF, sDPutF, tDNewF, rSortD, rInS, rInT, rEqLF, tDcF, tDc2F, tLcF, tForF, tAllF, tAnyF, tSumF, iStr, iEnumF, iZipF, iKeysF, iItems, tLZip, tYes, tSeq, tIfS, tNext, tRet, tRetN, tDrop, tTest, tB, tNot, tAnd, tOr, tChain, tOp, tUn, tCB, tCons, tNil, tC, tVar, tIf, tAndV, tOrV, tNotV, tAsg, tPar, tPar3, gName, gSub, gTupF, gCons, gNil, tTupF, tLstF, rI0, rI, rIxF, rIxG, rIxS, rSetF, rSlF, rCatF, rCatL, rTupL, rListT, rListL, rLenT, rLenL, iTupF, iLstF, rAppF, rExtF, rPopF, tBM, tBM0, tSl, tPart, rEq, rNe, tCall, L2.start,
  List.map_cons, List.map_nil, List.length_cons, List.length_nil, Nat.sub_self, List.replicate, List.append_nil, List.cons_append, List.nil_append, List.getElem?_cons_zero, List.getElem?_cons_succ, List.set_cons_zero, List.set_cons_succ,
  exSl, exI, exI2, exB, exS, exR, ex1, ex1', V.int.injEq, V.bl.injEq, V.ref.injEq, V.str.injEq, Option.some.injEq, List.cons.injEq, and_true, true_and, reduceCtorEq, false_and, and_false, or_false, false_or, exists_false, exists_and_left, exists_eq_left', decide_eq_true_eq, decide_true, decide_false, if_false, if_true, ite_true, ite_false, Bool.false_eq_true, Bool.not_true, Bool.not_false, Nat.reduceAdd, Nat.reduceSub, Nat.zero_add, atI_0, atI_1, atI_2, atI_3, ixN_0, ixN_1, ixN_2, cutV_1, cutV_2, Option.some.injEq, HO.lst.injEq, HO.dK.injEq, scal])
local macro_rules | `(tactic| walk_at "rdc") => `(tactic| simp (config := { contextual := true }) only [tCont, tNever, iEnumL, iRng1, rPop0, rTIndex, rKdIx, rKdNin, tDG2, rU, tTIdx, iZipS, rDictC, rDictP, rStrT, tDisp, tPairs, rIndexS, wipe, tNoPart, tDG2, tDGF, tDInF, tDNInF, sDPutF, tDNewF, rSortD, rInS, rInT, rEqLF, tDcF, tDc2F, tLcF, tForF, tAllF, tAnyF, tSumF, iStr, iEnumF, iZipF, iKeysF, iItems, tLZip, tYes, tSeq, tIfS, tNext, tRet, tRetN, tDrop, tTest, tB, tNot, tAnd, tOr, tChain, tOp, tUn, tCB, tCons, tNil, tC, tVar, tIf, tAndV, tOrV, tNotV, tAsg, tPar, tPar3, gName, gSub, gTupF, gCons, gNil, tTupF, tLstF, rI0, rI, rIxF, rIxG, rIxS, rSetF, rSlF, rCatF, rCatL, rTupL, rListT, rListL, rLenT, rLenL, iTupF, iLstF, rAppF, rExtF, rPopF, tBM, tBM0, tSl, tPart, rEq, rNe, tCall, L2.start,
  List.map_cons, List.map_nil, List.length_cons, List.length_nil, Nat.sub_self, List.replicate, List.append_nil, List.cons_append, List.nil_append, List.getElem?_cons_zero, List.getElem?_cons_succ, List.set_cons_zero, List.set_cons_succ,
  exSl, exI, exI2, exB, exS, exR, ex1, ex1', V.int.injEq, V.bl.injEq, V.ref.injEq, V.str.injEq, Option.some.injEq, List.cons.injEq, and_true, true_and, reduceCtorEq, false_and, and_false, or_false, false_or, exists_false, exists_and_left, exists_eq_left', decide_eq_true_eq, decide_true, decide_false, if_false, if_true, ite_true, ite_false, Bool.false_eq_true, Bool.not_true, Bool.not_false, Nat.reduceAdd, Nat.reduceSub, Nat.zero_add, atI_0, atI_1, atI_2, atI_3, ixN_0, ixN_1, ixN_2, cutV_1, cutV_2, Option.some.injEq, HO.lst.injEq, HO.dK.injEq, scal, *])
section
variable {P : Program} {w : World} {K : PySem.W.Frag} {mg : Str → Option Value} {base : Heap} {f c aT tb : Addr} {fd : FuncData}
theorem abc_ok : NsOk ABC := ⟨by decide +kernel, by decide +kernel⟩
theorem units90 {k : Nat} {A : Around} (r : Room k A) : A.units + 90 < cLine := by have := r.un; omega
def spTyC (K : PySem.W.Frag) (k : Nat) : Sp := fun vs H Q _ => ∃ (v : V) (b : Addr) (t : Tm) (l : Tab) (N : Nat) (g : Fm), vs = [v, .ref b] ∧ TyA K H v b t l N ∧ 2 * t.dep ≤ k ∧ t.ty (lk l) = some g ∧ ∀ v' H', Ext [] H H' → Td K H' v' g.data → Q v' H'
theorem tyC {k : Nat} (G : CalX P w K mg base k "type_of" (spTy K aT k)) : Cal P w K mg base k "type_of" (spTyC K k) := G.cal fun vs H Q E ⟨v, b, t, l, N, g, e, ha, hk, hg, q⟩ =>
  ⟨v, b, t, l, N, e, ha, hk, fun g' hg' v' H' e d => q v' H' e (by rw [hg] at hg'; cases hg'; exact d), fun hn => by rw [hg] at hn; cases hn⟩
theorem tyB_dr {d : Nat} {t : Tm} {g : Fm} (h : Dr d t [] g) : Tm.TyB 4 t (lk []) := ⟨fun x f e => (by cases e), fun f hf => h.gd.f f hf⟩
/-- what stays through a law's turns: the dice, a table -/
structure RB (ds : List Addr) (p tb : Addr) (H : Hp) : Prop where
  p : H p = some (.lst (ds.map V.ref))
  d : ∀ d ∈ ds, DiceAt H d
  t : GxR.TabG H tb
theorem RB.ext0 {ds : List Addr} {p tb : Addr} {H H' : Hp} (h : RB ds p tb H) (e : Ext [] H H') : RB ds p tb H' := ⟨e.lst0 h.p, fun d hd => DiceAt.ext0 e (h.d d hd), e.tab _ h.t⟩
theorem RB.step {ds : List Addr} {p tb : Addr} {H H' : Hp} {d : Addr} (h : RB ds p tb H) (hp : p ∉ ds) (hd : d ∈ ds) (e : Ext [d] H H') (h' : DiceAt H' d) : RB ds p tb H' := by
  refine ⟨e.lst h.p fun w => hp (by rw [show p = d by simpa using w]; exact hd), fun d' hd' => ?_, e.tab _ h.t⟩
  by_cases q : d' = d
  · rw [q]; exact h'
  · obtain ⟨x, y, z, r⟩ := h.d d' hd'
    exact ⟨x, y, z, e.lst r (by simpa using q)⟩
theorem RB.tab {ds : List Addr} {p tb : Addr} {H H' : Hp} (h : RB ds p tb H) (e : Ext [tb] H H') : RB ds p tb H' := by
  refine ⟨e.lst h.p (TabG.nl h.t h.p), fun d hd => ?_, e.tab _ h.t⟩
  obtain ⟨x, y, z, r⟩ := h.d d hd
  exact ⟨x, y, z, e.lst r (TabG.nl h.t r)⟩
theorem pr_none {H : Hp} {Q : VK} {E : XK} {v : V} {b : Bt} (hv : Td K H v b.data) (hd : b.dep + 2 ≤ 60) (hg : gs b [] 0 = none) (q : ∀ H', Ext [] H H' → Q .non H') : spPr K [v] H Q E :=
  ⟨v, b, rfl, hv, hd, fun _ => q, fun g m ps e => by rw [hg] at e; cases e⟩
theorem pr_ring {H : Hp} {Q : VK} {E : XK} {v : V} {b : Bt} (hv : Td K H v b.data) (hd : b.dep + 2 ≤ 60) (hs : ∃ g m ps, gs b [] 0 = some (g, m, ps) ∧ g.dep ≤ 60 ∧ runU (LET.take m) 100 [] ps.reverse = some none ∧ SafeU LET (LET.take m) 100 [] ps.reverse) (q : ∀ H', Ext [] H H' → Q .non H') : spPr K [v] H Q E := by
  obtain ⟨g, m, ps, e, gd, run, safe⟩ := hs
  refine ⟨v, b, rfl, hv, hd, fun z => (by rw [e] at z; cases z), fun g' m' ps' e' => ?_⟩
  rw [e] at e'
  cases e'
  exact ⟨gd, 100, none, run, safe, fun _ => q, fun l z => by cases z⟩
theorem pr_some {H : Hp} {Q : VK} {E : XK} {v : V} {b : Bt} {g : Fm} {m N : Nat} {ps : FP} {l : Tab} (hv : Td K H v b.data) (hd : b.dep + 2 ≤ 60) (e : gs b [] 0 = some (g, m, ps)) (gd : g.dep ≤ 60) (run : runU (LET.take m) N [] ps.reverse = some (some l)) (safe : SafeU LET (LET.take m) N [] ps.reverse)
    (q : UW LET (LET.take m) l [] → ∀ v' H', Ext [] H H' → Td K H' v' (g.fill (lk l)).data → Q v' H') : spPr K [v] H Q E := by
  refine ⟨v, b, rfl, hv, hd, fun z => (by rw [e] at z; cases z), fun g' m' ps' e' => ?_⟩
  rw [e] at e'
  cases e'
  exact ⟨gd, N, some l, run, safe, fun z => (by cases z), fun l' z hu v' H' e1 d1 => by cases z; exact q hu v' H' e1 d1⟩
/-- principal and then plain_names -/
theorem pr_fx {H : Hp} {Q : VK} {E : XK} {v : V} {b : Bt} {g f t : Fm} {m N : Nat} {ps : FP} {l : Tab} (hv : Td K H v b.data) (hd : b.dep + 2 ≤ 60) (F : Fx b g m ps N l f t) (q : ∀ v' H', Ext [] H H' → Td K H' v' f.data → Q v' H') : spPr K [v] H Q E :=
  pr_some hv hd F.e F.gd F.run F.safe fun _ v' H' e d => q v' H' e (by rw [← F.ff]; exact d)
theorem pl_fx {H : Hp} {Q : VK} {E : XK} {v : V} {b : Bt} {g f t : Fm} {m N : Nat} {ps : FP} {l : Tab} (F : Fx b g m ps N l f t) (hv : Td K H v f.data) (q : ∀ v' H', Ext [] H H' → Td K H' v' t.data → Q v' H') : spPl K LET [v] H Q E :=
  ⟨v, f, rfl, hv, F.fd, F.nm, F.few, fun v' H' e d => q v' H' e (by rw [← F.pl]; exact d)⟩
def typedT : Tm := .fn "x" (.bin .to nA (.bin .to nB nC)) (.fn "y" (.bin .to nA nB) (.fn "z" nA (.app (.app (.var "x") (.var "z")) (.app (.var "y") (.var "z")))))
theorem typed_ty : typedT.ty (lk []) = some dueT := by decide +kernel
theorem typed_f : ∀ f ∈ typedT.fms, f.dep ≤ 4 ∧ AbcF f := fun f hf => by
  have : ∀ f ∈ typedT.fms, f.dep ≤ 4 ∧ ∀ x ∈ f.names, x ∈ ABC := by decide +kernel
  exact this f hf
abbrev s_law : Stmt := top 35
abbrev n_law : List Str := ["script", "dice", "term", "goal", "bare", "best", "x", "y", "z", "one", "text", "wide", "a", "b", "c", "due", "typed"]
theorem sc_law : FnScope n_law ["script"] (defScope s_law) := ⟨rfl, rfl, rfl, by decide +kernel, rfl, by decide +kernel, by decide +kernel⟩
theorem law_runs {s : Shared} {H : Hp} {a : Addr} {ns : List Int} (F : Dn K mg "law" s_law f fd c) (hb : ∀ (s : Shared) (u : Value), BindsTo s fd ⟨[u], []⟩ [("script", u)]) (B : Bl mg) (G__law_rounds : Cal P w K mg base 2 "_law_rounds" (spRounds K 3))
    (G__law_closed : CalG P w K mg base 12 "_law_closed" (spClo K)) (G__law_bare : Cal P w K mg base 60 "_law_bare" (spBare K 60)) (G_principal : Cal P w K mg base 66 "principal" (spPr K)) (G_matched : Cal P w K mg base 61 "matched" (spMt K LET tb)) (G_plain_names : Cal P w K mg base 61 "plain_names" (spPl K LET)) (G_type_of : Cal P w K mg base 60 "type_of" (spTyC K 60))
    (en : Env0 P w K mg base callerA [] s H) (ha : SqL K H a (ns.map V.int)) (htb : GxR.TabG H tb) :
    codeAny (model P w) callerA (.call (.ref f) ⟨[.ref a], []⟩) (CR CX0 [] P w H s (fun v _ => v = .bl true) fun _ _ _ => False) s := by
  refine run_here (k := 94) (ps := ["script"]) (us := [.ref a]) (vs := [.ref a]) F sc_law ⟨rfl, by decide, by decide⟩ en (hb s (.ref a)) (.cons rfl .nil) rfl ?_
  have hr : Room 94 (callerA.deeper (envOfC "law" (defScope s_law) s.heap.objs.size f (.ref c))) := (⟨rfl, by decide, by decide⟩ : Room 95 callerA).deeper _
  have hg0 : callerA.guards = some [] := rfl
  have q : ∀ H' : Hp, (fun v _ => v = V.bl true : VK) (V.bl true) H' := fun _ => rfl
  revert q
  generalize (fun v _ => v = V.bl true : VK) = Q
  intro q
  refine ⟨_, (pss_cons (ps_forF PassesOwn.never rfl (pi_lstK K (C8.pe_c G__law_rounds hr (by omega) (by rfl) (pa_cons (pv 0) (pa_cons pe_int pa_nil)))) (pg_name (i := 1) sc_law.nd rfl (by first | exact Or.inl rfl | exact Or.inr rfl)) (pss_cons (ps_asg (pe_cG G__law_closed hr (by omega) hg0 (by rfl) (pa_cons (pv 1) (pa_cons pe_int pa_nil))) (pg_tupK K (n := 2) (by rfl) (pgs_cons (pg_name (i := 2) sc_law.nd rfl (by first | exact Or.inl rfl | exact Or.inr rfl)) (pgs_cons (pg_name (i := 3) sc_law.nd rfl (by first | exact Or.inl rfl | exact Or.inr rfl)) pgs_nil))))
    (pss_cons (ps_set (i := 4) sc_law.nd rfl (by first | exact Or.inl rfl | exact Or.inr rfl) (C8.pe_c G__law_bare hr (by omega) (by rfl) (pa_cons (pv 2) pa_nil)))
    (PSs.hide (pss_cons (ps_if (pt_cmpR op_notN (pv 4) pe_non (nomark _)) (pss_cons (ps_set (i := 5) sc_law.nd rfl (by first | exact Or.inl rfl | exact Or.inr rfl) (C8.pe_c G_principal hr (by omega) (by rfl) (pa_cons (pv 4) pa_nil)))
    (pss_cons (ps_if (PW.pt (pw_and (pt_cmpR op_notN (pv 5) pe_non (nomark _)) (pw_and1 (pt_cmpR op_isN (C8.pe_c G_matched hr (by omega) (by rfl) (pa_cons (pv 5) (pa_cons (pv 3) pa_nil))) pe_non (nomark _))))) (pss_one (ps_ret pe_bl)) pss_nil)
    (pss_one (ps_if (PW.pt (pw_and (pt_cmpR op_isN (pv 5) pe_non (nomark _)) (pw_and1 (pt_cmpR op_lt (pe_callB call_len_str (by rfl) B.b_len (by decide +kernel) (pa_cons (pe_callTy (call_strT K (by rfl) (units90 hr)) (by rfl) B.b_str (by decide +kernel) (pa_cons (pv 4) pa_nil)) pa_nil)) pe_int (nomark _))))) (pss_one (ps_ret pe_bl)) pss_nil)))) pss_nil)
    (PSs.hide (pss_cons (ps_asg (pe_tupK K (pa_cons (pe_tupK K (pa_cons pe_str (pa_cons pe_str pa_nil))) (pa_cons (pe_tupK K (pa_cons pe_str (pa_cons pe_str pa_nil))) (pa_cons (pe_tupK K (pa_cons pe_str (pa_cons pe_str pa_nil))) pa_nil)))) (pg_tupK K (n := 3) (by rfl) (pgs_cons (pg_name (i := 6) sc_law.nd rfl (by first | exact Or.inl rfl | exact Or.inr rfl)) (pgs_cons (pg_name (i := 7) sc_law.nd rfl (by first | exact Or.inl rfl | exact Or.inr rfl)) (pgs_cons (pg_name (i := 8) sc_law.nd rfl (by first | exact Or.inl rfl | exact Or.inr rfl)) pgs_nil)))))
    (PSs.hide (pss_cons (ps_if (PW.pt (pw_or (pt_cmpR op_notN (C8.pe_c G_principal hr (by omega) (by rfl) (pa_cons (pe_tupK K (pa_cons pe_str (pa_cons pe_str (pa_cons (pe_tupK K (pa_cons pe_str (pa_cons (pv 6) (pa_cons (pv 6) pa_nil)))) pa_nil)))) pa_nil)) pe_non (nomark _)) (pw_or1 (pt_cmpR op_notN (C8.pe_c G_principal hr (by omega) (by rfl) (pa_cons (pe_tupK K (pa_cons pe_str (pa_cons pe_str (pa_cons (pv 7) pa_nil)))) pa_nil)) pe_non (nomark _))))) (pss_one (ps_ret pe_bl)) pss_nil)
    (PSs.hide (pss_cons (ps_forF PassesOwn.never rfl (pi_lstK K (pe_lstF (pa_cons (pe_tupK K (pa_cons (pe_tupK K (pa_cons pe_str (pa_cons pe_str (pa_cons (pv 6) pa_nil)))) (pa_cons (pe_tupK K (pa_cons pe_str (pa_cons (pe_tupK K (pa_cons pe_str (pa_cons pe_str pa_nil))) (pa_cons (pe_tupK K (pa_cons pe_str (pa_cons pe_str pa_nil))) pa_nil)))) pa_nil))) (pa_cons (pe_tupK K (pa_cons (pe_tupK K (pa_cons pe_str (pa_cons pe_str (pa_cons (pe_tupK K (pa_cons pe_str (pa_cons pe_str (pa_cons (pv 6) pa_nil)))) pa_nil)))) (pa_cons (pe_tupK K (pa_cons pe_str (pa_cons (pe_tupK K (pa_cons pe_str (pa_cons pe_str pa_nil))) (pa_cons (pe_tupK K (pa_cons pe_str (pa_cons (pe_tupK K (pa_cons pe_str (pa_cons pe_str pa_nil))) (pa_cons (pe_tupK K (pa_cons pe_str (pa_cons pe_str pa_nil))) pa_nil)))) pa_nil)))) pa_nil))) (pa_cons (pe_tupK K (pa_cons (pe_tupK K (pa_cons pe_str (pa_cons pe_str (pa_cons (pe_tupK K (pa_cons pe_str (pa_cons (pe_tupK K (pa_cons pe_str (pa_cons (pv 6) pa_nil))) (pa_cons (pe_tupK K (pa_cons pe_str (pa_cons (pv 6) pa_nil))) pa_nil)))) pa_nil)))) (pa_cons (pe_tupK K (pa_cons pe_str (pa_cons (pe_tupK K (pa_cons pe_str (pa_cons (pe_tupK K (pa_cons pe_str (pa_cons pe_str pa_nil))) (pa_cons (pe_tupK K (pa_cons pe_str (pa_cons pe_str pa_nil))) pa_nil)))) (pa_cons (pe_tupK K (pa_cons pe_str (pa_cons (pe_tupK K (pa_cons pe_str (pa_cons pe_str pa_nil))) (pa_cons (pe_tupK K (pa_cons pe_str (pa_cons pe_str pa_nil))) pa_nil)))) pa_nil)))) pa_nil))) pa_nil))))) (pg_tupK K (n := 2) (by rfl) (pgs_cons (pg_name (i := 9) sc_law.nd rfl (by first | exact Or.inl rfl | exact Or.inr rfl)) (pgs_cons (pg_name (i := 10) sc_law.nd rfl (by first | exact Or.inl rfl | exact Or.inr rfl)) pgs_nil))) (pss_one (ps_if (pt_cmpR (op_neK K hr.units) (C8.pe_c G_plain_names hr (by omega) (by rfl) (pa_cons (C8.pe_c G_principal hr (by omega) (by rfl) (pa_cons (pv 9) pa_nil)) pa_nil)) (pv 10) (nomark _)) (pss_one (ps_ret pe_bl)) pss_nil)))
    (PSs.hide (pss_cons (ps_set (i := 11) sc_law.nd rfl (by first | exact Or.inl rfl | exact Or.inr rfl) (pe_tupK K (pa_cons pe_str (pa_cons pe_str (pa_cons (pe_tupK K (pa_cons pe_str (pa_cons pe_str (pa_cons (pe_tupK K (pa_cons pe_str (pa_cons pe_str (pa_cons (pe_tupK K (pa_cons pe_str (pa_cons (pe_tupK K (pa_cons pe_str (pa_cons (pv 6) (pa_cons (pv 8) pa_nil)))) (pa_cons (pe_tupK K (pa_cons pe_str (pa_cons (pv 7) (pa_cons (pv 8) pa_nil)))) pa_nil)))) pa_nil)))) pa_nil)))) pa_nil)))))
    (PSs.hide (pss_cons (ps_asg (pe_tupK K (pa_cons (pe_tupK K (pa_cons pe_str (pa_cons pe_str pa_nil))) (pa_cons (pe_tupK K (pa_cons pe_str (pa_cons pe_str pa_nil))) (pa_cons (pe_tupK K (pa_cons pe_str (pa_cons pe_str pa_nil))) pa_nil)))) (pg_tupK K (n := 3) (by rfl) (pgs_cons (pg_name (i := 12) sc_law.nd rfl (by first | exact Or.inl rfl | exact Or.inr rfl)) (pgs_cons (pg_name (i := 13) sc_law.nd rfl (by first | exact Or.inl rfl | exact Or.inr rfl)) (pgs_cons (pg_name (i := 14) sc_law.nd rfl (by first | exact Or.inl rfl | exact Or.inr rfl)) pgs_nil)))))
    (PSs.hide (pss_cons (ps_set (i := 15) sc_law.nd rfl (by first | exact Or.inl rfl | exact Or.inr rfl) (pe_tupK K (pa_cons pe_str (pa_cons (pe_tupK K (pa_cons pe_str (pa_cons (pv 12) (pa_cons (pe_tupK K (pa_cons pe_str (pa_cons (pv 13) (pa_cons (pv 14) pa_nil)))) pa_nil)))) (pa_cons (pe_tupK K (pa_cons pe_str (pa_cons (pe_tupK K (pa_cons pe_str (pa_cons (pv 12) (pa_cons (pv 13) pa_nil)))) (pa_cons (pe_tupK K (pa_cons pe_str (pa_cons (pv 12) (pa_cons (pv 14) pa_nil)))) pa_nil)))) pa_nil)))))
    (PSs.hide (pss_cons (ps_if (pt_cmpR (op_neK K hr.units) (C8.pe_c G_plain_names hr (by omega) (by rfl) (pa_cons (C8.pe_c G_principal hr (by omega) (by rfl) (pa_cons (pv 11) pa_nil)) pa_nil)) (pv 15) (nomark _)) (pss_one (ps_ret pe_bl)) pss_nil)
    (PSs.hide (pss_cons (ps_set (i := 16) sc_law.nd rfl (by first | exact Or.inl rfl | exact Or.inr rfl) (pe_tupK K (pa_cons pe_str (pa_cons pe_str (pa_cons (pe_ix (ix_tupK K) (pv 15) pe_int (fun _ _ => rfl)) (pa_cons (pe_tupK K (pa_cons pe_str (pa_cons pe_str (pa_cons (pe_ix (ix_tupK K) (pe_ix (ix_tupK K) (pv 15) pe_int (fun _ _ => rfl)) pe_int (fun _ _ => rfl)) (pa_cons (pe_tupK K (pa_cons pe_str (pa_cons pe_str (pa_cons (pv 12) (pa_cons (pe_ix (ix_tupK K) (pe_ix (ix_tupK K) (pe_ix (ix_tupK K) (pv 11) pe_int (fun _ _ => rfl)) pe_int (fun _ _ => rfl)) pe_int (fun _ _ => rfl)) pa_nil))))) pa_nil))))) pa_nil))))))
    (PSs.hide (pss_one (ps_if (pt_cmpR (op_neK K hr.units) (C8.pe_c G_type_of hr (by omega) (by rfl) (pa_cons (pv 16) (pa_cons pe_dnewF pa_nil))) (pv 15) (nomark _)) (pss_one (ps_ret pe_bl)) pss_nil))))))))))))))))))))))))
    (pss_one (ps_ret pe_bl))), ?_⟩
  walk_at "rd"
  refine ⟨a, ns, rfl, ha, fun p ds H1 e1 hp hl hds nd hpd => ⟨p, rfl, _, hp, ?_⟩⟩
  refine for_go walk_list (fun j σ' H' => (∃ x1 x2 x3 x4 x5 x6 x7 x8 x9 x10 x11 x12 x13 x14 x15 x16, σ' = [some (.ref a), x1, x2, x3, x4, x5, x6, x7, x8, x9, x10, x11, x12, x13, x14, x15, x16]) ∧ RB ds p tb H') ⟨⟨_, _, _, _, _, _, _, _, _, _, _, _, _, _, _, _, rfl⟩, ⟨hp, hds, e1.tab _ htb⟩⟩ (fun j σ' H' _ ⟨_, r⟩ => SqL.of r.p)
    (fun j x σ' H2 H2' hj ⟨⟨x1, x2, x3, x4, x5, x6, x7, x8, x9, x10, x11, x12, x13, x14, x15, x16, hσ⟩, ri⟩ y => ?_) fun σ' H2 ⟨⟨x1, x2, x3, x4, x5, x6, x7, x8, x9, x10, x11, x12, x13, x14, x15, x16, hσ⟩, ri⟩ => ?_
  case refine_2 =>
    subst hσ
    walk_at "rd"
    exact q _
  obtain ⟨rfl, hx⟩ := y
  subst hσ
  rw [List.getElem?_map] at hx
  obtain ⟨d, hm, rfl⟩ : ∃ d, ds[j]? = some d ∧ x = V.ref d := by
    cases hm : ds[j]? with
    | none => rw [hm] at hx; cases hx
    | some d => rw [hm] at hx; exact ⟨d, rfl, (Option.some.inj hx).symm⟩
  have hdm : d ∈ ds := List.mem_of_getElem? hm
  have hd0 := ri.d d hdm
  clear hx hds hp
  have hz : (100000 : Nat) ≤ sizeLine := by decide
  walk_at "rd"
  refine ⟨d, 4, rfl, by omega, by omega, hd0, fun v1 t g H3 e3 hd3 hdr hgd hto hv => ?_⟩
  obtain ⟨pv, w1, w2, rfl, hpv, ht, hg⟩ : ∃ p a b, v1 = V.ref p ∧ tupF K H3 p = some [a, b] ∧ Td K H3 a t.data ∧ Td K H3 b g.data := by
    cases hv with
    | tup e r => cases r with
      | cons h1 r => cases r with
        | cons h2 r => cases r; exact ⟨_, _, _, rfl, e, h1, h2⟩
  refine ⟨pv, rfl, _, hpv, rfl, _, _, rfl, _, _, rfl, rfl, ?_⟩
  have r3 := ri.step hpd hdm e3 hd3
  clear e3 hd3 hd0 ri hpv hv
  have few := hdr.gd.dep
  have hgr := hdr.gr
  have hB := tyB_dr hdr
  refine ⟨w1, t, rfl, ht, by omega, by omega, hdr.gd.n, fun vb H4 e4 hvb => ?_⟩
  have r4 := r3.ext0 e4
  have hg4 := hg.ext e4
  clear r3 ht hg e4
  rw [hideS_eq]
  generalize hT : (hideS _ : TS) = T
  have few13 : t.dep ≤ 13 := few
  have hsub : ∀ x ∈ ABC, x ∈ LET := by decide +kernel
  have hgn : ∀ x ∈ g.names, x ∈ LET := fun x hx => hsub x (hgd.2 x hx)
  have fin : ∀ (y5 y6 y7 y8 y9 y10 y11 y12 y13 y14 y15 y16 : Option V) (J' : Hp), RB ds p tb J' → (∃ x1 x2 x3 x4 x5 x6 x7 x8 x9 x10 x11 x12 x13 x14 x15 x16, [some (V.ref a), some (V.ref d), some w1, some w2, some vb, y5, y6, y7, y8, y9, y10, y11, y12, y13, y14, y15, y16] = [some (V.ref a), x1, x2, x3, x4, x5, x6, x7, x8, x9, x10, x11, x12, x13, x14, x15, x16]) ∧ RB ds p tb J' := fun y5 y6 y7 y8 y9 y10 y11 y12 y13 y14 y15 y16 J' rb => ⟨⟨_, _, _, _, _, _, _, _, _, _, _, _, _, _, _, _, rfl⟩, rb⟩
  have tail : ∀ (D : Ends) (z5 : Option V) (J : Hp), RB ds p tb J → (∀ (y5 y6 y7 y8 y9 y10 y11 y12 y13 y14 y15 y16 : Option V) (J' : Hp), RB ds p tb J' → D.nx [some (V.ref a), some (V.ref d), some w1, some w2, some vb, y5, y6, y7, y8, y9, y10, y11, y12, y13, y14, y15, y16] J') → T D [some (V.ref a), some (V.ref d), some w1, some w2, some vb, z5, x6, x7, x8, x9, x10, x11, x12, x13, x14, x15, x16] J := by
    clear r4 hg4 hvb
    intro D z5 J rJ hnx
    rw [← hT, hideS_eq]
    clear hT T
    generalize hT : (hideS _ : TS) = T
    walk_at "rd"
    refine ⟨by decide, fun a1 J1 j1 u1 => ⟨by decide, fun a2 J2 j2 u2 => ⟨by decide, fun a3 J3 j3 u3 => ⟨by decide, fun a4 J4 j4 u4 => ⟨_, u4, rfl, _, _, rfl, _, _, rfl, _, _, rfl, rfl, ?_⟩⟩⟩⟩⟩
    have r4 := rJ.ext0 (((j1.trans j2).trans j3).trans j4)
    have dx4 : Td K J4 (.ref a1) (Bt.var "x").data := .tup (tupF_ext ((j2.trans j3).trans j4) u1) (.cons (.str _) (.cons (.str _) .nil))
    have dy4 : Td K J4 (.ref a2) (Bt.var "y").data := .tup (tupF_ext (j3.trans j4) u2) (.cons (.str _) (.cons (.str _) .nil))
    have dz4 : Td K J4 (.ref a3) (Bt.var "z").data := .tup (tupF_ext j4 u3) (.cons (.str _) (.cons (.str _) .nil))
    clear rJ j1 j2 j3 j4 u1 u2 u3 u4
    rw [← hT, hideS_eq]
    clear hT T
    generalize hT : (hideS _ : TS) = T
    walk_at "rd"
    refine ⟨by decide, fun b1 K1 k1 v1 => ⟨by decide, fun b2 K2 k2 v2 => ?_⟩⟩
    have k12 := k1.trans k2
    refine pr_ring (b := selfB) (.tup v2 (.cons (.str _) (.cons (.str _) (.cons (.tup (tupF_ext k2 v1) (.cons (.str _) (.cons (dx4.ext k12) (.cons (dx4.ext k12) .nil)))) .nil)))) (by decide) self_no fun K3 k3 => ?_
    rw [if_neg (by simp)]
    refine ⟨by decide, fun c1 L1 l1 o1 => ?_⟩
    have k4 := (k12.trans k3).trans l1
    refine pr_none (b := openB) (.tup o1 (.cons (.str _) (.cons (.str _) (.cons (dy4.ext k4) .nil)))) (by decide) open_no fun L2 l2 => ?_
    rw [if_neg (by simp)]
    have k5 := k4.trans l2
    have r5 := r4.ext0 k5
    have dx5 := dx4.ext k5
    have dy5 := dy4.ext k5
    have dz5 := dz4.ext k5
    clear r4 dx4 dy4 dz4 k1 k2 k12 k3 l1 l2 k4 k5 v1 v2 o1
    rw [← hT, hideS_eq]
    clear hT T
    generalize hT : (hideS _ : TS) = T
    walk_at "rd"
    refine ⟨by decide, fun f1 M1 e1 t1 => ⟨by decide, fun n1 M2 e2 t2 => ⟨by decide, fun n2 M3 e3 t3 => ⟨by decide, fun g1 M4 e4 t4 => ⟨by decide, fun pp1 M5 e5 t5 => ⟨by decide, fun i2 M6 e6 t6 => ⟨by decide, fun f2 M7 e7 t7 => ⟨by decide, fun n3 M8 e8 t8 => ⟨by decide, fun n4 M9 e9 t9 => ⟨by decide, fun n5 M10 e10 t10 => ⟨by decide, fun i3 M11 e11 t11 => ⟨by decide, fun g2 M12 e12 t12 => ⟨by decide, fun pp2 M13 e13 t13 => ⟨by decide, fun i4 M14 e14 t14 => ⟨by decide, fun i5 M15 e15 t15 => ⟨by decide, fun i6 M16 e16 t16 => ⟨by decide, fun f3 M17 e17 t17 => ⟨by decide, fun n6 M18 e18 t18 => ⟨by decide, fun n7 M19 e19 t19 => ⟨by decide, fun i7 M20 e20 t20 => ⟨by decide, fun n8 M21 e21 t21 => ⟨by decide, fun n9 M22 e22 t22 => ⟨by decide, fun i8 M23 e23 t23 => ⟨by decide, fun g3 M24 e24 t24 => ⟨by decide, fun pp3 M25 e25 t25 => ⟨by decide, fun Ls ML nL eL tL => ?_⟩⟩⟩⟩⟩⟩⟩⟩⟩⟩⟩⟩⟩⟩⟩⟩⟩⟩⟩⟩⟩⟩⟩⟩⟩⟩
    have z25 : Ext [] M25 ML := eL
    have z24 : Ext [] M24 ML := e25.trans z25
    have z23 : Ext [] M23 ML := e24.trans z24
    have z22 : Ext [] M22 ML := e23.trans z23
    have z21 : Ext [] M21 ML := e22.trans z22
    have z20 : Ext [] M20 ML := e21.trans z21
    have z19 : Ext [] M19 ML := e20.trans z20
    have z18 : Ext [] M18 ML := e19.trans z19
    have z17 : Ext [] M17 ML := e18.trans z18
    have z16 : Ext [] M16 ML := e17.trans z17
    have z15 : Ext [] M15 ML := e16.trans z16
    have z14 : Ext [] M14 ML := e15.trans z15
    have z13 : Ext [] M13 ML := e14.trans z14
    have z12 : Ext [] M12 ML := e13.trans z13
    have z11 : Ext [] M11 ML := e12.trans z12
    have z10 : Ext [] M10 ML := e11.trans z11
    have z9 : Ext [] M9 ML := e10.trans z10
    have z8 : Ext [] M8 ML := e9.trans z9
    have z7 : Ext [] M7 ML := e8.trans z8
    have z6 : Ext [] M6 ML := e7.trans z7
    have z5 : Ext [] M5 ML := e6.trans z6
    have z4 : Ext [] M4 ML := e5.trans z5
    have z3 : Ext [] M3 ML := e4.trans z4
    have z2 : Ext [] M2 ML := e3.trans z3
    have z1 : Ext [] M1 ML := e2.trans z2
    have z0 : Ext [] L2 ML := e1.trans z1
    have u1 := tupF_ext z1 t1
    have u2 := tupF_ext z2 t2
    have u3 := tupF_ext z3 t3
    have u4 := tupF_ext z4 t4
    have u5 := tupF_ext z5 t5
    have u6 := tupF_ext z6 t6
    have u7 := tupF_ext z7 t7
    have u8 := tupF_ext z8 t8
    have u9 := tupF_ext z9 t9
    have u10 := tupF_ext z10 t10
    have u11 := tupF_ext z11 t11
    have u12 := tupF_ext z12 t12
    have u13 := tupF_ext z13 t13
    have u14 := tupF_ext z14 t14
    have u15 := tupF_ext z15 t15
    have u16 := tupF_ext z16 t16
    have u17 := tupF_ext z17 t17
    have u18 := tupF_ext z18 t18
    have u19 := tupF_ext z19 t19
    have u20 := tupF_ext z20 t20
    have u21 := tupF_ext z21 t21
    have u22 := tupF_ext z22 t22
    have u23 := tupF_ext z23 t23
    have u24 := tupF_ext z24 t24
    have u25 := tupF_ext z25 t25
    have r6 := r5.ext0 z0
    have dx6 := dx5.ext z0
    have dy6 := dy5.ext z0
    have dz6 := dz5.ext z0
    have db1 : Td K ML (.ref f1) idB.data := (.tup u1 (.cons (.str _) (.cons (.str _) (.cons dx6 .nil))))
    have dt1 : Td K ML (.ref g1) idT.data := (.tup u4 (.cons (.str _) (.cons (.tup u2 (.cons (.str _) (.cons (.str _) .nil))) (.cons (.tup u3 (.cons (.str _) (.cons (.str _) .nil))) .nil))))
    have db2 : Td K ML (.ref f2) kB.data := (.tup u7 (.cons (.str _) (.cons (.str _) (.cons (.tup u6 (.cons (.str _) (.cons (.str _) (.cons dx6 .nil)))) .nil))))
    have dt2 : Td K ML (.ref g2) kT.data := (.tup u12 (.cons (.str _) (.cons (.tup u8 (.cons (.str _) (.cons (.str _) .nil))) (.cons (.tup u11 (.cons (.str _) (.cons (.tup u9 (.cons (.str _) (.cons (.str _) .nil))) (.cons (.tup u10 (.cons (.str _) (.cons (.str _) .nil))) .nil)))) .nil))))
    have db3 : Td K ML (.ref f3) swB.data := (.tup u17 (.cons (.str _) (.cons (.str _) (.cons (.tup u16 (.cons (.str _) (.cons (.tup u14 (.cons (.str _) (.cons dx6 .nil))) (.cons (.tup u15 (.cons (.str _) (.cons dx6 .nil))) .nil)))) .nil))))
    have dt3 : Td K ML (.ref g3) swT.data := (.tup u24 (.cons (.str _) (.cons (.tup u20 (.cons (.str _) (.cons (.tup u18 (.cons (.str _) (.cons (.str _) .nil))) (.cons (.tup u19 (.cons (.str _) (.cons (.str _) .nil))) .nil)))) (.cons (.tup u23 (.cons (.str _) (.cons (.tup u21 (.cons (.str _) (.cons (.str _) .nil))) (.cons (.tup u22 (.cons (.str _) (.cons (.str _) .nil))) .nil)))) .nil))))
    clear r5 dx5 dy5 dz5 e1 t1 z1 e2 t2 z2 e3 t3 z3 e4 t4 z4 e5 t5 z5 e6 t6 z6 e7 t7 z7 e8 t8 z8 e9 t9 z9 e10 t10 z10 e11 t11 z11 e12 t12 z12 e13 t13 z13 e14 t14 z14 e15 t15 z15 e16 t16 z16 e17 t17 z17 e18 t18 z18 e19 t19 z19 e20 t20 z20 e21 t21 z21 e22 t22 z22 e23 t23 z23 e24 t24 z24 e25 t25 z25 z0 eL nL u1 u2 u3 u4 u6 u7 u8 u9 u10 u11 u12 u14 u15 u16 u17 u18 u19 u20 u21 u22 u23 u24
    refine ⟨_, tL, ?_⟩
    refine for_go walk_list (fun i σ' H' => (∃ y9 y10, σ' = [some (V.ref a), some (V.ref d), some w1, some w2, some vb, z5, some (V.ref a1), some (V.ref a2), some (V.ref a3), y9, y10, x11, x12, x13, x14, x15, x16]) ∧ Ext [] ML H') ⟨⟨_, _, rfl⟩, Ext.refl _ _⟩ (fun i σ' H' _ ⟨_, e⟩ => SqL.of (e.lst0 tL)) (fun i x σ' H' H'' hi ⟨⟨y9, y10, hσ⟩, e⟩ y => ?_) fun σ' H' ⟨⟨y9, y10, hσ⟩, e⟩ => ?_
    · obtain ⟨rfl, hx⟩ := y
      subst hσ
      walk_at "rd"
      rcases i with _ | _ | _ | i
      · cases hx
        refine ⟨pp1, rfl, _, tupF_ext e u5, rfl, _, _, rfl, _, _, rfl, rfl, ?_⟩
        obtain ⟨g', m', ps', N', l', ff', FX⟩ := fx_of id_fx
        refine pr_fx (db1.ext e) (by decide) FX fun v6 H6 e6 d6 => ?_
        refine pl_fx FX d6 fun v7 H7 e7 d7 => ?_
        refine ⟨_, _, d7, ((dt1.ext e).ext e6).ext e7, by decide +kernel, by decide +kernel, ?_⟩
        rw [if_pos rfl, Fm.eqv_data]
        refine ⟨_, rfl, ?_⟩
        rw [if_neg (by simp)]
        exact ⟨⟨_, rfl⟩, (e.trans e6).trans e7⟩
      · cases hx
        refine ⟨pp2, rfl, _, tupF_ext e u13, rfl, _, _, rfl, _, _, rfl, rfl, ?_⟩
        obtain ⟨g', m', ps', N', l', ff', FX⟩ := fx_of k_fx
        refine pr_fx (db2.ext e) (by decide) FX fun v6 H6 e6 d6 => ?_
        refine pl_fx FX d6 fun v7 H7 e7 d7 => ?_
        refine ⟨_, _, d7, ((dt2.ext e).ext e6).ext e7, by decide +kernel, by decide +kernel, ?_⟩
        rw [if_pos rfl, Fm.eqv_data]
        refine ⟨_, rfl, ?_⟩
        rw [if_neg (by simp)]
        exact ⟨⟨_, rfl⟩, (e.trans e6).trans e7⟩
      · cases hx
        refine ⟨pp3, rfl, _, tupF_ext e u25, rfl, _, _, rfl, _, _, rfl, rfl, ?_⟩
        obtain ⟨g', m', ps', N', l', ff', FX⟩ := fx_of sw_fx
        refine pr_fx (db3.ext e) (by decide) FX fun v6 H6 e6 d6 => ?_
        refine pl_fx FX d6 fun v7 H7 e7 d7 => ?_
        refine ⟨_, _, d7, ((dt3.ext e).ext e6).ext e7, by decide +kernel, by decide +kernel, ?_⟩
        rw [if_pos rfl, Fm.eqv_data]
        refine ⟨_, rfl, ?_⟩
        rw [if_neg (by simp)]
        exact ⟨⟨_, rfl⟩, (e.trans e6).trans e7⟩
      · simp at hx
    subst hσ
    have r7 := r6.ext0 e
    have dx7 := dx6.ext e
    have dy7 := dy6.ext e
    have dz7 := dz6.ext e
    clear r6 dx6 dy6 dz6 e db1 db2 db3 dt1 dt2 dt3 u5 u13 u25 tL
    rw [← hT, hideS_eq]
    clear hT T
    generalize hT : (hideS _ : TS) = T
    walk_at "rd"
    refine ⟨by decide, fun q1 WH1 we1 wt1 => ⟨by decide, fun q2 WH2 we2 wt2 => ⟨by decide, fun q3 WH3 we3 wt3 => ⟨by decide, fun q4 WH4 we4 wt4 => ⟨by decide, fun q5 WH5 we5 wt5 => ⟨by decide, fun q6 WH6 we6 wt6 => ?_⟩⟩⟩⟩⟩⟩
    have wez6 : Ext [] WH6 WH6 := Ext.refl _ _
    have wez5 : Ext [] WH5 WH6 := we6.trans wez6
    have wez4 : Ext [] WH4 WH6 := we5.trans wez5
    have wez3 : Ext [] WH3 WH6 := we4.trans wez4
    have wez2 : Ext [] WH2 WH6 := we3.trans wez3
    have wez1 : Ext [] WH1 WH6 := we2.trans wez2
    have wez0 : Ext [] H' WH6 := we1.trans wez1
    have wtf1 := tupF_ext wez1 wt1
    have wtf2 := tupF_ext wez2 wt2
    have wtf3 := tupF_ext wez3 wt3
    have wtf4 := tupF_ext wez4 wt4
    have wtf5 := tupF_ext wez5 wt5
    have wtf6 := tupF_ext wez6 wt6
    have r8 := r7.ext0 wez0
    have dx8 := dx7.ext wez0
    have dy8 := dy7.ext wez0
    have dz8 := dz7.ext wez0
    have dw8 : Td K WH6 (.ref q6) wideB.data := (.tup wtf6 (.cons (.str _) (.cons (.str _) (.cons (.tup wtf5 (.cons (.str _) (.cons (.str _) (.cons (.tup wtf4 (.cons (.str _) (.cons (.str _) (.cons (.tup wtf3 (.cons (.str _) (.cons (.tup wtf1 (.cons (.str _) (.cons dx8 (.cons dz8 .nil)))) (.cons (.tup wtf2 (.cons (.str _) (.cons dy8 (.cons dz8 .nil)))) .nil)))) .nil)))) .nil)))) .nil))))
    have dq8 : Td K WH6 (.ref q3) (Bt.app (.app (.var "x") (.var "z")) (.app (.var "y") (.var "z"))).data := (.tup wtf3 (.cons (.str _) (.cons (.tup wtf1 (.cons (.str _) (.cons dx8 (.cons dz8 .nil)))) (.cons (.tup wtf2 (.cons (.str _) (.cons dy8 (.cons dz8 .nil)))) .nil))))
    clear r7 dx7 dy7 dz7 dx8 dy8 dz8 wez0
    clear we1 wt1 wez1 we2 wt2 wez2 we3 wt3 wez3 we4 wt4 wez4 we5 wt5 wez5 we6 wt6 wez6
    rw [← hT, hideS_eq]
    clear hT T
    generalize hT : (hideS _ : TS) = T
    walk_at "rd"
    refine ⟨by decide, fun n1 N1 j1 u1 => ⟨by decide, fun n2 N2 j2 u2 => ⟨by decide, fun n3 N3 j3 u3 => ⟨by decide, fun n4 N4 j4 u4 => ⟨_, u4, rfl, _, _, rfl, _, _, rfl, _, _, rfl, rfl, ?_⟩⟩⟩⟩⟩
    have j14 := ((j1.trans j2).trans j3).trans j4
    have r9 := r8.ext0 j14
    have da9 : Td K N4 (.ref n1) nA.data := .tup (tupF_ext ((j2.trans j3).trans j4) u1) (.cons (.str _) (.cons (.str _) .nil))
    have db9 : Td K N4 (.ref n2) nB.data := .tup (tupF_ext (j3.trans j4) u2) (.cons (.str _) (.cons (.str _) .nil))
    have dc9 : Td K N4 (.ref n3) nC.data := .tup (tupF_ext j4 u3) (.cons (.str _) (.cons (.str _) .nil))
    have dw9 := dw8.ext j14
    have dq9 := dq8.ext j14
    have w49 := tupF_ext j14 wtf4
    have w59 := tupF_ext j14 wtf5
    have w69 := tupF_ext j14 wtf6
    clear r8 dw8 dq8 wtf1 wtf2 wtf3 wtf4 wtf5 wtf6 j1 j2 j3 j4 j14 u1 u2 u3 u4
    rw [← hT, hideS_eq]
    clear hT T
    generalize hT : (hideS _ : TS) = T
    walk_at "rd"
    refine ⟨by decide, fun m1 VH1 ve1 vt1 => ⟨by decide, fun m2 VH2 ve2 vt2 => ⟨by decide, fun m3 VH3 ve3 vt3 => ⟨by decide, fun m4 VH4 ve4 vt4 => ⟨by decide, fun m5 VH5 ve5 vt5 => ⟨by decide, fun m6 VH6 ve6 vt6 => ?_⟩⟩⟩⟩⟩⟩
    have vez6 : Ext [] VH6 VH6 := Ext.refl _ _
    have vez5 : Ext [] VH5 VH6 := ve6.trans vez6
    have vez4 : Ext [] VH4 VH6 := ve5.trans vez5
    have vez3 : Ext [] VH3 VH6 := ve4.trans vez4
    have vez2 : Ext [] VH2 VH6 := ve3.trans vez3
    have vez1 : Ext [] VH1 VH6 := ve2.trans vez2
    have vez0 : Ext [] N4 VH6 := ve1.trans vez1
    have vtf1 := tupF_ext vez1 vt1
    have vtf2 := tupF_ext vez2 vt2
    have vtf3 := tupF_ext vez3 vt3
    have vtf4 := tupF_ext vez4 vt4
    have vtf5 := tupF_ext vez5 vt5
    have vtf6 := tupF_ext vez6 vt6
    have r10 := r9.ext0 vez0
    have da10 := da9.ext vez0
    have db10 := db9.ext vez0
    have dc10 := dc9.ext vez0
    have dw10 := dw9.ext vez0
    have dq10 := dq9.ext vez0
    have w4a := tupF_ext vez0 w49
    have w5a := tupF_ext vez0 w59
    have w6a := tupF_ext vez0 w69
    have dd10 : Td K VH6 (.ref m6) dueT.data := (.tup vtf6 (.cons (.str _) (.cons (.tup vtf2 (.cons (.str _) (.cons da10 (.cons (.tup vtf1 (.cons (.str _) (.cons db10 (.cons dc10 .nil)))) .nil)))) (.cons (.tup vtf5 (.cons (.str _) (.cons (.tup vtf3 (.cons (.str _) (.cons da10 (.cons db10 .nil)))) (.cons (.tup vtf4 (.cons (.str _) (.cons da10 (.cons dc10 .nil)))) .nil)))) .nil))))
    have dm2 : Td K VH6 (.ref m2) (Fm.bin .to nA (.bin .to nB nC)).data := (.tup vtf2 (.cons (.str _) (.cons da10 (.cons (.tup vtf1 (.cons (.str _) (.cons db10 (.cons dc10 .nil)))) .nil))))
    have dm3 : Td K VH6 (.ref m3) (Fm.bin .to nA nB).data := (.tup vtf3 (.cons (.str _) (.cons da10 (.cons db10 .nil))))
    clear r9 da9 db9 dc9 dw9 dq9 w49 w59 w69 vez0 vtf1 vtf2 vtf3 vtf4 db10 dc10
    clear ve1 vt1 vez1 ve2 vt2 vez2 ve3 vt3 vez3 ve4 vt4 vez4 ve5 vt5 vez5 ve6 vt6 vez6
    rw [← hT, hideS_eq]
    clear hT T
    generalize hT : (hideS _ : TS) = T
    walk_at "rd"
    obtain ⟨g', m', ps', N', l', ff', FX⟩ := fx_of wide_fx
    refine pr_fx dw10 (by decide) FX fun v6 H6 e6 d6 => ?_
    refine pl_fx FX d6 fun v7 H7 e7 d7 => ?_
    have e67 := e6.trans e7
    refine ⟨_, _, d7, dd10.ext e67, by decide +kernel, by decide +kernel, ?_⟩
    rw [if_pos rfl, Fm.eqv_data]
    refine ⟨_, rfl, ?_⟩
    rw [if_neg (by simp)]
    have r11 := r10.ext0 e67
    have da11 := da10.ext e67
    have dq11 := dq10.ext e67
    have dd11 := dd10.ext e67
    have dm2' := dm2.ext e67
    have dm3' := dm3.ext e67
    have w4b := tupF_ext e67 w4a
    have w5b := tupF_ext e67 w5a
    have w6b := tupF_ext e67 w6a
    have vtf5' := tupF_ext e67 vtf5
    have vtf6' := tupF_ext e67 vtf6
    clear r10 da10 dw10 dq10 dd10 dm2 dm3 w4a w5a w6a vtf5 vtf6 e6 e7 d6 d7 e67 FX
    rw [← hT, hideS_eq]
    clear hT T
    generalize hT : (hideS _ : TS) = T
    walk_at "rd"
    refine ⟨_, vtf6', _, atI_1, _, vtf6', _, atI_2, m5, rfl, _, vtf5', _, atI_1, _, w6b, _, atI_2, q5, rfl, _, w5b, _, atI_2, q4, rfl, _, w4b, _, atI_2, by decide, fun k1 X1 e1 t1 => ⟨by decide, fun k2 X2 e2 t2 => ⟨by decide, fun k3 X3 e3 t3 => ?_⟩⟩⟩
    have e13 := (e1.trans e2).trans e3
    have r12 := r11.ext0 e13
    have dd12 := dd11.ext e13
    have dtt : Td K X3 (.ref k3) typedT.data := (.tup t3 (.cons (.str _) (.cons (.str _) (.cons (dm2'.ext e13) (.cons (.tup (tupF_ext e3 t2) (.cons (.str _) (.cons (.str _) (.cons (dm3'.ext e13) (.cons (.tup (tupF_ext (e2.trans e3) t1) (.cons (.str _) (.cons (.str _) (.cons (da11.ext e13) (.cons (dq11.ext e13) .nil))))) .nil))))) .nil)))))
    clear r11 da11 dq11 dd11 dm2' dm3' w4b w5b w6b vtf5' vtf6' t1 t2 t3 e1 e2 e3 e13
    rw [← hT, hideS_eq]
    clear hT T
    walk_at "rd"
    refine fun b4 Y4 n4 e4 h4 => ⟨.ref k3, b4, typedT, [], 4, dueT, rfl, ⟨dtt.ext e4, ⟨[], h4, .nil⟩, ⟨fun x f e => (by cases e), typed_f⟩, by decide, by decide, by decide⟩, by decide, typed_ty, fun v5 Y5 e5 hv5 => ⟨_, _, hv5, (dd12.ext e4).ext e5, by decide +kernel, by decide +kernel, ?_⟩⟩
    rw [if_pos rfl, Fm.eqv_data]
    refine ⟨_, rfl, ?_⟩
    rw [if_neg (by simp)]
    exact hnx _ _ _ _ _ _ _ _ _ _ _ _ _ (r12.ext0 (e4.trans e5))
  walk_at "rd"
  cases hbt : t.bare with
  | none =>
    have hn : vb = V.non := by
      unfold bareD at hvb
      rw [hbt] at hvb
      cases hvb; rfl
    rw [if_neg (by rw [hn]; simp)]
    exact tail _ _ _ r4 fun y5 y6 y7 y8 y9 y10 y11 y12 y13 y14 y15 y16 J' rb => ⟨by simp, rb⟩
  | some b =>
    obtain ⟨q1, q2, q3⟩ := bare_le t b hbt
    have hb4 : Td K H4 vb b.data := by
      unfold bareD at hvb
      rw [hbt] at hvb
      exact hvb
    have vbn : vb ≠ V.non := fun e => by
      subst e
      cases b <;> cases hb4
    rw [if_pos (by simp [vbn])]
    by_cases hc : b.cnt ≤ 26
    · obtain ⟨g', ps, N, l, R⟩ := prin_ok hbt hdr.ty hB (by omega) (by omega) hc
      obtain ⟨th, hth⟩ := R.way
      have d1 := Fm.dep_fill_ge (lk l) g'
      have d2 := Fm.dep_fill_ge th (g'.fill (lk l))
      rw [hth] at d2
      have d3 := hgd.1
      refine pr_some hb4 (by omega) R.e (by omega) R.run R.safe fun hu v6 H6 e6 hv6 => ?_
      have v6n : v6 ≠ V.non := fun e => by
        subst e
        cases hz6 : g'.fill (lk l) <;> rw [hz6] at hv6 <;> cases hv6
      rw [if_pos (by simp [v6n])]
      have hmt : (mt [] (g'.fill (lk l)) g).2 = true := by
        have := mt_finds (s := g'.fill (lk l)) (th := th)
        rwa [hth] at this
      refine ⟨v6, w2, g'.fill (lk l), g, rfl, hv6, hg4.ext e6, by omega, fun x hx => (hu.g.fresh (t := g') (fun y hy => List.mem_of_mem_take (R.il y hy)) x hx).1, hgn, by omega, (r4.ext0 e6).t, fun hno => absurd hmt (by rw [hno]; simp), fun _ a7 H7 e7 _ => ?_⟩
      dsimp only
      rw [if_neg (by simp), if_neg v6n]
      exact tail _ _ _ ((r4.ext0 e6).tab e7) fun y5 y6 y7 y8 y9 y10 y11 y12 y13 y14 y15 y16 J' rb => ⟨by simp, rb⟩
    · refine pr_none hb4 (by omega) (gs_many (by omega)) fun H6 e6 => ?_
      rw [if_neg (by simp), if_pos rfl]
      have hlong := long_cnt t b hbt hdr.pv hdr.gd.n
      have hsl := b.show_len fun x hx => hdr.gd.n x (q3 x hx)
      have hsz : t.sz + 2 ≤ 4 * 2 ^ 4 := hdr.gd.sz
      have hsh := Bt.shaped (t := b) (fun x hx => hdr.gd.n x (q3 x hx)) (by omega)
      have hso := b.show_ok
      obtain ⟨bds, hbds⟩ : ∃ ds, b.data = .tuple ds := by cases b <;> exact ⟨_, rfl⟩
      have hb6 := hb4.ext e6
      rw [hbds] at hlong hsl hsh hso hb6
      refine ⟨bds, hb6, hsh, hso, by omega, by omega, ?_⟩
      rw [if_neg (by omega)]
      exact tail _ _ _ (r4.ext0 e6) fun y5 y6 y7 y8 y9 y10 y11 y12 y13 y14 y15 y16 J' rb => ⟨by simp, rb⟩
end
end Sq
set_option Elab.async false
set_option linter.all false
set_option maxRecDepth 100000
set_option maxHeartbeats 2000000
namespace Sq
open PySem PySem.Spec PyProof.Rows L2 NdefX
/-! ### an own exception whose __init__ says super().__init__("..") and keeps its one argument -/
abbrev xiBody (fld m : Str) (jk : Nat) (p0 p1 p2 p3 p4 p5 p6 p7 p8 p9 : Pos) : List Stmt :=
  [.Expr (.Call (.Attribute (.Call (.Name "super" p0) [] [] p1) "__init__" p2) [.Constant (.str m) jk p3] [] p4) p5, .Assign [.Attribute (.Name "self" p6) fld p7] (.Name fld p8) p9]
abbrev xiNF (qual : Str) (params : Arguments) (body : List Stmt) (scope : Scope) (cc cda : Addr) : NF := ⟨"__init__", qual, params, body, scope, [("__class__", cc)], cda⟩
abbrev xiFd (qual : Str) (params : Arguments) (body : List Stmt) (scope : Scope) (cc cda : Addr) (dV kV doc pm ct : Value) (an : Option Addr) : FuncData := PySem.W.fnX "__init__" qual params body scope [("__class__", cc)] dV kV doc pm an (.ref cda) ct
def spXi (C : Addr) (fld : Str) : Sp := fun vs H Q _ => ∃ (a : Addr) (v : V), vs = [.ref a, v] ∧ H a = some (exo a C none) ∧ ∀ d, H d = none → d ≠ a → Q .non (upd (upd H d (exd d [(fld, v)])) a (exo a C (some d)))
structure XiC (P : Program) (K : PySem.W.Frag) (mg : Str → Option Value) (C : Addr) (fld : Str) : Prop where
  T : OexC K C
  nf : PySem.W.findIn K (.ref C) fld = some none
  ms : mg "super" = none
  hD : ∃ cd, PySem.W.clsIn K C = some cd
  sb : PySem.W.mroIn K C (.ref C) = some true
  op : PySem.W.nsIn K cStatics "thirdparty.any" = some none
  su : PySem.W.ks_superIn K C C "__init__" = some (some (.builtin "ValueError.__init__"))
  ve : PySem.W.subIn K (.ref C) (.type "ValueError") = some true
  tp : (P.main.scope.names.lookup ("super" : Str)).isSome = false
section
variable {P : Program} {w : World} {K : PySem.W.Frag} {mg : Str → Option Value} {base : Heap} {CX : CXT} {C fI cc cda : Addr} {fld m qual : Str} {params : Arguments} {scope : Scope} {dV kV doc pm ct oc cl ccl : Value} {an od cld cdd : Option Addr} {osl csl ccs : Array (Option Value)} {k : Nat}
  {jk : Nat} {p0 p1 p2 p3 p4 p5 p6 p7 p8 p9 : Pos} {vs : Array Value} {file : Str} {tf : Tok} {ar : Arg}
theorem xi_fn (XC : XiC P K mg C fld) (lk : K.lookup fI = some ⟨oc, od, .func (xiFd qual params (xiBody fld m jk p0 p1 p2 p3 p4 p5 p6 p7 p8 p9) scope cc cda dV kV doc pm ct an), osl⟩) (hcd : PySem.W.codeIn K (.ref cda) qual = true)
    (S : NScope ["self", fld, "__class__"] ["self", fld] ["__class__"] scope) (hks : scope.names.lookup ("super" : Str) = some .globalImplicit) (hcell : K.lookup cc = some ⟨cl, cld, .cell (some (.ref C)), csl⟩)
    (hcode : K.lookup cda = some ⟨ccl, cdd, .fields vs, ccs⟩) (hvs : vs[2]? = some (.str file tf)) (hfile : ((P.main.file : Str) == file) = true) (hp : (params.posonlyargs ++ params.args).head? = some ar) (har : ar.arg = "self") (hfd : (fld == ("__debug__" : Str)) = false) (hfc : (fld == ("__classdict__" : Str)) = false) {pl : Sem Bool}
    (he : ∀ L : Addr, eval (.Call (.Attribute (.Call (.Name "super" p0) [] [] p1) "__init__" p2) [.Constant (.str m) jk p3] [] p4) (envF (xiNF qual params (xiBody fld m jk p0 p1 p2 p3 p4 p5 p6 p7 p8 p9) scope cc cda) fI L) = (do
      let ov ← attributeBase (.Call (.Name "super" p0) [] [] p1) "__init__" (envF (xiNF qual params (xiBody fld m jk p0 p1 p2 p3 p4 p5 p6 p7 p8 p9) scope cc cda) fI L) (eval (.Call (.Name "super" p0) [] [] p1) (envF (xiNF qual params (xiBody fld m jk p0 p1 p2 p3 p4 p5 p6 p7 p8 p9) scope cc cda) fI L))
      standAt p2.atName
      let (f, first) ← holding [ov] (getMethod ov "__init__" pl)
      callWith p4 f first (backTo p4 (starEach [.Constant (.str m) jk p3] (envF (xiNF qual params (xiBody fld m jk p0 p1 p2 p3 p4 p5 p6 p7 p8 p9) scope cc cda) fI L))) [])) :
    FnOk P w K mg base CX (k + 1) fI (xiFd qual params (xiBody fld m jk p0 p1 p2 p3 p4 p5 p6 p7 p8 p9) scope cc cda dV kV doc pm ct an) ["self", fld] (spXi C fld) := by
  refine ⟨fun vs H Q E h => by obtain ⟨_, _, rfl, _⟩ := h; rfl, fun A outer s H args us vs1 Q E hr e0 hb r hsp => ?_⟩
  have KX : K.In s.heap := e0.mod.kin.keeps fun b o e => (e0.bs b o e).1
  have lim : s.heap.NoLimit := e0.mod.nolimit.keeps fun b o e => (e0.bs b o e).1
  obtain ⟨a, v, rfl, ea, q⟩ := hsp
  obtain ⟨u1, u2, rfl, ru, rv⟩ := vals2 r
  cases ru
  let F : NF := xiNF qual params (xiBody fld m jk p0 p1 p2 p3 p4 p5 p6 p7 p8 p9) scope cc cda
  have CA : CellsAt F.cl ["__class__"] [some (.ref C)] s.heap H := by
    have hl : ∀ y c, F.cl.lookup y = some c → y = "__class__" ∧ c = cc := fun y c e => by
      have e : (([("__class__", cc)] : List (Str × Addr)).lookup y) = some c := e
      rw [List.lookup_cons] at e
      split at e
      · rename_i z
        exact ⟨eq_of_beq z, (Option.some.inj e).symm⟩
      · cases e
    refine ⟨rfl, fun y c e => ?_, fun x y c e1 e2 => by rw [(hl x c e1).1, (hl y c e2).1], fun i y e => ?_⟩
    · obtain ⟨_, rfl⟩ := hl y c e
      exact ⟨(e0.bs _ _ (e0.mod.kin _ _ hcell)).2, _, _, KX _ _ hcell, rfl⟩
    · cases i with
      | zero =>
        cases e
        exact ⟨cc, by rw [List.lookup_cons, beq_self_eq_true], fun v e => by cases e; exact ⟨_, rfl, _, KX _ _ hcell, rfl⟩⟩
      | succ i => cases e
  refine ks_codeAny_call_defAt hr.depth (KX _ _ lk) rfl lim (PySem.W.codeRec_of KX hcd) rfl hb S.nocell (fun ⟨n, _⟩ hy => S.par n (List.of_mem_zip hy).1) (fun h₁ hns kp => ?_) S.co S.gen S.kind
  have I : Inv (ncx CX P w K mg base ["self", fld, "__class__"] F fI A outer s H E) [] (startF ["self", fld, "__class__"] [.ref a, v] [some (.ref C)]) H { s with heap := h₁, toks := s.toks + 2 } := inv_startN S hr.hd e0 rfl r CA hns kp
  show _root_.PySem.wpAt (model P w) (A.deeper (envF F fI s.heap.objs.size)) (.func F.body (envF F fI s.heap.objs.size)) (execs (xiBody fld m jk p0 p1 p2 p3 p4 p5 p6 p7 p8 p9) (envF F fI s.heap.objs.size)) _ _ { s with heap := h₁, toks := s.toks + 2 }
  have hint : interactive (envF F fI s.heap.objs.size) = false := by
    unfold interactive
    show (scope.kind == .module && _) = false
    rw [S.kind]; rfl
  have hsf : scope.names.lookup ("self" : Str) = some .local := S.par "self" List.mem_cons_self
  have hkc : scope.names.lookup ("__class__" : Str) = some .free := S.frk "__class__" List.mem_cons_self
  obtain ⟨cdD, hD⟩ := XC.hD
  obtain ⟨oD, hD1, hD2⟩ : ∃ oD, h₁.get? C = some oD ∧ oD.data = .cls cdD := by
    unfold PySem.W.clsIn at hD
    split at hD
    · rename_i ho
      cases hD
      exact ⟨_, kp _ _ (KX _ _ ho), rfl⟩
    · cases hD
  obtain ⟨t1, hx0⟩ := exo_at e0.hok ea
  have hx1 := kp _ _ hx0
  refine ks_wpAt_execs_cons (ks_wpAt_Expr_any (hi := hint) (ks_wpAt_MethodCall (he := he _) ?_))
  refine ks_wpAt_super_base (env := envF F fI s.heap.objs.size) hks hkc (by decide) rfl (kp _ _ (KX _ _ lk)) rfl hp rfl (kp _ _ (KX _ _ hcode)) rfl hvs hfile XC.tp ?_
  obtain ⟨mb, b1, b2⟩ := I.mod.blt
  refine PySem.W.ks_loadName_global S.kind hks (Calls.loadGlobal_builtin (env := envF F fI s.heap.objs.size) (I.mod.glob.keeps I.bk) XC.ms (b1.keeps I.bk) ((b2 _ (by decide)).trans (by decide +kernel)) ⟨rfl, ?_⟩)
  refine wpAny_loadName_free S.kind hkc (by rw [List.lookup_cons, beq_self_eq_true]) ⟨_, kp _ _ (KX _ _ hcell), rfl⟩ ?_
  rw [har]
  refine wpAny_loadName_local S.kind hsf hns (v := .ref a) ?_ ?_
  · have nd2 : (["self", fld] : List Str).Nodup := S.nd.sublist (List.take_sublist 2 (["self", fld, "__class__"] : List Str))
    exact NdefX.zip_look (i := 0) nd2 rfl rfl
  refine ks_wpAny_isType_cls hD1 hD2 ⟨rfl, ?_⟩
  refine ks_wpAny_call_super hD1 hD2 hx1 rfl (fun c z => nomatch z) (PySem.W.looks_mroIn (I.kIn) XC.sb) (fun h₂ e2 k2 => ?_)
  have I2 := I.kept (t' := s.toks + 2) k2
  have hx2 := k2 _ _ hx1
  have IA : PySem.W.InstAt h₂ a { cls := .ref C, data := .fields #[.ref t1, .none, .none, .none, .bool false, .none] } C none := ⟨hx2, rfl, rfl, trivial⟩
  have hsu := XC.su
  unfold PySem.W.ks_superIn at hsu
  rw [hD] at hsu
  refine PySem.W.kxs_getMethod PySem.W.kxs_ValueError e2 (PySem.W.looks_opaque I2.kIn XC.op) (l₀ := cdD.mro) (fun A Q E s k q => wpAny_bind ((PySem.W.looks_clsIn I2.kIn hD) A _ E s k (wpAny_pure q))) rfl I2.kIn hsu (IA.type.andThen (PySem.W.looks_subIn I2.kIn XC.ve)) (PySem.W.ks_ne I2.kIn IA hD) (by decide) ?_
  have hu3 : (h₂.push (PySem.W.kxs_mw "ValueError.__init__" a)).get? h₂.objs.size = some (PySem.W.kxs_mw "ValueError.__init__" a) := Heap.get?_push_size _ rfl
  have I3 := I2.kept (h' := h₂.push (PySem.W.kxs_mw "ValueError.__init__" a)) (t' := s.toks + 2 + 1) (fun b o e => Heap.get?_push_of_some _ e)
  generalize hG3 : h₂.push (PySem.W.kxs_mw "ValueError.__init__" a) = G3 at hu3 I3
  generalize h₂.objs.size = U at hu3
  dsimp only
  refine PySem.W.kxs_callWith (i := "ValueError.__init__") (x := a) rfl (Calls.evalArgs_plain ?_)
  show wpAny _ _ (spliced ((false, eval (.Constant (.str m) jk p3) (envF F fI s.heap.objs.size)) :: backTo p4 (starEach [] (envF F fI s.heap.objs.size)))) _ _ _
  refine Calls.spliced_cons (Calls.Constant_str (Calls.spliced_nil ⟨hu3, ?_⟩))
  have I4 := I3.tok (s.toks + 2 + 1 + 1)
  obtain ⟨nm, q0, N0, bs, bm, sn, sub, ab, col, dd, k0, k1, k2', k3, k5, hC, hbm⟩ := XC.T.cls
  have hx3 : G3.get? a = some ({ cls := .ref C, data := .fields #[.ref t1, .none, .none, .none, .bool false, .none] } : Obj) := by rw [← hG3]; exact Heap.get?_push_of_some _ hx2
  refine wpAny_call (codeAny_of_tree ?_)
  show wpAny _ _ (callAny (.ref U) ⟨[.str m _], []⟩) _ _ _
  simp only [callAny]
  refine wpAny_bind (wpAny_load hu3 ?_)
  simp only [PySem.W.kxs_mw, show (Value.type "method-wrapper" == Value.type "method" || Value.type "method-wrapper" == Value.type "builtin_function_or_method" || Value.type "method-wrapper" == Value.type "method-wrapper") = true by decide, if_true]
  refine PySem.W.KFB.if_so (by decide) ?_
  refine wpAny_bind (PySem.W.check_bound_init PySem.F.excBase_ValueError.toExcCallFacts (I4.kIn _ _ hC) hx3 rfl ?_)
  refine wpAny_bind (wpAny_pure (wpAny_pure ?_))
  refine ⟨plainId_quiet PySem.F.excBase_ValueError.init.plain _, codeAny_builtin PySem.F.excBase_ValueError.initEntry ?_⟩
  refine PySem.W.exc_init_tree (cls := .ref C) (t0 := t1) (dv := none) (c2 := .none) (c3 := .none) (b4 := .bool false) hx3 (by show 1 ≤ sizeLine; decide) fun h5 k5 hx5 ht5 => ?_
  have J := I4.write (t' := s.toks + 2 + 1 + 1) (x := a) (e := a) (o := exo a C none) (by rw [ea]; exact True.intro) (.inl rfl) k5 ⟨_, hx5⟩ (exo_ok hx5)
  have eu : upd H a (exo a C none) = H := by
    funext b
    by_cases hb : b = a
    · rw [hb, upd_same, ea]
    · rw [upd_ne hb]
  rw [eu] at J
  have hst := (pss_one (ps_ost (X := ncx CX P w K mg base ["self", fld, "__class__"] F fI A outer s H E) (f := fld) (p' := p7) (pos := p9) (pv 0 (x := "self") (pos := p6) rfl (.inl hsf)) (pv 1 (x := fld) (pos := p8) rfl (.inl (S.par fld (List.mem_cons_of_mem _ List.mem_cons_self))) hfd hfc))).run [] _ _ H { nx := fun _ H' => Q .non H', rt := Q } J
  refine wpAt_of_wpAny (wpAny_mono (hst ⟨v, rfl, .ref a, rfl, a, C, rfl, XC.T, XC.nf, .inl ⟨ea, fun dx n ne => q dx n ne⟩⟩) (fun fl s' hs => ?_) fun e s' hs => hs)
  have fin : ∀ {σ' : L2.St} {H' : Hp} {v : V} {u : Value}, Inv (ncx CX P w K mg base ["self", fld, "__class__"] F fI A outer s H E) [] σ' H' s' → L2.RelV v u → Q v H' → CE outer P w H s Q u s' :=
    fun {σ' H' v u} J rv q => ⟨v, H', J.os, J.bare, J.base, J.hok, rv, q⟩
  cases fl with
  | ret u =>
    obtain ⟨v, σ', H', J, rv, q⟩ := hs
    exact fin J rv q
  | next =>
    obtain ⟨σ', H', J, q⟩ := hs
    exact fin (v := V.non) (u := Value.none) J rfl q
  | brk =>
    obtain ⟨_, _, _, q⟩ := hs
    exact False.elim q
  | cont =>
    obtain ⟨_, _, _, q⟩ := hs
    exact False.elim q
end
/-- such a class, known under its name -/
structure Xi (P : Program) (w : World) (K : PySem.W.Frag) (mg : Str → Option Value) (base : Heap) (x : Str) (C : Addr) (fld : Str) : Prop where
  T : OexC K C
  g : mg x = some (.ref C)
  f : ∃ fI fd, PySem.W.findIn K (.ref C) "__init__" = some (some (.ref fI)) ∧ PySem.W.typeIn K (.ref fI) = some (.type "function") ∧ (∀ CX, FnOk P w K mg base CX 1 fI fd ["self", fld] (spXi C fld)) ∧ Binds K fd ["self", fld] []
section
variable {X : Cx} {x fld : Str} {C : Addr} {e : Expr} {te : TE} {p pos pos2 : Pos} {k : Nat}
def tMkI (C : Addr) (fld : Str) (te : TE) : L2.St → Hp → XK → Prop := fun σ H Q => te σ H fun v H1 => ∀ d H2, H1 d = none → Ext [] H1 H2 → H2 d = some (.xd [(fld, v)]) → Q (.ref C) (some d) H2
theorem pmk_xi (B : Xi X.prog X.w X.K X.mg X.base x C fld) (hr : Room (k + 2) X.A) (hx : Passes C8.CX0 X (fun _ _ _ => False)) (hg : Gl X x) (he : PE X e te)
    (hdb : (x == ("__debug__" : Str)) = false := by decide) (hs : starEach [e] X.env = (false, eval e X.env) :: starEach [] X.env := by rfl) (hpl : (backTo pos (starEach [] X.env)).any (·.1) = false := by rfl) :
    PMk X (.Call (.Name x p) [e] [] pos) (tMkI C fld te) := by
  obtain ⟨fI, fd, iC, tI, F1, hb⟩ := B.f
  intro pins s σ H Q I h
  refine pmk_oex (ds := []) (dvs := []) (k := 1) B.T iC tI (F1 C8.CX0) (hr.mono (by omega)) hb .nil hx hg B.g (pa_cons (PE.up he) pa_nil (hs := hs)) hdb (he := hs) (hpl := hpl) pins s σ H Q I ?_
  refine ⟨_, fun v H1 q => ?_, h⟩
  refine ⟨by show 1 ≤ 1000; decide, fun a na => ⟨a, v, rfl, upd_same, fun d nd hda => ⟨rfl, d, [(fld, v)], upd_same, ?_, ?_, ?_⟩⟩⟩
  · rw [upd_ne hda, upd_same]
  · rwa [upd_ne hda] at nd
  · have nd : H1 d = none := by rwa [upd_ne hda] at nd
    have e : upd (del (upd (upd (upd H1 a (exo a C none)) d (exd d [(fld, v)])) a (exo a C (some d))) a) d (.xd [(fld, v)]) = upd H1 d (.xd [(fld, v)]) := by
      funext b
      by_cases h1 : b = d
      · rw [h1, upd_same, upd_same]
      · rw [upd_ne h1, upd_ne h1]
        by_cases h2 : b = a
        · rw [h2, del_same, na]
        · rw [del_ne h2, upd_ne h2, upd_ne h1, upd_ne h2]
    rw [e]
    exact q d _ nd (Ext.new nd) upd_same
/-- raise C(e) -/
theorem ps_raiseI {W : WX} (B : Xi X.prog X.w X.K X.mg X.base x C fld) (hr : Room (k + 2) X.A) (hx : Passes C8.CX0 X (fun _ _ _ => False)) (tk : Takes X W) (he : PE X e te) (hc : X.calm = true := by rfl) (hg : Gl X x := by rfl)
    (hdb : (x == ("__debug__" : Str)) = false := by decide) (hs : starEach [e] X.env = (false, eval e X.env) :: starEach [] X.env := by rfl) (hpl : (backTo pos (starEach [] X.env)).any (·.1) = false := by rfl) :
    PS X (.Raise (some (.Call (.Name x p) [e] [] pos)) none pos2) (fun _ σ H => tMkI C fld te σ H fun cls d H' => W cls d σ H') := ps_raise hc tk (pmk_xi B hr hx hg he hdb hs hpl)
end
end Sq
set_option Elab.async false
set_option linter.all false
set_option maxRecDepth 100000
set_option maxHeartbeats 2000000
namespace Sq
open PySem PySem.Spec PyProof.Rows L2
/-! ### what the top has left: dicts of texts, classes of exceptions -/
/-- the entries' keys and values, if all are texts -/
def pairsOf : List DictEntry → Option (List (Str × Str))
  | [] => some []
  | e :: r => match e.key, e.val with
    | .str x _, .str y _ => (pairsOf r).map ((x, y) :: ·)
    | _, _ => none
def litB (P : Params) : List DictEntry → List Str → Prop
  | [], [] => True
  | e :: r, x :: l => (∃ t, e.key = .str x t) ∧ e.hash = PyData.keyHash P x ∧ litB P r l
  | _, _ => False
theorem lit_of {P : Params} : ∀ {es : List DictEntry} {l : List Str}, litB P es l → PySem.W.KeysLit P es
  | [], _, _ => trivial
  | e :: r, x :: l, ⟨⟨t, h1⟩, h2, h3⟩ => ⟨⟨x, t, h1, h2⟩, lit_of h3⟩
theorem find_pairs {x y : Str} : ∀ {es : List DictEntry} {L : List (Str × Str)}, pairsOf es = some L → (L.map (·.1)).Nodup → (x, y) ∈ L → ∃ e, es.find? (fun d => d.key.isStr x) = some e ∧ ∃ t, e.val = .str y t
  | [], L, h, _, hm => by simp [pairsOf] at h; subst h; cases hm
  | e :: r, L, h, nd, hm => by
    obtain ⟨hh0, k, v⟩ := e
    rw [pairsOf] at h
    dsimp only at h
    split at h
    · rename_i a t b u
      cases hr : pairsOf r with
      | none => rw [hr] at h; cases h
      | some L' =>
        rw [hr] at h
        cases h
        rw [List.map_cons, List.nodup_cons] at nd
        by_cases e : a = x
        · subst e
          have : b = y := by
            rcases List.mem_cons.mp hm with z | z
            · exact (Prod.mk.inj z).2.symm
            · exact absurd (List.mem_map.mpr ⟨_, z, rfl⟩) nd.1
          subst this
          exact ⟨{ hash := hh0, key := .str a t, val := .str b u }, by rw [List.find?_cons]; simp [Value.isStr], u, rfl⟩
        · have hm' : (x, y) ∈ L' := by
            rcases List.mem_cons.mp hm with z | z
            · exact absurd (Prod.mk.inj z).1.symm e
            · exact z
          obtain ⟨e', h1, h2⟩ := find_pairs hr nd.2 hm'
          refine ⟨e', ?_, h2⟩
          rw [List.find?_cons]
          have : (Value.str a t).isStr x = false := by simp [Value.isStr, e]
          rw [this]
          exact h1
    · cases h
theorem con_kd {R : Prop} {w : World} {K : PySem.W.Frag} {mg : Str → Option Value} {h : Heap} {aS : Addr} {o : Obj} {es : Array DictEntry} {n : Nat} (x : Str) (L : List (Str × Str)) (X : K.In h) (G : h.Ns mainGlobals mg) (a : PySem.W.nsIn K mainGlobals x = some (some (.ref aS))) (l : K.lookup aS = some o)
    (ho : o = ⟨.type "dict", none, .dict es n, #[]⟩) (hl : litB w.params es.toList (L.map (·.1))) (low : (aS == sysModules) = false) (hp : pairsOf es.toList = some L) (nd : (L.map (·.1)).Nodup) (r : mg x = some (.ref aS) → (∀ ts : List Addr, aS ∉ ts → Kd (dropT ts K) w aS L) → R) : R := by
  subst ho
  refine r (PySem.W.mg_of X G a) fun ts hts => ?_
  have l' : (dropT ts K).lookup aS = some ⟨.type "dict", none, .dict es n, #[]⟩ := by rw [dropT_out hts]; exact l
  refine ⟨⟨es, n, l', lit_of hl, low⟩, fun k s hm => ?_⟩
  obtain ⟨e, h1, t, h2⟩ := find_pairs hp nd hm
  refine ⟨e.val, ?_, t, h2⟩
  unfold PySem.W.nsIn
  rw [l']
  dsimp only
  rw [h1]
end Sq
set_option Elab.async false
set_option linter.all false
set_option maxRecDepth 100000
set_option maxHeartbeats 2000000
namespace Sq
open PySem PySem.Spec PyProof.Rows L2
/-! ### the same, where a table that stands empty is told, too -/
theorem walk_GM {l : PySem.W.OpenLaw} {q : Program} {loose : List Str} {XP : (Str → Option Value) → Heap → Prop} {d : DefRec} {K0 : PySem.Params → PySem.W.Frag} {as : List Addr} {e : ∀ P, as = (K0 P).map (·.1)} {ts ms : List Addr}
    (hn : l.most = some 63) (hdf : d.params.defaults = [])
    (F : ∀ (w : World) (mg : Str → Option Value) (fa : Addr) (h : Heap), (K0 w.params).In h → h.Ns mainGlobals mg → mg d.name = some (.ref fa) → OwnAll q mg (K0 w.params) h →
      ∃ cs : List (Addr × Addr), (∀ p ∈ cs, h.get? p.2 = some { cls := .none, data := .fields #[] }) ∧ (∀ p ∈ cs, (dropT ts (K0 w.params)).lookup p.2 = none) ∧ (∀ p ∈ cs, PySem.W.CodeHd h p.1 p.2) ∧ LawRun l w (dropT ts (K0 w.params)) mg fa cs) :
    PySem.W.WalkO q loose XP (PySem.W.kmHook K0 as e ms).says l.row.toRowW d [] (fun f vs => PySem.call f vs) := by
  refine Att.attach_callB hn hdf fun w s0 s1 mg mb fa o pm cd doc a vs ns G Y ho hd hcd hmg hobj hints hlen hbits hg => ?_
  have kin : (K0 w.params).In s1.heap := PySem.W.km_in_of Y
  obtain ⟨cs, t1, t2, t3, run⟩ := F w mg fa _ kin G.T.g hmg (own_all kin G.T.tab)
  exact law_callG (dropT_In kin) G.T.g G.T.b G.T.builtins G.T.nolimit hg t1 t2 t3 G.T.bmain hobj hints hlen run
end Sq
set_option Elab.async false
set_option linter.all false
set_option maxRecDepth 100000
set_option maxHeartbeats 2000000
namespace Sq
open PySem PySem.Spec PyProof.Rows L2 NdefX
/-! ### an own exception with a field, read off the head -/
structure XiK (K : PySem.W.Frag) (C fI : Addr) (fld : Str) : Prop where
  fi : PySem.W.findIn K (.ref C) "__init__" = some (some (.ref fI))
  ti : PySem.W.typeIn K (.ref fI) = some (.type "function")
  sa : PySem.W.findIn K (.ref C) "__setattr__" = some (some (.builtin "object.__setattr__"))
  exC : PySem.W.subIn K (.ref C) (.type "BaseException") = some true
  tyC : PySem.W.typeIn K (.ref C) = some (.type "type")
  kC : PySem.W.keepIn K (.ref C) = true
  nf : PySem.W.findIn K (.ref C) fld = some none
  sb : PySem.W.mroIn K C (.ref C) = some true
  op : PySem.W.nsIn K cStatics "thirdparty.any" = some none
  su : PySem.W.ks_superIn K C C "__init__" = some (some (.builtin "ValueError.__init__"))
  ve : PySem.W.subIn K (.ref C) (.type "ValueError") = some true
section
variable {R : Prop} {P : Program} {w : World} {K : PySem.W.Frag} {mg : Str → Option Value} {h : Heap} {C fI cc cda : Addr} {fld m qual : Str} {params : Arguments} {scope : Scope} {dV kV doc pm ct oc cl ccl : Value} {an od cld cdd : Option Addr} {osl csl ccs : Array (Option Value)}
  {jk : Nat} {p0 p1 p2 p3 p4 p5 p6 p7 p8 p9 : Pos} {vs : Array Value} {file : Str} {tf : Tok} {ar : Arg} {oC : Obj}
theorem xi_go (x : Str) (X : K.In h) (G : h.Ns mainGlobals mg) (a : PySem.W.nsIn K mainGlobals x = some (some (.ref C))) (lC : K.lookup C = some oC)
    (eC : ∃ nm q N bs bm sn sub ab col dd k0 k1 k2 k3 k5, oC = excClassObj nm q C N bs bm true sn sub ab col dd k0 k1 k2 k3 k5 "ValueError.__new__" ∧ PySem.HandSPX.refsVE bm = true)
    (f1 : PySem.W.findIn K (.ref C) "__init__" = some (some (.ref fI)))
    (lk : K.lookup fI = some ⟨oc, od, .func (xiFd qual params (xiBody fld m jk p0 p1 p2 p3 p4 p5 p6 p7 p8 p9) scope cc cda dV kV doc pm ct an), osl⟩) (hcd : PySem.W.codeIn K (.ref cda) qual = true)
    (S : nscB ["self", fld, "__class__"] ["self", fld] ["__class__"] scope = true) (hks : scope.names.lookup ("super" : Str) = some .globalImplicit) (hcell : K.lookup cc = some ⟨cl, cld, .cell (some (.ref C)), csl⟩)
    (hcode : K.lookup cda = some ⟨ccl, cdd, .fields vs, ccs⟩) (hvs : vs[2]? = some (.str file tf)) (hfile : ((P.main.file : Str) == file) = true) (hp : (params.posonlyargs ++ params.args).head? = some ar) (har : ar.arg = "self") (hfd : (fld == ("__debug__" : Str)) = false) (hfc : (fld == ("__classdict__" : Str)) = false)
    (hb : ∀ (us : List Value), us.length = 2 → bindArgs (xiFd qual params (xiBody fld m jk p0 p1 p2 p3 p4 p5 p6 p7 p8 p9) scope cc cda dV kV doc pm ct an) ⟨us, []⟩ = pure ((["self", fld] : List Str).zip us))
    {pl : Sem Bool}
    (he : ∀ L : Addr, eval (.Call (.Attribute (.Call (.Name "super" p0) [] [] p1) "__init__" p2) [.Constant (.str m) jk p3] [] p4) (envF (xiNF qual params (xiBody fld m jk p0 p1 p2 p3 p4 p5 p6 p7 p8 p9) scope cc cda) fI L) = (do
      let ov ← attributeBase (.Call (.Name "super" p0) [] [] p1) "__init__" (envF (xiNF qual params (xiBody fld m jk p0 p1 p2 p3 p4 p5 p6 p7 p8 p9) scope cc cda) fI L) (eval (.Call (.Name "super" p0) [] [] p1) (envF (xiNF qual params (xiBody fld m jk p0 p1 p2 p3 p4 p5 p6 p7 p8 p9) scope cc cda) fI L))
      standAt p2.atName
      let (f, first) ← holding [ov] (getMethod ov "__init__" pl)
      callWith p4 f first (backTo p4 (starEach [.Constant (.str m) jk p3] (envF (xiNF qual params (xiBody fld m jk p0 p1 p2 p3 p4 p5 p6 p7 p8 p9) scope cc cda) fI L))) []))
    (tp : (P.main.scope.names.lookup ("super" : Str)).isSome = false) (ms : PySem.W.nsIn K mainGlobals "super" = some none)
    (r : mg x = some (.ref C) → (∀ ts : List Addr, C ∉ ts → fI ∉ ts → cc ∉ ts → cda ∉ ts → XiK (dropT ts K) C fI fld → ∀ base, Xi P w (dropT ts K) mg base x C fld) → R) : R := by
  have gx := PySem.W.mg_of X G a
  refine r gx fun ts n1 n2 n3 n4 k base => ?_
  obtain ⟨nm, q, N, bs, bm, sn, sub, ab, col, dd, k0, k1, k2, k3, k5, rfl, vE⟩ := eC
  have lC' : (dropT ts K).lookup C = some (excClassObj nm q C N bs bm true sn sub ab col dd k0 k1 k2 k3 k5 "ValueError.__new__") := (dropT_out n1).trans lC
  have T : OexC (dropT ts K) C := ⟨⟨nm, q, N, bs, bm, sn, sub, ab, col, dd, k0, k1, k2, k3, k5, lC', vE⟩, k.sa, k.exC, k.tyC, k.kC⟩
  have XC : XiC P (dropT ts K) mg C fld := ⟨T, k.nf, PySem.W.mg_none_of X G ms, ⟨_, by unfold PySem.W.clsIn; rw [lC'] <;> rfl⟩, k.sb, k.op, k.su, k.ve, tp⟩
  have hcd' : PySem.W.codeIn (dropT ts K) (.ref cda) qual = true := by
    unfold PySem.W.codeIn at hcd ⊢
    simp only [dropT_out n4] at hcd ⊢
    exact hcd
  exact ⟨T, gx, fI, _, k.fi, k.ti, fun CX => xi_fn (k := 0) XC ((dropT_out n2).trans lk) hcd' (nscope_by S) hks ((dropT_out n3).trans hcell) ((dropT_out n4).trans hcode) hvs hfile hp har hfd hfc he, .all hb⟩
end
end Sq
set_option Elab.async false
set_option linter.all false
set_option maxRecDepth 100000
set_option maxHeartbeats 4000000
namespace Sq
open PySem PySem.Spec PyProof.Rows L2
theorem law_at {l : PySem.W.OpenLaw} {w : World} {K : PySem.W.Frag} {mg : Str → Option Value} {h : Heap} {fa t_match_in : Addr} {f_names_of f_put f_unified f_laid f_matched f_match_in f_gather f_plain_names f_principal f_mark f_guess f_new_type f_with_name f_type_of f_type_of_case f__law_dice f__law_roll f__law_rounds f__law_formula f__law_make f__law_use f__law_with f__law_closed f__law_bare f_law c_names_of c_put c_unified c_laid c_matched c_match_in c_gather c_plain_names c_principal c_mark c_guess c_new_type c_with_name c_type_of c_type_of_case c__law_dice c__law_roll c__law_rounds c__law_formula c__law_make c__law_use c__law_with c__law_closed c__law_bare c_law : Addr} {d_names_of d_put d_unified d_laid d_matched d_match_in d_gather d_plain_names d_principal d_mark d_guess d_new_type d_with_name d_type_of d_type_of_case d__law_dice d__law_roll d__law_rounds d__law_formula d__law_make d__law_use d__law_with d__law_closed d__law_bare : FuncData} {an : Option Addr} {kV dc pm ct : Value} {aJ aO aN aT : Addr} {uN : Value}
    (X : K.In h) (G : h.Ns mainGlobals mg) (hfa : mg "law" = some (.ref fa)) (B : Bl mg)
    (D_names_of : Dn K mg "names_of" s_names_of f_names_of d_names_of c_names_of)
    (D_put : Dn K mg "put" s_put f_put d_put c_put)
    (D_unified : Dn K mg "unified" s_unified f_unified d_unified c_unified)
    (D_laid : Dn K mg "laid" s_laid f_laid d_laid c_laid)
    (D_matched : Dn K mg "matched" s_matched f_matched d_matched c_matched)
    (D_match_in : Dn K mg "match_in" s_match_in f_match_in d_match_in c_match_in)
    (D_gather : Dn K mg "gather" s_gather f_gather d_gather c_gather)
    (D_plain_names : Dn K mg "plain_names" s_plain_names f_plain_names d_plain_names c_plain_names)
    (D_principal : Dn K mg "principal" s_principal f_principal d_principal c_principal)
    (D_mark : Dn K mg "mark" s_mark f_mark d_mark c_mark)
    (D_guess : Dn K mg "guess" s_guess f_guess d_guess c_guess)
    (D_new_type : Dn K mg "new_type" s_new_type f_new_type d_new_type c_new_type)
    (D_with_name : Dn K mg "with_name" s_with_name f_with_name d_with_name c_with_name)
    (D_type_of : Dn K mg "type_of" s_type_of f_type_of d_type_of c_type_of)
    (D_type_of_case : Dn K mg "type_of_case" s_type_of_case f_type_of_case d_type_of_case c_type_of_case)
    (D__law_dice : Dn K mg "_law_dice" s__law_dice f__law_dice d__law_dice c__law_dice)
    (D__law_roll : Dn K mg "_law_roll" s__law_roll f__law_roll d__law_roll c__law_roll)
    (D__law_rounds : Dn K mg "_law_rounds" s__law_rounds f__law_rounds d__law_rounds c__law_rounds)
    (D__law_formula : Dn K mg "_law_formula" s__law_formula f__law_formula d__law_formula c__law_formula)
    (D__law_make : Dn K mg "_law_make" s__law_make f__law_make d__law_make c__law_make)
    (D__law_use : Dn K mg "_law_use" s__law_use f__law_use d__law_use c__law_use)
    (D__law_with : Dn K mg "_law_with" s__law_with f__law_with d__law_with c__law_with)
    (D__law_closed : Dn K mg "_law_closed" s__law_closed f__law_closed d__law_closed c__law_closed)
    (D__law_bare : Dn K mg "_law_bare" s__law_bare f__law_bare d__law_bare c__law_bare)
    (D_law : Dn K mg "law" s_law f_law (PySem.W.fnOf "law" "law" (defArgs s_law) (defBody s_law) (defScope s_law) .none kV dc pm an (.ref c_law) ct) c_law)
    (T_match_in : PySem.W.CodeHd h c_match_in t_match_in ∧ h.get? t_match_in = some { cls := .none, data := .fields #[] })
    (J1 : mg "JOINS" = some (.ref aJ)) (J2 : WrT K aJ (joinsT.map V.str)) (N1 : mg "NAMES" = some uN) (N2 : RelV (.str namesT) uN) (O1 : mg "ONE" = some (.ref aO)) (O2 : WrT K aO ([("one" : Str)].map V.str)) (Z1 : mg "NONE" = some (.ref aN)) (Z2 : WrT K aN ([("none" : Str)].map V.str))
    (XT : Xc (dropT [t_match_in] K) mg "BadType" aT) (exT : PySem.W.exmOne (dropT [t_match_in] K) (.ref aT) (.ref aT) = some true)
    (nin : ∀ a ∈ [f_names_of, f_put, f_unified, f_laid, f_matched, f_match_in, f_gather, f_plain_names, f_principal, f_mark, f_guess, f_new_type, f_with_name, f_type_of, f_type_of_case, f__law_dice, f__law_roll, f__law_rounds, f__law_formula, f__law_make, f__law_use, f__law_with, f__law_closed, f__law_bare, f_law, c_names_of, c_put, c_unified, c_laid, c_matched, c_match_in, c_gather, c_plain_names, c_principal, c_mark, c_guess, c_new_type, c_with_name, c_type_of, c_type_of_case, c__law_dice, c__law_roll, c__law_rounds, c__law_formula, c__law_make, c__law_use, c__law_with, c__law_closed, c__law_bare, c_law, aJ, aO, aN], a ∉ ([t_match_in] : List Addr)) : ∃ cs : List (Addr × Addr), (∀ p ∈ cs, h.get? p.2 = some { cls := .none, data := .fields #[] }) ∧ (∀ p ∈ cs, (dropT [t_match_in] K).lookup p.2 = none) ∧ (∀ p ∈ cs, PySem.W.CodeHd h p.1 p.2) ∧ LawRun l w (dropT [t_match_in] K) mg fa cs := by
  have e := hfa.symm.trans D_law.mgf
  cases e
  have GJ : Gc (dropT [t_match_in] K) mg aJ uN := ⟨J1, J2.drop (nin aJ (by simp)), N1, N2⟩
  have GO : Go (dropT [t_match_in] K) w mg aJ aO aN aO uN := ⟨J1, J2.drop (nin aJ (by simp)), N1, N2, O1, O2.drop (nin aO (by simp)), Z1, Z2.drop (nin aN (by simp))⟩
  replace D_names_of := D_names_of.drop (nin f_names_of (by simp)) (nin c_names_of (by simp))
  replace D_put := D_put.drop (nin f_put (by simp)) (nin c_put (by simp))
  replace D_unified := D_unified.drop (nin f_unified (by simp)) (nin c_unified (by simp))
  replace D_laid := D_laid.drop (nin f_laid (by simp)) (nin c_laid (by simp))
  replace D_matched := D_matched.drop (nin f_matched (by simp)) (nin c_matched (by simp))
  replace D_match_in := D_match_in.drop (nin f_match_in (by simp)) (nin c_match_in (by simp))
  replace D_gather := D_gather.drop (nin f_gather (by simp)) (nin c_gather (by simp))
  replace D_plain_names := D_plain_names.drop (nin f_plain_names (by simp)) (nin c_plain_names (by simp))
  replace D_principal := D_principal.drop (nin f_principal (by simp)) (nin c_principal (by simp))
  replace D_mark := D_mark.drop (nin f_mark (by simp)) (nin c_mark (by simp))
  replace D_guess := D_guess.drop (nin f_guess (by simp)) (nin c_guess (by simp))
  replace D_new_type := D_new_type.drop (nin f_new_type (by simp)) (nin c_new_type (by simp))
  replace D_with_name := D_with_name.drop (nin f_with_name (by simp)) (nin c_with_name (by simp))
  replace D_type_of := D_type_of.drop (nin f_type_of (by simp)) (nin c_type_of (by simp))
  replace D_type_of_case := D_type_of_case.drop (nin f_type_of_case (by simp)) (nin c_type_of_case (by simp))
  replace D__law_dice := D__law_dice.drop (nin f__law_dice (by simp)) (nin c__law_dice (by simp))
  replace D__law_roll := D__law_roll.drop (nin f__law_roll (by simp)) (nin c__law_roll (by simp))
  replace D__law_rounds := D__law_rounds.drop (nin f__law_rounds (by simp)) (nin c__law_rounds (by simp))
  replace D__law_formula := D__law_formula.drop (nin f__law_formula (by simp)) (nin c__law_formula (by simp))
  replace D__law_make := D__law_make.drop (nin f__law_make (by simp)) (nin c__law_make (by simp))
  replace D__law_use := D__law_use.drop (nin f__law_use (by simp)) (nin c__law_use (by simp))
  replace D__law_with := D__law_with.drop (nin f__law_with (by simp)) (nin c__law_with (by simp))
  replace D__law_closed := D__law_closed.drop (nin f__law_closed (by simp)) (nin c__law_closed (by simp))
  replace D__law_bare := D__law_bare.drop (nin f__law_bare (by simp)) (nin c__law_bare (by simp))
  replace D_law := D_law.drop (nin fa (by simp)) (nin c_law (by simp))
  refine ⟨[(c_match_in, t_match_in)], fun p hp => ?_, fun p hp => ?_, fun p hp => ?_, fun base s H a ns KX hG hT en hH hS hl => ?_⟩
  · skip
    have e := List.mem_singleton.mp hp
    subst e; exact T_match_in.2
  · skip
    have e := List.mem_singleton.mp hp
    subst e; exact dropT_in (by simp)
  · skip
    have e := List.mem_singleton.mp hp
    subst e; exact T_match_in.1
  have B_match_in := tabB_of (hT (c_match_in, t_match_in) (by simp))
  have H_match_in : GxR.TabG H t_match_in := ⟨#[], hH (c_match_in, t_match_in) (by simp), trivial⟩
  have g_dice := ok_dice (P := l.prog) (w := w) (base := base) D__law_dice B
  have g_roll := ok_roll (P := l.prog) (w := w) (base := base) D__law_roll B
  have g_rounds := ok_rounds (P := l.prog) (w := w) (base := base) (most := 3) (by decide) D__law_rounds B g_dice
  have g_formula := ok_formula (P := l.prog) (w := w) (base := base) D__law_formula B g_roll
  have g_with := ok_with (P := l.prog) (w := w) (base := base) D__law_with B
  have g_mu := ok_mu (P := l.prog) (w := w) (base := base) (NS := ABC) D__law_make D__law_use B abc_ok (fun x h => h) g_roll g_with
  have g_closed := ok_closed (P := l.prog) (w := w) (base := base) D__law_closed B (g_mu 11).1 (g_formula 4)
  have g_wn := ok_wname (P := l.prog) (w := w) (base := base) D_with_name B
  have x_ty := (ok_ty (P := l.prog) (w := w) (base := base) D_type_of D_type_of_case B GO XT g_wn 60).1
  have g_ty := tyC x_ty
  have g_bare := ok_bare (P := l.prog) (w := w) (base := base) D__law_bare B
  have g_names := ok_names (P := l.prog) (w := w) (base := base) (NS := LET) D_names_of B let_ok
  have g_laid := ok_laid (P := l.prog) (w := w) (base := base) D_laid B GJ
  have g_put := ok_put (P := l.prog) (w := w) (base := base) (NS := LET) D_put B let_ok GJ
  have g_uni := ok_unified (P := l.prog) (w := w) (base := base) (NS := LET) D_unified B GJ let_ok (g_names 64) (g_laid 64) (g_put 64)
  have g_mtin := ok_mtin (P := l.prog) (w := w) (base := base) (NS := LET) D_match_in B let_ok B_match_in
  have g_matched := ok_matched (P := l.prog) (w := w) (base := base) D_matched B (g_mtin 60)
  have g_gather := ok_gather (P := l.prog) (w := w) (base := base) (NS := LET) D_gather B let_ok GJ
  have g_plain := ok_plain (P := l.prog) (w := w) (base := base) D_plain_names B GJ (g_gather 60) (g_laid 60)
  have x_mark := ok_mark (P := l.prog) (w := w) (base := base) D_mark B XT
  have x_new := ok_new (P := l.prog) (w := w) (base := base) D_new_type B x_mark
  have x_gs := ok_gs (P := l.prog) (w := w) (base := base) D_guess B XT x_new g_wn 60
  have g_pr := ok_prin (P := l.prog) (w := w) (base := base) D_principal B XT exT (mark0 x_mark) x_gs g_uni (g_laid 64)
  exact law_runs (tb := t_match_in) D_law (fun s v => .of_eq rfl) B g_rounds g_closed (g_bare 60) g_pr g_matched g_plain g_ty en hS H_match_in
end Sq
set_option Elab.async false
set_option linter.all false
open PySem PySem.W PyProof.Rows
set_option maxRecDepth 100000 in
set_option maxHeartbeats 0 in
theorem PySem.Challenge.cw_sequenthall_k08_most_general_types_holds : PySem.Challenge.rw_sequenthall_k08_most_general_types.Holds := by
  w_on; o_law; k_head; (case hw => w_witness2)
  k_fill
  refine' Sq.walk_G (l := PySem.Challenge.rw_sequenthall_k08_most_general_types) rfl rfl ?F
  case F =>
    intro w mg fa h KX G hmg KO
    refine' Sq.dn_go "names_of" Sq.s_names_of KX G ?a ?l ?c ?k ?_
    (case a => k_is); (case l => k_is); (case c => k_is); (case k => k_is)
    intro D_names_of
    refine' Sq.dn_go "put" Sq.s_put KX G ?a ?l ?c ?k ?_
    (case a => k_is); (case l => k_is); (case c => k_is); (case k => k_is)
    intro D_put
    refine' Sq.dn_go "unified" Sq.s_unified KX G ?a ?l ?c ?k ?_
    (case a => k_is); (case l => k_is); (case c => k_is); (case k => k_is)
    intro D_unified
    refine' Sq.dn_go "laid" Sq.s_laid KX G ?a ?l ?c ?k ?_
    (case a => k_is); (case l => k_is); (case c => k_is); (case k => k_is)
    intro D_laid
    refine' Sq.dn_go "matched" Sq.s_matched KX G ?a ?l ?c ?k ?_
    (case a => k_is); (case l => k_is); (case c => k_is); (case k => k_is)
    intro D_matched
    refine' Sq.dn_goT "match_in" Sq.s_match_in KX G ?a ?l ?c ?k ?lc ?t ?u KO ?rc ?_
    (case a => k_is); (case l => k_is); (case c => k_is); (case k => k_is); (case lc => k_is); (case t => rfl); (case u => decide +kernel); (case rc => decide +kernel)
    intro D_match_in T_match_in
    refine' Sq.dn_go "gather" Sq.s_gather KX G ?a ?l ?c ?k ?_
    (case a => k_is); (case l => k_is); (case c => k_is); (case k => k_is)
    intro D_gather
    refine' Sq.dn_go "plain_names" Sq.s_plain_names KX G ?a ?l ?c ?k ?_
    (case a => k_is); (case l => k_is); (case c => k_is); (case k => k_is)
    intro D_plain_names
    refine' Sq.dn_go "principal" Sq.s_principal KX G ?a ?l ?c ?k ?_
    (case a => k_is); (case l => k_is); (case c => k_is); (case k => k_is)
    intro D_principal
    refine' Sq.dn_go "mark" Sq.s_mark KX G ?a ?l ?c ?k ?_
    (case a => k_is); (case l => k_is); (case c => k_is); (case k => k_is)
    intro D_mark
    refine' Sq.dn_go "guess" Sq.s_guess KX G ?a ?l ?c ?k ?_
    (case a => k_is); (case l => k_is); (case c => k_is); (case k => k_is)
    intro D_guess
    refine' Sq.dn_go "new_type" Sq.s_new_type KX G ?a ?l ?c ?k ?_
    (case a => k_is); (case l => k_is); (case c => k_is); (case k => k_is)
    intro D_new_type
    refine' Sq.dn_go "with_name" Sq.s_with_name KX G ?a ?l ?c ?k ?_
    (case a => k_is); (case l => k_is); (case c => k_is); (case k => k_is)
    intro D_with_name
    refine' Sq.dn_go "type_of" Sq.s_type_of KX G ?a ?l ?c ?k ?_
    (case a => k_is); (case l => k_is); (case c => k_is); (case k => k_is)
    intro D_type_of
    refine' Sq.dn_go "type_of_case" Sq.s_type_of_case KX G ?a ?l ?c ?k ?_
    (case a => k_is); (case l => k_is); (case c => k_is); (case k => k_is)
    intro D_type_of_case
    refine' Sq.dn_go "_law_dice" Sq.s__law_dice KX G ?a ?l ?c ?k ?_
    (case a => k_is); (case l => k_is); (case c => k_is); (case k => k_is)
    intro D__law_dice
    refine' Sq.dn_go "_law_roll" Sq.s__law_roll KX G ?a ?l ?c ?k ?_
    (case a => k_is); (case l => k_is); (case c => k_is); (case k => k_is)
    intro D__law_roll
    refine' Sq.dn_go "_law_rounds" Sq.s__law_rounds KX G ?a ?l ?c ?k ?_
    (case a => k_is); (case l => k_is); (case c => k_is); (case k => k_is)
    intro D__law_rounds
    refine' Sq.dn_go "_law_formula" Sq.s__law_formula KX G ?a ?l ?c ?k ?_
    (case a => k_is); (case l => k_is); (case c => k_is); (case k => k_is)
    intro D__law_formula
    refine' Sq.dn_go "_law_make" Sq.s__law_make KX G ?a ?l ?c ?k ?_
    (case a => k_is); (case l => k_is); (case c => k_is); (case k => k_is)
    intro D__law_make
    refine' Sq.dn_go "_law_use" Sq.s__law_use KX G ?a ?l ?c ?k ?_
    (case a => k_is); (case l => k_is); (case c => k_is); (case k => k_is)
    intro D__law_use
    refine' Sq.dn_go "_law_with" Sq.s__law_with KX G ?a ?l ?c ?k ?_
    (case a => k_is); (case l => k_is); (case c => k_is); (case k => k_is)
    intro D__law_with
    refine' Sq.dn_go "_law_closed" Sq.s__law_closed KX G ?a ?l ?c ?k ?_
    (case a => k_is); (case l => k_is); (case c => k_is); (case k => k_is)
    intro D__law_closed
    refine' Sq.dn_go "_law_bare" Sq.s__law_bare KX G ?a ?l ?c ?k ?_
    (case a => k_is); (case l => k_is); (case c => k_is); (case k => k_is)
    intro D__law_bare
    refine' Sq.dn_go "law" Sq.s_law KX G ?a ?l ?c ?k ?_
    (case a => k_is); (case l => k_is); (case c => k_is); (case k => k_is)
    intro D_law
    refine' Sq.con_tup "JOINS" Sq.joinsT KX G ?a ?l ?jc ?jd ?jz ?jv ?_
    (case a => k_is); (case l => k_is); (case jc => rfl); (case jd => rfl); (case jz => decide +kernel); (case jv => rfl)
    intro J1 J2
    refine' Sq.con_str "NAMES" Sq.namesT KX G ?a ?ju ?_
    (case a => k_is); (case ju => rfl)
    intro N1 N2
    refine' Sq.con_tup "ONE" [Str.ofString "one"] KX G ?a ?l ?jc ?jd ?jz ?jv ?_
    (case a => k_is); (case l => k_is); (case jc => rfl); (case jd => rfl); (case jz => decide +kernel); (case jv => rfl)
    intro O1 O2
    refine' Sq.con_tup "NONE" [Str.ofString "none"] KX G ?a ?l ?jc ?jd ?jz ?jv ?_
    (case a => k_is); (case l => k_is); (case jc => rfl); (case jd => rfl); (case jz => decide +kernel); (case jv => rfl)
    intro Z1 Z2
    have B : Sq.Bl mg := by
      refine' ⟨PySem.W.mg_none_of KX G ?b_len, PySem.W.mg_none_of KX G ?b_abs, PySem.W.mg_none_of KX G ?b_int, PySem.W.mg_none_of KX G ?b_str, PySem.W.mg_none_of KX G ?b_tuple, PySem.W.mg_none_of KX G ?b_list, PySem.W.mg_none_of KX G ?b_dict, PySem.W.mg_none_of KX G ?b_sorted, PySem.W.mg_none_of KX G ?b_sum, PySem.W.mg_none_of KX G ?b_any, PySem.W.mg_none_of KX G ?b_all, PySem.W.mg_none_of KX G ?b_max, PySem.W.mg_none_of KX G ?b_min, PySem.W.mg_none_of KX G ?b_range, PySem.W.mg_none_of KX G ?b_zip, PySem.W.mg_none_of KX G ?b_enumerate, PySem.W.mg_none_of KX G ?b_reversed, PySem.W.mg_none_of KX G ?b_isinstance⟩
      (case b_len => k_is)
      (case b_abs => k_is)
      (case b_int => k_is)
      (case b_str => k_is)
      (case b_tuple => k_is)
      (case b_list => k_is)
      (case b_dict => k_is)
      (case b_sorted => k_is)
      (case b_sum => k_is)
      (case b_any => k_is)
      (case b_all => k_is)
      (case b_max => k_is)
      (case b_min => k_is)
      (case b_range => k_is)
      (case b_zip => k_is)
      (case b_enumerate => k_is)
      (case b_reversed => k_is)
      (case b_isinstance => k_is)
    refine' Sq.law_at KX G hmg B D_names_of D_put D_unified D_laid D_matched D_match_in D_gather D_plain_names D_principal D_mark D_guess D_new_type D_with_name D_type_of D_type_of_case D__law_dice D__law_roll D__law_rounds D__law_formula D__law_make D__law_use D__law_with D__law_closed D__law_bare D_law T_match_in J1 J2 N1 N2 O1 O2 Z1 Z2 ⟨PySem.W.mg_of KX G ?b1, ?b2, ?b3, ?b4, ?b5⟩ ?r5 (by decide)
    (case b1 => k_is)
    (case b2 => kernel_rfl)
    (case b3 => kernel_rfl)
    (case b4 => kernel_rfl)
    (case b5 => kernel_rfl)
    (case r5 => kernel_rfl)
