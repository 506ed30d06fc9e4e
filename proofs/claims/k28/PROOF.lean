import PyProof.Rows.All
import Wide.All
import OpenK.AllK
import Wide.FinOn
import HandS.ForMost
import HandS.AnyAll
import HandS.GenOver
import HandS.Codes
import HandS.EndTab
import HandS.TupAny
import HandS.Zip
import HandS.DictComp
import HandS.Deep
import HandS.More
import HandS.Walk
import KE.KDictZip
import HandS.GenList
import PyProof.EnumMake
import PyProof.Draws
import PyProof.P3In
import HandS.Style
import HandS.IsInst
import HandS.FStr
import PyProof.ReprRoads
import PyProof.StrLawsIn
import KE.KNestM
import HandS.EndOwn
import PySem.Challenge.RW_sequenthall_k28_trees_made_one
set_option Elab.async false
set_option linter.all false
set_option maxRecDepth 100000
set_option maxHeartbeats 2000000
/-! Generator expressions with any element (calls, new objects), consumed by all, any, sum. -/
namespace Sq
open PySem PySem.Spec PyProof.Rows L2
open Sem (wp)

theorem ad_no {a b : Nat} (h : a < b) (e : a = b + 1) : False := by omega
theorem ad_lt {a b c d : Nat} (h1 : a < b) (h2 : c = b + 1) (h3 : d = c + 1) : a < d := by omega
theorem ad_ne {a b : Nat} (e : a = b + 1) : a ≠ b := by omega
theorem ad_le {b c d : Nat} (h2 : c = b + 1) (h3 : d = c + 1) : b ≤ d := by omega
theorem ad_lt' {b c d : Nat} (h2 : c = b + 1) (h3 : d = c + 1) : b < d := by omega
theorem ad_ge {a b : Nat} (e : a = b + 1) : b ≤ a := by omega
/-- the frame of a generator expression -/
abbrev gEnv (X : Cx) (scope : Scope) (C : Addr) (code : Value) : Env := genEnv scope (cloFrom X.env.cells scope.names []) C code builtinsNs X.env
/-- the context of a generator expression's turns, made at s -/
abbrev gCx (X : Cx) (s : Shared) (H : Hp) (cenv : Env) (fp : List Addr) : Cx :=
  { X with A := X.A.in1.in1.deeper cenv, s_0 := s, H_0 := H, env := cenv, outer := X.stack, stack := cenv :: X.stack, ex := fp, fn := fun _ => false, pn := [], xe := fun _ _ => False }

section
variable {X : Cx} {pins : List (Addr × Obj)} {σ : L2.St} {H : Hp} {s : Shared}
theorem gen_start {scope : Scope} {own : List (Str × Nat)} {fp : List Addr} {h' : Heap} {g' : Array GenState} {tk : Nat} {code : Value} {m : Str → Option Value} (I : Inv X pins σ H s) (ok : BlkOk X.N X.env.scope scope own) (hcell : ∀ y ∈ scope.names, y.2 ≠ .cell) (hN : X.N.Nodup)
    (hc : X.calm = true) (hfp : ∀ b ∈ fp, FpOk X pins H b ∧ b < s.heap.objs.size) (hns : h'.Ns s.heap.objs.size m) (kp : ∀ b o, s.heap.get? b = some o → h'.get? b = some o) (hg : AllBare g') :
    Inv (gCx X s H (gEnv X scope s.heap.objs.size code) fp) [] (wipe σ (own.map (·.2))) H { s with heap := h', gens := g', toks := tk } := by
  have hfree : ∀ y ∈ scope.names, y.2 = .free → ∃ c, X.env.cells.lookup y.1 = some c := fun y hy e => by
    rcases ok.free y hy e with k | k
    · exact I.ok.has _ (.inl k)
    · exact I.ok.has _ (.inr k)
  have cm : ∀ {y c}, (cloFrom X.env.cells scope.names []).lookup y = some c → X.env.cells.lookup y = some c ∧ c < s.heap.objs.size := fun {y c} e => by
    rcases cloFrom_mem (PySem.mem_of_lookup e) with hm | ⟨h1, h2⟩
    · cases hm
    · obtain ⟨c1, hc⟩ := hfree _ h1 rfl
      have hc : X.env.cells.lookup y = some c1 := hc
      have e2 : c = c1 := by
        rw [h2, hc] <;> rfl
      rw [e2]
      obtain ⟨w, z⟩ := I.cell _ _ hc
      exact ⟨hc, z.lt⟩
  have look : ∀ {y}, scope.names.lookup y = some .free → ∃ c, (cloFrom X.env.cells scope.names []).lookup y = some c := fun {y} hl => by
    have hy : (y, NameKind.free) ∈ scope.names := PySem.mem_of_lookup hl
    exact mem_lookup (cloFrom_has (cells := X.env.cells) (acc := []) hy)
  refine ⟨⟨I.ok.mod, ok.kind, I.ok.glob, rfl, Nat.le_refl _, fun y z c e1 e2 => I.ok.inj y z c (cm e1).1 (cm e2).1, fun y hy => ?_, fun y c z _ => ?_, fun _ => I.ok.hd hc, ?_, .inr ⟨rfl, rfl⟩, fun b hb => ⟨Nat.ne_of_lt (hfp b hb).2, fun y c e => (hfp b hb).1.2.2.2.2.1 y c (cm e).1⟩, I.bs, Nat.le_trans I.ok.bsz I.sz,
      fun b o e hb => ?_, fun b hb z => ?_, I.stack, I.stkFree⟩,
    rfl, hg, Un.kept kp, ⟨_, hns, fun i y v e1 e2 e3 => ?_⟩, fun y c e => ?_, I.hok.fresh (Nat.le_refl _), fun y c e => I.freeC y c (cm e).1, fun q hq => absurd (show q ∈ ([] : List (Addr × Obj)) ++ [] from hq) (by simp), I.hok.kept kp, by rw [wipe_length]; exact I.len⟩
  · have hy : scope.names.lookup y = some .cell ∨ scope.names.lookup y = some .free := hy
    rcases hy with hy | hy
    · exact absurd rfl (hcell _ (PySem.mem_of_lookup hy))
    · exact look hy
  · have z : false = true := z
    cases z
  · exact Around.frames_deeper (A := X.A.in1.in1) I.ok.frames
  · rcases (hfp b hb).1.2.2.2.1 with z | z
    · exact I.ok.noex b o e z
    · exact absurd (Nat.lt_of_lt_of_le (Heap.lt_size e) (Nat.le_trans I.ok.bsz z)) (Nat.lt_irrefl _)
  · rcases List.mem_cons.mp (I.stkSub b z) with z | z
    · exact (hfp b hb).1.2.1 z
    · exact (hfp b hb).1.2.2.1 z
  · obtain ⟨e2, hne⟩ := wipe_some e2
    have e3 : Vis scope y := e3
    have hfr : scope.names.lookup y = some .free := by
      rcases e3 with k | k | k
      · rcases ok.own _ (PySem.mem_of_lookup k) (.inl rfl) with e' | e'
        · obtain ⟨p, hp, hpy⟩ := List.mem_map.mp e'
          have e3 := ok.ix p hp
          have : p.1 = y := hpy
          rw [this] at e3
          exact absurd (List.mem_map.mpr ⟨p, hp, nodup_ix hN e3 e1⟩) hne
        · exact absurd (List.mem_of_getElem? e1) e'
      · exact absurd rfl (hcell _ (PySem.mem_of_lookup k))
      · exact k
    obtain ⟨m, hn, hl⟩ := I.loc
    have hvis : Vis X.env.scope y := (ok.free _ (PySem.mem_of_lookup hfr) rfl).elim (fun k => .inr (.inl k)) (fun k => .inr (.inr k))
    obtain ⟨w, r, q⟩ := hl i y v e1 e2 hvis
    obtain ⟨c, h1⟩ := look hfr
    refine ⟨w, r, .inr ⟨.inr hfr, c, h1, ?_⟩⟩
    have h2 := (cm h1).1
    rcases q with ⟨k, _⟩ | ⟨_, c', e', z⟩
    · have k : X.env.scope.names.lookup y = some .local := k
      rcases ok.free _ (PySem.mem_of_lookup hfr) rfl with k' | k' <;> rw [show X.env.scope.names.lookup y = _ from k'] at k <;> cases k
    · rw [h2] at e'; cases e'
      exact z.keeps kp
  · obtain ⟨w, z⟩ := I.cell y c (cm e).1
    exact ⟨w, z.keeps kp⟩
end

/-! ### a generator's turns -/
section
variable {τ : Type}
/-- what the turns are told: W by the turn, a measure, the consumer's word; N what a turn is to reach; Cons: what the consumer makes of a value; Fin: behind the last -/
def GW (J : It) (g : TG) (tt : TT) (te : TE) (vs : List Nat) (σ : L2.St) (W : Nat → Nat → τ → Hp → Prop) (Cons : τ → V → Hp → (τ → Hp → Prop) → Prop) (Fin : τ → Hp → Prop) : Prop :=
  ∀ i m t H, W i m t H → (J.stop i H ∧ Fin t H) ∨ (J.go i H ∧ ∃ N : τ → Hp → Prop, (∀ t' H', N t' H' → ∃ m', m' < m ∧ W (i + 1) m' t' H') ∧ ∀ x H', J.yld i H x H' → g x (wipe σ vs) H' fun σ2 H2 =>
    wipe σ2 vs = wipe σ vs ∧ tt σ2 H2 fun b H3 => if b = true then te σ2 H3 fun y H4 => Cons t y H4 N else N t H3)
/-- the objects at S stand, pinned -/
def PinS (S : List Addr) (h : Heap) (pl : List (Addr × Obj)) : Prop := ∀ b ∈ S, ∃ o, h.get? b = some o ∧ (b, o) ∈ pl
/-- woken again: what the generator leans on stands -/
def Wake (X : Cx) (S fp : List Addr) (σw : L2.St) (H : Hp) (s s' : Shared) : Prop := (∃ pl, Inv X pl σw H s' ∧ PinS S s'.heap pl) ∧ ∀ b ∈ fp, ∀ o, s.heap.get? b = some o → s'.heap.get? b = some o
def gY (X : Cx) (S fp : List Addr) (TQ : τ → Shared → Prop) (σw : L2.St) (Cons : τ → V → Hp → (τ → Hp → Prop) → Prop) : Protocol := fun n s₀ v s kap =>
  ∃ (t : τ) (N : τ → Hp → Prop) (x : V) (H : Hp), RelV x v ∧ TQ t s₀ ∧ Cons t x H N ∧ (∃ pl, Inv X pl σw H s ∧ PinS S s₀.heap pl) ∧ ∀ t' s'', Wake X S fp σw H s s'' → TQ t' s'' → N t' H → kap (.send .none) s''
def gR (X : Cx) (S : List Addr) (TQ : τ → Shared → Prop) (σw : L2.St) (Fin : τ → Hp → Prop) : GenEnd := fun n s₀ r s => r = .ok .next ∧ ∃ (t : τ) (H : Hp), TQ t s₀ ∧ Fin t H ∧ ∃ pl, Inv X pl σw H s ∧ PinS S s₀.heap pl

theorem over_gen {A : Around} {elt tg iter : Expr} {ifs : List Expr} {scope : Scope} {pos : Pos} {it acc : Value} {env : Env} : A.over (.compLoop (.GeneratorExp elt [⟨tg, iter, ifs, 0⟩] scope pos) 0 it acc env) [] = A.deeper env := by
  first
    | rfl
    | (obtain ⟨hd, d, fr, gs, u⟩ := A; simp [Around.over, Around.deeper, marksOver, frameCount, unitsOf, envsOf, guardsOf, pushEnvs, pushGuards, Code.envs, Code.env?, Code.isFrame, Code.guards, Code.isGuard, Code.weight, Code.frames, Code.isCreation, Code.isCaller, Code.cUnits])
theorem over_genS {A : Around} {elt tg iter : Expr} {ifs : List Expr} {scope : Scope} {pos : Pos} {it acc : Value} {env : Env} : A.over (.compStart (.GeneratorExp elt [⟨tg, iter, ifs, 0⟩] scope pos) 0 it acc env) [] = A.deeper env := by
  first
    | rfl
    | (obtain ⟨hd, d, fr, gs, u⟩ := A; simp [Around.over, Around.deeper, marksOver, frameCount, unitsOf, envsOf, guardsOf, pushEnvs, pushGuards, Code.envs, Code.env?, Code.isFrame, Code.guards, Code.isGuard, Code.weight, Code.frames, Code.isCreation, Code.isCaller, Code.cUnits])

theorem seg_gloop {X : Cx} {A : Around} {elt tg iter : Expr} {ifs : List Expr} {scope : Scope} {pos : Pos} {g : TG} {tt : TT} {te : TE} {vs : List Nat} {σ : L2.St} {J : It} {fp S : List Addr} {it : Addr} {tn : Nat → Heap → Prop} {TQ : τ → Shared → Prop}
    {W : Nat → Nat → τ → Hp → Prop} {Cons : τ → V → Hp → (τ → Hp → Prop) → Prop} {Fin : τ → Hp → Prop}
    (hA : A.deeper X.env = X.A) (hc : X.calm = true) (hco : X.env.scope.isCoroutine = false) (hpn : X.pn = []) (hxe : X.xe = fun _ _ => False) (hex : X.ex = fp) (T : Turn X.prog X.w X.K tg J fp it tn) (pg : PG X tg g) (pt : PTs X ifs tt) (pe : PE X elt te)
    (turn : GW J g tt te vs σ W Cons Fin) (hSf : ∀ b ∈ S, b ∉ fp) :
    ∀ (m n i : Nat) (t : τ) (pl : List (Addr × Obj)) (H : Hp) (s₀ s : Shared), m < n → W i m t H → Inv X pl (wipe σ vs) H s → tn i s.heap → (∀ b ∈ fp, H b = none) → PinS S s₀.heap pl → (∀ p ∈ pl, p.1 ∉ fp) → TQ t s₀ →
      Seg (model X.prog X.w) A (gR X S TQ (wipe σ vs) Fin) (gY X S fp TQ (wipe σ vs) Cons) n s₀
        (.compLoop (.GeneratorExp elt [⟨tg, iter, ifs, 0⟩] scope pos) 0 (.ref it) .none X.env)
        ((model X.prog X.w).den (.compLoop (.GeneratorExp elt [⟨tg, iter, ifs, 0⟩] scope pos) 0 (.ref it) .none X.env)) [] s := by
  intro m
  induction m using Nat.strongRecOn with
  | ind m ih =>
    intro n i t pl H s₀ s hmn w I st nfp hS hpl tq
    have stat : ∀ {σ' : L2.St} {H' : Hp} {s' : Shared}, Inv X pl σ' H' s' → (∀ b ∈ fp, H' b = none) → ∀ b ∈ fp, FpOk X pl H' b := fun {σ' H' s'} I' hn b hb =>
      ⟨hn b hb, (I'.ok.exf b (by rw [hex]; exact hb)).1, I'.ok.exfs b (by rw [hex]; exact hb), .inl (by rw [hex]; exact hb), fun x c e => (I'.ok.exf b (by rw [hex]; exact hb)).2 x c e, fun p hp => fun e => hpl p (by rw [hpn] at hp; simpa using hp) (by rw [e]; exact hb)⟩
    show Seg _ A _ _ _ s₀ _ ((compTurn (.GeneratorExp elt [⟨tg, iter, ifs, 0⟩] scope pos) 0 (.ref it) .none X.env).onRaise (leaving X.env)) [] s
    rw [compTurn_gen, Sem.onRaise_eq_wrap]
    refine seg_bind_wrap (wpAny_standAt ?_)
    rcases turn i m t H w with ⟨stop, fin⟩ | ⟨go, N, hN, step⟩
    · refine seg_bind_wrap ?_
      rw [over_gen, hA]
      refine thnF (T.done X rfl rfl rfl hc i pl s _ H (fun _ _ => False) I (stat I nfp) st stop) fun r s1 ⟨hr, I1⟩ => ?_
      subst hr
      exact seg_end (.ok .next) ⟨rfl, t, H, tq, fin, pl, I1, hS⟩
    · refine seg_bind_wrap ?_
      rw [over_gen, hA]
      refine thnF (T.item X rfl rfl rfl hc i pl s _ H (fun _ _ => False) I (stat I nfp) st go) fun r s6 ⟨u, hr, h6⟩ => ?_
      subst hr
      refine seg_bind_wrap ?_
      rw [over_gen, hA]
      refine thnF h6 fun _ s7 ⟨x, H7, I7, r7, y7, st7, n7⟩ => ?_
      have I7' := I7.pinned (stat I7 n7) (T.obj _ _ st7)
      have E0 : ∀ {α : Type} {t : Sem α} {Q Q' : α → Shared → Prop} {E : Value → Shared → Prop} {s : Shared}, wpAny (model X.prog X.w) X.A t Q X.xe s → (∀ a s, Q a s → Q' a s) → wpAny (model X.prog X.w) X.A t Q' E s := fun {α t Q Q' E s} h hQ => by
        rw [hxe] at h
        exact thnF h hQ
      refine seg_bind_wrap ?_
      rw [over_gen, hA]
      refine E0 (pg.run _ s7 _ H7 x u _ I7' r7 (step x H7 y7)) fun _ s8 ⟨σ8, H8, I8, hw8, q8⟩ => ?_
      refine seg_bind_wrap ?_
      rw [over_gen, hA]
      refine E0 (pt.run _ s8 σ8 H8 _ I8 q8) fun b s9 ⟨H9, I9, q9⟩ => ?_
      -- the turn's end
      have fin : ∀ {s' : Shared} {H' : Hp}, Inv X (pl ++ pinsAt fp s7.heap) σ8 H' s' → Inv X pl (wipe σ vs) H' s' ∧ tn (i + 1) s'.heap ∧ (∀ b ∈ fp, H' b = none) := fun {s' H'} I' => by
        have pin' : ∀ b ∈ fp, ∀ o, s7.heap.get? b = some o → s'.heap.get? b = some o ∧ H' b = none := fun b hb o e =>
          let z := I'.pin (b, o) (List.mem_append_right _ (List.mem_append_right _ (mem_pinsAt hb e)))
          ⟨z.1, z.2.1⟩
        have hl : (wipe σ vs).length = σ8.length := by rw [← hw8, wipe_length]
        refine ⟨I'.unpinned.weak hl (fun j v e => ?_), T.keep _ _ _ st7 fun b hb o e => (pin' b hb o e).1, fun b hb => ?_⟩
        · rw [← hw8] at e
          exact (wipe_some e).1
        · obtain ⟨o, e, _⟩ := T.obj _ _ st7 b hb
          exact (pin' b hb o e).2
      cases b with
      | false =>
        simp only [Bool.false_eq_true, if_false] at q9 ⊢
        obtain ⟨m', hm', w'⟩ := hN _ _ q9
        obtain ⟨J1, J2, J3⟩ := fin I9
        exact seg_again rfl (ih m' hm' n (i + 1) t pl H9 s₀ s9 (Nat.lt_trans hm' hmn) w' J1 J2 J3 hS hpl tq)
      | true =>
        simp only [if_true] at q9 ⊢
        have hy : ∀ v, yieldOut X.env v = yieldValue v := fun v => by simp only [yieldOut, hco, Bool.false_eq_true, if_false]
        simp only [hy]
        rw [Sem.bind_eq_wrap', Sem.bind_eq_wrap', Sem.wrap_wrap, Sem.wrap_wrap]
        refine seg_wrap ?_
        rw [over_gen, hA]
        refine E0 (pe.run _ s9 σ8 H9 _ I9 q9) fun z s10 ⟨yv, H10, I10, r10, cs⟩ => ?_
        obtain ⟨J1, J2, J3⟩ := fin I10
        cases n with
        | zero => exact absurd hmn (Nat.not_lt_zero _)
        | succ k =>
          refine seg_at (seg_yield rfl rfl rfl ⟨t, N, yv, H10, r10, tq, cs, ⟨pl, J1, hS⟩, fun t' s'' wk tq' nx => ?_⟩)
          obtain ⟨⟨pl', I'', hS'⟩, hk⟩ := wk
          obtain ⟨m', hm', w'⟩ := hN _ _ nx
          have hpl' : PinS S s''.heap (S.filterMap fun b => (s''.heap.get? b).map fun o => (b, o)) := fun b hb => by
            obtain ⟨o, e, _⟩ := hS' b hb
            exact ⟨o, e, List.mem_filterMap.mpr ⟨b, hb, by rw [e]; rfl⟩⟩
          have I3 : Inv X (S.filterMap fun b => (s''.heap.get? b).map fun o => (b, o)) (wipe σ vs) H10 s'' := I''.pins_of fun p hp => by
            obtain ⟨b, hb, e⟩ := List.mem_filterMap.mp hp
            obtain ⟨o, e1, hm⟩ := hS' b hb
            rw [e1] at e
            have e' : (b, o) = p := Option.some.inj e
            rw [← e']
            exact I''.pin _ (List.mem_append_right _ hm)
          refine seg_again rfl (ih m' hm' k (i + 1) t' _ H10 s'' s'' (by omega) w' I3 (T.keep _ _ _ J2 fun b hb o e => hk b hb o e) J3 hpl' (fun p hp => ?_) tq')
          obtain ⟨b, hb, e⟩ := List.mem_filterMap.mp hp
          cases e1 : s''.heap.get? b with
          | none => rw [e1] at e; cases e
          | some o =>
            rw [e1] at e
            have e' : (b, o) = p := Option.some.inj e
            rw [← e']
            exact hSf b hb

theorem seg_gstart {X : Cx} {A : Around} {elt tg iter : Expr} {ifs : List Expr} {scope : Scope} {pos : Pos} {J : It} {fp : List Addr} {it : Addr} {tn : Nat → Heap → Prop} {R : GenEnd} {Y : Protocol} {n : Nat} {s₀ s : Shared}
    (T : Turn X.prog X.w X.K tg J fp it tn) (st : tn 0 s.heap)
    (loop : Seg (model X.prog X.w) A R Y n s₀ (.compLoop (.GeneratorExp elt [⟨tg, iter, ifs, 0⟩] scope pos) 0 (.ref it) .none X.env)
        ((model X.prog X.w).den (.compLoop (.GeneratorExp elt [⟨tg, iter, ifs, 0⟩] scope pos) 0 (.ref it) .none X.env)) [] s) :
    Seg (model X.prog X.w) A R Y n s₀ (.compStart (.GeneratorExp elt [⟨tg, iter, ifs, 0⟩] scope pos) 0 (.ref it) .none X.env)
      ((model X.prog X.w).den (.compStart (.GeneratorExp elt [⟨tg, iter, ifs, 0⟩] scope pos) 0 (.ref it) .none X.env)) [] s := by
  show Seg _ A _ _ _ s₀ _ ((compStart (.GeneratorExp elt [⟨tg, iter, ifs, 0⟩] scope pos) 0 (.ref it) .none X.env).onRaise (leaving X.env)) [] s
  unfold compStart
  rw [Sem.onRaise_eq_wrap]
  show Seg _ A _ _ _ s₀ _ ((ask >>= _).wrap _ _ _ _) [] s
  refine seg_bind_wrap (wpAny_askSetting ?_)
  split
  · exact seg_again rfl loop
  · first
      | exact seg_bind_wrap (wpAny_rule (seg_bind_wrap (wpAny_standAt (seg_bind_wrap (T.self _ 0 s _ _ st (seg_again rfl loop))))))
      | (refine seg_bind_wrap (wpAny_rule ?_); show Seg _ A _ _ _ s₀ _ ((standAt iter.pos >>= _).wrap _ _ _ _) [] s; exact seg_bind_wrap (wpAny_standAt (seg_bind_wrap (T.self _ 0 s _ _ st (seg_again rfl loop)))))
end

theorem inv_gens {X : Cx} {pl : List (Addr × Obj)} {σ : L2.St} {H : Hp} {s : Shared} {g' : Array GenState} (I : Inv X pl σ H s) (hg : AllBare g') : Inv X pl σ H { s with gens := g' } :=
  ⟨I.ok, I.os, hg, I.base, I.loc, I.cell, I.free, I.freeC, I.pin, I.hok, I.len⟩
theorem inv_setGen {X : Cx} {pl : List (Addr × Obj)} {σ : L2.St} {H : Hp} {s : Shared} {g : Nat} {x : GenState} (I : Inv X pl σ H s) (hx : x.bare = true) : Inv X pl σ H (s.setGen g x) := by
  refine inv_gens I fun y hy => ?_
  rcases Array.mem_or_eq_of_mem_setIfInBounds hy with h | h
  · exact I.bare y h
  · rw [h]; exact hx

section
variable {τ : Type}
/-- the generator number gn at a, made in X, walks in X' -/
structure GenOn (X X' : Cx) (pins : List (Addr × Obj)) (σ σw : L2.St) (fp : List Addr) (a : Addr) (gn n : Nat) (t0 : τ) (Cons : τ → V → Hp → (τ → Hp → Prop) → Prop) (Fin : τ → Hp → Prop) (H2 : Hp) (s5 : Shared) : Prop where
  gen : s5.heap.IsGen a gn
  inv : ∃ o, s5.heap.get? a = some o ∧ Inv X' [(a, o)] σw H2 s5
  back : ∀ (pl : List (Addr × Obj)) (σ' : L2.St) (H' : Hp) (s' : Shared), Inv X' pl σ' H' s' → Inv X pins σ H' s'
  afp : a ∉ fp
  fpl : ∀ b ∈ fp, b < s5.heap.objs.size
  ex : X'.ex = fp
  pn : X'.pn = []
  sz : X'.s_0.heap.objs.size ≤ s5.heap.objs.size
  cells : ∀ x c, X'.env.cells.lookup x = some c → c < s5.heap.objs.size
  loc : X'.env.locals < s5.heap.objs.size
  fs : ∀ b ∈ X'.fs, b < s5.heap.objs.size
  gens : gn < s5.gens.size
  goes : ∃ gs, s5.gens[gn]? = some gs ∧ ∀ (S : List Addr) (TQ : τ → Shared → Prop), (∀ b ∈ S, b ∉ fp) → ∀ s'' : Shared, Wake X' S fp σw H2 s5 s'' → TQ t0 s'' →
    gs.Goes (model X.prog X.w) X.A.in1.in1 (gR X' S TQ σw Fin) (gY X' S fp TQ σw Cons) n (.send .none) s''

theorem gen_make {X : Cx} {pins : List (Addr × Obj)} {σ : L2.St} {H : Hp} {s : Shared} {c P : Addr} {elt tg iter : Expr} {ifs : List Expr} {gpos : Pos} {scope : Scope} {own : List (Str × Nat)} {wi : TI} {g : TG} {tt : TT} {te : TE} {k : Nat} {Q' : Value → Shared → Prop} {R : Hp → Prop}
    {t0 : τ} {Cons : τ → V → Hp → (τ → Hp → Prop) → Prop} {Fin : τ → Hp → Prop}
    (hr : Room k X.A) (hc : X.calm = true) (hN : X.N.Nodup) (TB : GxR.TabB X.base X.mg c P) (hcode : X.env.code = .ref c) (hi : PI X tg iter wi) (ok : BlkOk X.N X.env.scope scope own) (hcell : ∀ y ∈ scope.names, y.2 ≠ .cell) (hco : scope.isCoroutine = false) (hdot : scope.names.lookup (".0" : Str) = some NameKind.local)
    (hg : ∀ (s : Shared) (H : Hp) (C : Addr) (code : Value) (fp : List Addr), PG (gCx X s H (gEnv X scope C code) fp) tg g) (ht : ∀ (s : Shared) (H : Hp) (C : Addr) (code : Value) (fp : List Addr), PTs (gCx X s H (gEnv X scope C code) fp) ifs tt)
    (he : ∀ (s : Shared) (H : Hp) (C : Addr) (code : Value) (fp : List Addr), PE (gCx X s H (gEnv X scope C code) fp) elt te)
    (hs : ∀ v, genFold iter X.env v = pure v) (I : Inv X pins σ H s)
    (h : wi σ H fun J H1 => GxR.TabG H1 P ∧ ∀ H2, GxR.Tabbed P H1 H2 → ∃ W : Nat → Nat → τ → Hp → Prop, (∃ m, W 0 m t0 H2) ∧ GW J g tt te (own.map (·.2)) σ W Cons Fin)
    (hQ : ∀ (X' : Cx) (fp : List Addr) (a : Addr) (gn n : Nat) (H2 : Hp) (s5 : Shared), GenOn X X' pins σ (wipe σ (own.map (·.2))) fp a gn n t0 Cons Fin H2 s5 → X'.prog = X.prog → X'.w = X.w → Q' (.ref a) s5) :
    wpAny (model X.prog X.w) X.A (eval (.GeneratorExp elt [⟨tg, iter, ifs, 0⟩] scope gpos) X.env) Q' X.xe s := by
  have hfree : ∀ y ∈ scope.names, y.2 = .free → ∃ c, X.env.cells.lookup y.1 = some c := fun y hy e => by
    rcases ok.free y hy e with k | k
    · exact I.ok.has _ (.inl k)
    · exact I.ok.has _ (.inr k)
  refine wpAny_GeneratorExp_make hco (closure_ok hfree) hcell hdot ok.kind (by have := hr.dp; omega) ?_ hs
  refine thn (hi.run pins s σ H _ I h) fun xv s1 hx => thn hx fun itv s2 h2 => ?_
  obtain ⟨it, fp, tn, J, H1, e, I2, T, st2, f2, ⟨ps, hP, ht3⟩, q⟩ := h2
  subst e
  refine ⟨I2.nolimit, ?_⟩
  have hPs : s2.heap.get? P = some { cls := .none, data := .fields ps } := I2.hok P _ hP
  have cd : PySem.W.CodeHd s2.heap c P := TB.code.keeps fun b u e => I2.bk b u e
  have cont : ∀ (code : Value) (h3 : Heap) (tk : Nat) (more : Array Value), Heap.ExtBut P s2.heap h3 → s2.heap.objs.size ≤ h3.objs.size → h3.get? P = some { cls := .none, data := .fields (ps ++ more) } → TriplesOk (ps ++ more).toList →
      wpAny (model X.prog X.w) X.A (builtinsFor X.env.globals X.env.builtins) (fun bi s₄ =>
        ∀ h', h'.Ns s₄.heap.objs.size (fun y => if y = ".0" then some (.ref it) else none) → Heap.SameBut s₄.heap.objs.size (s₄.heap.push { cls := .type "frame", data := .dict #[] }) h' →
          Q' (.ref h'.objs.size) { s₄ with
            gens := s₄.gens.push (.fresh (.compStart (.GeneratorExp elt [⟨tg, iter, ifs, 0⟩] scope gpos) 0 (.ref it) .none (genEnv scope (cloFrom X.env.cells scope.names []) s₄.heap.objs.size code bi X.env))),
            toks := s₄.toks + 1 + 1 + 1,
            heap := h'.push { cls := .type "generator", data := .fields #[.int s₄.gens.size 0, .str "<genexpr>" (s₄.toks + 1), .str (X.env.qual ++ "<genexpr>") (s₄.toks + 1 + 1)] } }) X.xe { s2 with heap := h3, toks := tk } := by
    intro code h3 tk more hx hsz hP3 ht4
    obtain ⟨bm, ob, e1, e2, e3, e4, e5, e6, e7, e8⟩ := TB.bm
    have keep3 : ∀ b u, b ≠ P → s2.heap.get? b = some u → h3.get? b = some u := fun b u hb e => hx b u hb e
    refine wpAny_builtinsFor (m := X.mg) (by rw [I2.ok.glob]; exact (I2.mod.glob.keeps I2.bk).extBut hx TB.gP) e1 e2 (keep3 _ _ e4 (I2.bk _ _ e5)) e6 e7 e8 ?_
    intro h' hn' hs'
    have I4 : Inv X pins σ (upd H1 P (.tbl (ps ++ more))) { s2 with heap := h3, toks := tk } := GxR.inv_tab (more := more) (h' := h3) (g' := s2.gens) (d' := s2.drawn) (t' := tk) I2 hP keep3 hP3 I2.bare
    have hTb : GxR.Tabbed P H1 (upd H1 P (.tbl (ps ++ more))) := ⟨⟨ps ++ more, upd_same, ht4⟩, fun b hb => upd_ne hb⟩
    obtain ⟨W, ⟨m0, w0⟩, gw⟩ := q _ hTb
    generalize hH2 : upd H1 P (.tbl (ps ++ more)) = H2 at I4 w0
    generalize hs4 : ({ s2 with heap := h3, toks := tk } : Shared) = s4 at I4 hn' hs' ⊢
    have hh4 : s4.heap = h3 := by rw [← hs4]
    have hsz' : h'.objs.size = s4.heap.objs.size + 1 := by rw [hs'.1, Heap.size_push]
    have keep' : ∀ b o, s4.heap.get? b = some o → h'.get? b = some o := fun b o e => hs'.extBut b o (Nat.ne_of_lt (Heap.lt_size e)) (Heap.get?_push_of_some _ e)
    have fpP : ∀ b ∈ fp, b ≠ P := fun b hb z => by
      have := (f2 b hb).1
      rw [z, hP] at this
      cases this
    have f4 : ∀ b ∈ fp, FpOk X pins H2 b ∧ b < s4.heap.objs.size := fun b hb => by
      obtain ⟨o, e, _⟩ := T.obj _ _ st2 b hb
      refine ⟨⟨?_, (f2 b hb).2⟩, ?_⟩
      · rw [← hH2, upd_ne (fpP b hb)]
        exact (f2 b hb).1
      · rw [hh4]
        exact Heap.lt_size (keep3 b o (fpP b hb) e)
    have st4 : tn 0 s4.heap := T.keep _ _ _ st2 fun b hb o e => by rw [hh4]; exact keep3 b o (fpP b hb) e
    generalize hh5 : h'.push { cls := .type "generator", data := .fields #[.int s4.gens.size 0, .str "<genexpr>" (s4.toks + 1), .str (X.env.qual ++ "<genexpr>") (s4.toks + 1 + 1)] } = h5
    have hget : h5.get? h'.objs.size = some { cls := .type "generator", data := .fields #[.int s4.gens.size 0, .str "<genexpr>" (s4.toks + 1), .str (X.env.qual ++ "<genexpr>") (s4.toks + 1 + 1)] } := by
      rw [← hh5]; exact Heap.get?_push_size _ rfl
    have h5sz : h5.objs.size = h'.objs.size + 1 := by rw [← hh5, Heap.size_push]
    have keep5 : ∀ b o, h'.get? b = some o → h5.get? b = some o := fun b o e => by rw [← hh5]; exact Heap.get?_push_of_some _ e
    have hns5 : h5.Ns s4.heap.objs.size (fun y => if y = ".0" then some (.ref it) else none) := by rw [← hh5]; exact hn'.push _
    have bare5 : AllBare (s4.gens.push (.fresh (.compStart (.GeneratorExp elt [⟨tg, iter, ifs, 0⟩] scope gpos) 0 (.ref it) .none (genEnv scope (cloFrom X.env.cells scope.names []) s4.heap.objs.size code builtinsNs X.env)))) := I4.bare.push rfl
    have I5 := gen_start (h' := h5) (g' := s4.gens.push (.fresh (.compStart (.GeneratorExp elt [⟨tg, iter, ifs, 0⟩] scope gpos) 0 (.ref it) .none (genEnv scope (cloFrom X.env.cells scope.names []) s4.heap.objs.size code builtinsNs X.env)))) (tk := s4.toks + 1 + 1 + 1) (code := code) I4 ok hcell hN hc f4 hns5 (fun b o e => keep5 b o (keep' b o e)) bare5
    refine hQ (gCx X s4 H2 (gEnv X scope s4.heap.objs.size code) fp) fp h'.objs.size s4.gens.size (m0 + 1) H2 _ ?_ rfl rfl
    have afp : h'.objs.size ∉ fp := fun hm => by
      exact ad_no (f4 _ hm).2 hsz'
    have cm : ∀ {y c}, (cloFrom X.env.cells scope.names []).lookup y = some c → c < s4.heap.objs.size := fun {y c} e => by
      rcases cloFrom_mem (PySem.mem_of_lookup e) with hm | ⟨h1, h2⟩
      · cases hm
      · obtain ⟨c1, hc1⟩ := hfree _ h1 rfl
        have hc1 : X.env.cells.lookup y = some c1 := hc1
        have e2 : c = c1 := by
          rw [h2, hc1] <;> rfl
        rw [e2]
        obtain ⟨w, z⟩ := I4.cell _ _ hc1
        exact z.lt
    have fsl : ∀ b ∈ frs X.stack, b < s4.heap.objs.size := fun b hb => by
      rcases List.mem_cons.mp (I4.stkSub b hb) with z | z
      · rw [z]; exact I4.lt
      · rcases Nat.lt_or_ge b s4.heap.objs.size with y | y
        · exact y
        · exact absurd z (I4.nofs y)
    refine ⟨⟨_, _, _, hget, rfl, rfl, rfl⟩, ⟨_, hget, I5.pins_of fun p hp => ?_⟩, fun pl σ' H' s' I' => ?_, afp, fun b hb => ?_, rfl, rfl, ?_, fun x c e => ?_, ?_, fun b hb => ?_, ?_, ⟨_, Array.getElem?_push_size .., fun S TQ hSf s'' wk tq => ⟨rfl, ?_⟩⟩⟩
    · have hp' : p = (h'.objs.size, ({ cls := .type "generator", data := .fields #[.int s4.gens.size 0, .str "<genexpr>" (s4.toks + 1), .str (X.env.qual ++ "<genexpr>") (s4.toks + 1 + 1)] } : Obj)) := List.mem_singleton.mp hp
      subst hp'
      refine ⟨hget, I4.hok.fresh (ad_ge hsz'), ?_, fun z => ?_, fun v q => by cases q⟩
      · show h'.objs.size ≠ s4.heap.objs.size
        exact ad_ne hsz'
      · exact ad_no (fsl _ z) hsz'
    · refine I4.call' (ch := fp) I'.os I'.base I'.hok I'.bare fun b hb => ⟨(f4 b hb).1.2.2.2.1, (f4 b hb).1.2.1, (f4 b hb).1.2.2.2.2.1, (f4 b hb).1.2.2.2.2.2⟩
    · exact ad_lt (f4 b hb).2 hsz' h5sz
    · exact ad_le hsz' h5sz
    · exact ad_lt (cm e) hsz' h5sz
    · exact ad_lt' hsz' h5sz
    · exact ad_lt (fsl b hb) hsz' h5sz
    · show s4.gens.size < (s4.gens.push _).size
      rw [Array.size_push]; omega
    · obtain ⟨⟨pl, I6, hS⟩, hk⟩ := wk
      have hpl' : PinS S s''.heap (S.filterMap fun b => (s''.heap.get? b).map fun o => (b, o)) := fun b hb => by
        obtain ⟨o, e, _⟩ := hS b hb
        exact ⟨o, e, List.mem_filterMap.mpr ⟨b, hb, by rw [e]; rfl⟩⟩
      have I7 : Inv (gCx X s4 H2 (gEnv X scope s4.heap.objs.size code) fp) (S.filterMap fun b => (s''.heap.get? b).map fun o => (b, o)) (wipe σ (own.map (·.2))) H2 s'' := I6.pins_of fun p hp => by
        obtain ⟨b, hb, e⟩ := List.mem_filterMap.mp hp
        obtain ⟨o, e1, hm⟩ := hS b hb
        rw [e1] at e
        have e' : (b, o) = p := Option.some.inj e
        rw [← e']
        exact I6.pin _ (List.mem_append_right _ hm)
      have st7 : tn 0 s''.heap := T.keep _ _ _ st4 fun b hb o e => hk b hb o (keep5 b o (keep' b o e))
      refine seg_gstart (X := gCx X s4 H2 (gEnv X scope s4.heap.objs.size code) fp) T st7 (seg_gloop (X := gCx X s4 H2 (gEnv X scope s4.heap.objs.size code) fp) rfl hc hco rfl rfl rfl T (hg _ _ _ _ _) (ht _ _ _ _ _) (he _ _ _ _ _) gw hSf m0 (m0 + 1) 0 t0 _ H2 s'' s'' (Nat.lt_succ_self _) w0 I7 st7 (fun b hb => (f4 b hb).1.1) hpl' (fun p hp => ?_) tq)
      obtain ⟨b, hb, e⟩ := List.mem_filterMap.mp hp
      cases e1 : s''.heap.get? b with
      | none => rw [e1] at e; cases e
      | some o =>
        rw [e1] at e
        have e' : (b, o) = p := Option.some.inj e
        rw [← e']
        exact hSf b hb
  cases hf : codeAmong gpos ps.toList with
  | none =>
    refine wpAny_genexprCodeX hcode (cd.code hPs ht3) (cd.tab hPs) hf fun c' h' tk hx hge hlt hco' _ htab' _ => ?_
    obtain ⟨o1, vs, f1, tf, fl, tg', inF, tx, tt', op, _, _, _, _, _, _, _, _, _, htr, _⟩ := hco'
    exact cont _ h' tk _ hx (Nat.le_trans hge (Nat.le_of_lt hlt)) htab'.2 htr
  | some cv =>
    refine wpAny_genexprCode_hit hcode (cd.code hPs ht3) hf ?_
    have e0 : ps ++ #[] = ps := by simp
    exact cont cv s2.heap s2.toks #[] (Heap.ExtBut.refl _ _) (Nat.le_refl _) (by rw [e0]; exact hPs) (by rw [e0]; exact ht3)
end

/-! ### the consumers -/
section
variable {X X' : Cx} {pins : List (Addr × Obj)} {σ σw : L2.St} {fp : List Addr} {a : Addr} {gn : Nat}
/-- all, any: between two turns -/
def TruSt (X X' : Cx) (σw : L2.St) (fp : List Addr) (a : Addr) (gn n : Nat) (Cons : Unit → V → Hp → (Unit → Hp → Prop) → Prop) (Fin : Unit → Hp → Prop) (s : Shared) : Prop :=
  s.heap.IsGen a gn ∧ s.heap.NoLimit ∧ gn < s.gens.size ∧ ∃ gs, s.gens[gn]? = some gs ∧ gs.Goes (model X.prog X.w) X.A.in1.in1 (gR X' [a] (fun _ _ => True) σw Fin) (gY X' [a] fp (fun _ _ => True) σw Cons) n (.send .none) (s.setGen gn .running)
theorem gen_pin {s : Shared} {h : Heap} {pl : List (Addr × Obj)} {S : List Addr} {σ' : L2.St} {H : Hp} {s0 : Shared} (hb : a ∈ S) (hg : h.IsGen a gn) (hS : PinS S h pl) (I : Inv X' pl σ' H s0) : s0.heap.IsGen a gn := by
  obtain ⟨o, e, hm⟩ := hS a hb
  obtain ⟨o', nm, qn, e', r⟩ := hg
  rw [e] at e'
  cases e'
  exact ⟨o, nm, qn, (I.pin _ (List.mem_append_right _ hm)).1, r⟩
theorem setGen_at {s : Shared} {g : Nat} {x : GenState} (h : g < s.gens.size) : (s.setGen g x).gens[g]? = some x := by
  simp [Shared.setGen, h]
theorem setGen_sz {s : Shared} {g : Nat} {x : GenState} : (s.setGen g x).gens.size = s.gens.size := GenW.setGen_size s g x

/-- one turn of a consumer's loop: the generator hands out a value, or is through -/
theorem next_gen {τ : Type} {Cons : τ → V → Hp → (τ → Hp → Prop) → Prop} {Fin : τ → Hp → Prop} {S : List Addr} {TQ : τ → Shared → Prop} {n : Nat} {s : Shared} {Q : Option Value → Shared → Prop} {E : Value → Shared → Prop} {k : Nat}
    (hr : Room k X.A) (hS : a ∈ S) (hg : s.heap.IsGen a gn) (hl : s.heap.NoLimit) (hgn : gn < s.gens.size) (hgo : ∃ gs, s.gens[gn]? = some gs ∧ gs.Goes (model X.prog X.w) X.A.in1.in1 (gR X' S TQ σw Fin) (gY X' S fp TQ σw Cons) n (.send .none) (s.setGen gn .running))
    (hY : ∀ (v : Value) (x : V) (t : τ) (N : τ → Hp → Prop) (H : Hp) (s1 : Shared) (gs' : GenState) (pl : List (Addr × Obj)), RelV x v → TQ t (s.setGen gn .running) → Cons t x H N → gs'.bare = true → Inv X' pl σw H s1 → PinS S s.heap pl → gn < s1.gens.size → s1.heap.IsGen a gn →
      (∀ t' s'', Wake X' S fp σw H s1 s'' → TQ t' s'' → N t' H → ∃ m, m + 1 = n ∧ gs'.Goes (model X.prog X.w) X.A.in1.in1 (gR X' S TQ σw Fin) (gY X' S fp TQ σw Cons) m (.send .none) s'') → Q (some v) (s1.setGen gn gs'))
    (hF : ∀ (t : τ) (H : Hp) (s1 : Shared) (pl : List (Addr × Obj)) (h' : Heap), TQ t (s.setGen gn .running) → Fin t H → Inv X' pl σw H { s1.setGen gn .finished with heap := h' } → PinS S s.heap pl → Q none { s1.setGen gn .finished with heap := h' }) :
    wpAny (model X.prog X.w) X.A.in1 (pyNext (.ref a)) Q E s := by
  obtain ⟨gs, hgs, hgo⟩ := hgo
  refine GenW.wpAny_gsz (n := gn + 1) hgn ?_
  refine wpAny_pyNext_genexpQ (A := X.A.in1) (P := fun n s₀ s1 => ∃ (t : τ) (H : Hp), TQ t s₀ ∧ Fin t H ∧ ∃ pl, Inv X' pl σw H s1 ∧ PinS S s₀.heap pl) hr.hd hl (by have := hr.dp; show X.A.depth < _; omega) hg hgs hgo (fun v s1 gs' hb hv hsz => ?_) (fun s1 hp h' hk _ => ?_)
  · obtain ⟨t, N, x, H, rv, tq, cs, ⟨pl, I1, hpl⟩, kap⟩ := hv
    rw [setGen_sz] at hsz
    refine hY v x t N H s1 gs' pl rv tq cs hb I1 hpl hsz (gen_pin (s := s1) hS hg hpl I1) fun t' s'' wk tq' nx => ?_
    have z := kap t' s'' wk tq' nx
    cases n with
    | zero => exact z.elim
    | succ m => exact ⟨m, rfl, z⟩
  · obtain ⟨t, H, tq, fin, pl, I1, hpl⟩ := hp
    exact hF t H s1 pl h' tq fin ((inv_setGen I1 rfl).kept (t' := s1.toks) hk) hpl

theorem all_loop {k : Nat} {Qf : Hp → Prop} {Fin : Unit → Hp → Prop} {R : Result → Shared → Prop} (hr : Room k X.A)
    (back : ∀ (pl : List (Addr × Obj)) (σ' : L2.St) (H' : Hp) (s' : Shared), Inv X' pl σ' H' s' → Inv X pins σ H' s')
    (hT : ∀ H s', Inv X pins σ H s' → Fin () H → R (.ok (.ret (.bool true))) s') (hF : ∀ H s', Inv X pins σ H s' → Qf H → R (.ok (.ret (.bool false))) s') :
    ∀ (n : Nat) (s : Shared), TruSt X X' σw fp a gn n (fun _ y H N => ∃ b, y = .bl b ∧ if b = true then N () H else Qf H) Fin s → codeAny (model X.prog X.w) X.A (.builtin "all.loop" ⟨[.ref a], []⟩) R s := by
  intro n
  induction n using Nat.strongRecOn with
  | ind n ih =>
    intro s ⟨hg, hl, hgn, hgo⟩
    refine codeAny_builtin F.entry_all_loop ?_
    rw [Around.under_plainId F.plain_all_loop _]
    show wpAny _ X.A.in1 (pyNext (.ref a) >>= _) _ _ s
    refine wpAny_bind (next_gen (S := [a]) (TQ := fun _ _ => True) hr List.mem_cons_self hg hl hgn hgo (fun v x t N H s1 gs' pl rv _ cs hb I1 hpl hgn1 hg1 kap => ?_) (fun t H s1 pl h' _ fin I1 hpl => ?_))
    · obtain ⟨b, rfl, q⟩ := cs
      obtain rfl : v = Value.bool b := rv
      refine wpAny_bind (wpAny_holding (wpAny_truthy_bool ?_))
      refine wpAny_bind (wpAny_letGo ?_)
      have J1 : Inv X' pl σw H (s1.setGen gn gs') := inv_setGen I1 hb
      cases b with
      | true =>
        simp only [if_true] at q ⊢
        have J2 : Inv X' pl σw H ((s1.setGen gn gs').setGen gn .running) := inv_setGen J1 rfl
        obtain ⟨m, hm, z⟩ := kap () _ ⟨⟨pl, J2, fun b hb => (by
          obtain ⟨o, _, hm⟩ := hpl b hb
          exact ⟨o, (I1.pin _ (List.mem_append_right _ hm)).1, hm⟩)⟩, fun b _ o e => e⟩ trivial q
        refine wpAny_pure ⟨plainId_quiet F.plain_all_loop _, ih m (by omega) _ ⟨hg1, J1.nolimit, by rw [setGen_sz]; exact hgn1, gs', setGen_at hgn1, z⟩⟩
      | false =>
        simp only [Bool.false_eq_true, if_false] at q ⊢
        exact wpAny_bind (wpAny_rule (wpAny_pure (hF H _ (back _ _ _ _ J1) q)))
    · exact wpAny_bind (wpAny_rule (wpAny_pure (hT H _ (back _ _ _ _ I1) fin)))

theorem any_loop {k : Nat} {Qt : Hp → Prop} {Fin : Unit → Hp → Prop} {R : Result → Shared → Prop} (hr : Room k X.A)
    (back : ∀ (pl : List (Addr × Obj)) (σ' : L2.St) (H' : Hp) (s' : Shared), Inv X' pl σ' H' s' → Inv X pins σ H' s')
    (hF : ∀ H s', Inv X pins σ H s' → Fin () H → R (.ok (.ret (.bool false))) s') (hT : ∀ H s', Inv X pins σ H s' → Qt H → R (.ok (.ret (.bool true))) s') :
    ∀ (n : Nat) (s : Shared), TruSt X X' σw fp a gn n (fun _ y H N => ∃ b, y = .bl b ∧ if b = true then Qt H else N () H) Fin s → codeAny (model X.prog X.w) X.A (.builtin "any.loop" ⟨[.ref a], []⟩) R s := by
  intro n
  induction n using Nat.strongRecOn with
  | ind n ih =>
    intro s ⟨hg, hl, hgn, hgo⟩
    refine codeAny_builtin F.entry_any_loop ?_
    rw [Around.under_plainId F.plain_any_loop _]
    show wpAny _ X.A.in1 (pyNext (.ref a) >>= _) _ _ s
    refine wpAny_bind (next_gen (S := [a]) (TQ := fun _ _ => True) hr List.mem_cons_self hg hl hgn hgo (fun v x t N H s1 gs' pl rv _ cs hb I1 hpl hgn1 hg1 kap => ?_) (fun t H s1 pl h' _ fin I1 hpl => ?_))
    · obtain ⟨b, rfl, q⟩ := cs
      obtain rfl : v = Value.bool b := rv
      refine wpAny_bind (wpAny_holding (wpAny_truthy_bool ?_))
      refine wpAny_bind (wpAny_letGo ?_)
      have J1 : Inv X' pl σw H (s1.setGen gn gs') := inv_setGen I1 hb
      cases b with
      | false =>
        simp only [Bool.false_eq_true, if_false] at q ⊢
        have J2 : Inv X' pl σw H ((s1.setGen gn gs').setGen gn .running) := inv_setGen J1 rfl
        obtain ⟨m, hm, z⟩ := kap () _ ⟨⟨pl, J2, fun b hb => (by
          obtain ⟨o, _, hm⟩ := hpl b hb
          exact ⟨o, (I1.pin _ (List.mem_append_right _ hm)).1, hm⟩)⟩, fun b _ o e => e⟩ trivial q
        refine wpAny_pure ⟨plainId_quiet F.plain_any_loop _, ih m (by omega) _ ⟨hg1, J1.nolimit, by rw [setGen_sz]; exact hgn1, gs', setGen_at hgn1, z⟩⟩
      | true =>
        simp only [if_true] at q ⊢
        exact wpAny_bind (wpAny_rule (wpAny_pure (hT H _ (back _ _ _ _ J1) q)))
    · exact wpAny_bind (wpAny_rule (wpAny_pure (hF H _ (back _ _ _ _ I1) fin)))

/-! sum: the total stands in a list of the consumer's own, at Z -/
def TotAt (Z : Addr) (t : Int) (s : Shared) : Prop := ∃ (tk : Tok) (c : Nat), s.heap.get? Z = some { cls := .type "list", dict := none, data := .seq #[.int t tk] c, slots := #[] }
theorem TotAt.inj {Z : Addr} {t u : Int} {s : Shared} (h : TotAt Z t s) (h' : TotAt Z u s) : t = u := by
  obtain ⟨tk, c, e⟩ := h
  obtain ⟨tk', c', e'⟩ := h'
  rw [e] at e'
  have z := Option.some.inj e'
  injection z with z1 z2 z3 z4
  injection z3 with z5 z6
  have z7 : ([.int t tk] : List Value) = [.int u tk'] := congrArg Array.toList z5
  injection z7 with z8 _
  injection z8
/-- the list at Z is out of the generator's reach -/
structure ZOk (X' : Cx) (fp : List Addr) (a Z : Addr) : Prop where
  sz : X'.s_0.heap.objs.size ≤ Z
  loc : Z ≠ X'.env.locals
  fs : Z ∉ X'.fs
  cells : ∀ x c, X'.env.cells.lookup x = some c → c ≠ Z
  za : Z ≠ a
  zfp : Z ∉ fp
  afp : a ∉ fp
  pn : X'.pn = []
def SumSt (X X' : Cx) (σw : L2.St) (fp : List Addr) (a Z : Addr) (gn n : Nat) (t : Int) (Cons : Int → V → Hp → (Int → Hp → Prop) → Prop) (Fin : Int → Hp → Prop) (s : Shared) : Prop :=
  s.heap.IsGen a gn ∧ s.heap.NoLimit ∧ gn < s.gens.size ∧ TotAt Z t s ∧ ∃ gs, s.gens[gn]? = some gs ∧ gs.Goes (model X.prog X.w) X.A.in1.in1 (gR X' [a, Z] (TotAt Z) σw Fin) (gY X' [a, Z] fp (TotAt Z) σw Cons) n (.send .none) (s.setGen gn .running)
theorem sum_loop {Z : Addr} {k : Nat} {Fin : Int → Hp → Prop} {R : Result → Shared → Prop} (hr : Room k X.A) (z : ZOk X' fp a Z)
    (back : ∀ (pl : List (Addr × Obj)) (σ' : L2.St) (H' : Hp) (s' : Shared), Inv X' pl σ' H' s' → Inv X pins σ H' s')
    (hF : ∀ t H s' tk, Inv X pins σ H s' → Fin t H → R (.ok (.ret (.int t tk))) s') :
    ∀ (n : Nat) (t : Int) (s : Shared), SumSt X X' σw fp a Z gn n t (fun t y H N => ∃ j, y = .int j ∧ (InLong j ∧ InLong (t + j)) ∧ N (t + j) H) Fin s →
      codeAny (model X.prog X.w) X.A (.builtin "sum.loop" ⟨[.ref a, .ref Z, rawInt 0, rawInt 0], []⟩) R s := by
  intro n
  induction n using Nat.strongRecOn with
  | ind n ih =>
    intro t s ⟨hg, hl, hgn, hZ, hgo⟩
    obtain ⟨tA, c, hS⟩ := id hZ
    refine codeAny_builtin F.entry_sum_loop ?_
    rw [Around.under_plainId F.plain_sum_loop _]
    show wpAny _ X.A.in1 (seqItems? (.ref Z) >>= _) _ _ s
    refine wpAny_bind (wpAny_seqItems hS rfl ?_)
    show wpAny _ X.A.in1 (tryCatch (pyNext (.ref a)) _ >>= _) _ _ s
    refine wpAny_bind (wpAny_tryCatch (next_gen (S := [a, Z]) (TQ := TotAt Z) hr List.mem_cons_self hg hl hgn hgo (fun v x t' N H s1 gs' pl rv tq cs hb I1 hpl hgn1 hg1 kap => ?_) (fun t' H s1 pl h' tq fin I1 hpl => ?_)))
    · have et : t' = t := TotAt.inj tq hZ
      subst et
      obtain ⟨j, rfl, ⟨⟨f1, f2⟩, f3, f4⟩, nx⟩ := cs
      obtain ⟨tv, rfl⟩ : ∃ tv, v = Value.int j tv := rv
      have hc : ((decide (-(2 ^ 63) ≤ j) && decide (j < 2 ^ 63)) && (decide (-(2 ^ 63) ≤ t' + j) && decide (t' + j < 2 ^ 63))) = true := by
        simp only [Bool.and_eq_true, decide_eq_true_eq]
        exact ⟨⟨f1, f2⟩, f3, f4⟩
      obtain ⟨oz, ez, hmz⟩ := hpl Z (List.mem_cons_of_mem _ List.mem_cons_self)
      obtain ⟨oa, ea, hma⟩ := hpl a List.mem_cons_self
      rw [hS] at ez
      cases ez
      obtain ⟨pz1, pz2, pz3, pz4, _⟩ := I1.pin _ (List.mem_append_right _ hmz)
      obtain ⟨pa1, pa2, pa3, pa4, pa5⟩ := I1.pin _ (List.mem_append_right _ hma)
      have J1 : Inv X' [(a, oa)] σw H (s1.setGen gn gs') := (inv_setGen I1 hb).pins_of fun p hp => by
        rw [List.mem_singleton.mp hp]
        exact ⟨pa1, pa2, pa3, pa4, pa5⟩
      show wpAny _ X.A.in1 (if (_ : Bool) = true then (mkInt (t' + j) >>= _) else _) _ _ _
      split
      · refine wpAny_bind (wpAny_mkInt ?_)
        show wpAny _ X.A.in1 (updateSeq Z (fun _ => #[.int (t' + j) s1.toks]) >>= _) _ _ _
        refine wpAny_bind ?_
        refine wpAny_updateSeq pz1 rfl (wpAny_pure ⟨plainId_quiet F.plain_sum_loop _, ?_⟩)
        have kh : ∀ b o, b ≠ Z → s1.heap.get? b = some o → (s1.heap.update Z (Obj.mapSeq fun _ => #[.int (t' + j) s1.toks])).get? b = some o := fun b o hb e => (Heap.get?_update_other _ _ (fun h : Z = b => hb h.symm)).trans e
        have J2 : Inv X' [(a, oa)] σw H { s1.setGen gn gs' with heap := s1.heap.update Z (Obj.mapSeq fun _ => #[.int (t' + j) s1.toks]), toks := s1.toks + 1 } :=
          J1.turned (t' := s1.toks + 1) kh pz2 z.loc (.inr z.sz) z.cells fun p hp => by
            rw [z.pn] at hp
            have hp2 : p = (a, oa) := by simpa using hp
            rw [hp2]
            exact fun e => z.za e.symm
        have eZ := Heap.get?_update_self (h := s1.heap) (Obj.mapSeq fun _ => #[.int (t' + j) s1.toks]) pz1 rfl
        have J3 : Inv X' [(a, oa), (Z, (Obj.mapSeq (fun _ => #[.int (t' + j) s1.toks])) { cls := .type "list", dict := none, data := .seq #[.int t' tA] c, slots := #[] })] σw H { s1.setGen gn gs' with heap := s1.heap.update Z (Obj.mapSeq fun _ => #[.int (t' + j) s1.toks]), toks := s1.toks + 1 } := J2.pins_of fun p hp => by
          rcases List.mem_cons.mp hp with hp | hp
          · exact J2.pin p (List.mem_append_right _ (by rw [hp]; exact List.mem_cons_self))
          · rw [List.mem_singleton.mp hp]
            exact ⟨eZ, pz2, pz3, pz4, fun v q => by cases q⟩
        obtain ⟨m, hm, zz⟩ := kap (t' + j) (({ s1.setGen gn gs' with heap := s1.heap.update Z (Obj.mapSeq fun _ => #[.int (t' + j) s1.toks]), toks := s1.toks + 1 } : Shared).setGen gn .running) ⟨⟨_, inv_setGen J3 rfl, fun b hb => (by
          rcases List.mem_cons.mp hb with hb | hb
          · rw [hb]
            exact ⟨oa, (J3.pin _ (List.mem_append_right _ List.mem_cons_self)).1, List.mem_cons_self⟩
          · rw [List.mem_singleton.mp hb]
            exact ⟨_, eZ, List.mem_cons_of_mem _ List.mem_cons_self⟩)⟩, fun b hb o e => kh b o (fun q => z.zfp (by rw [← q]; exact hb)) e⟩ ⟨s1.toks, _, eZ⟩ nx
        refine ih m (by omega) (t' + j) _ ⟨?_, J3.nolimit, by show gn < (s1.setGen gn gs').gens.size; rw [setGen_sz]; exact hgn1, ⟨s1.toks, _, eZ⟩, gs', setGen_at hgn1, zz⟩
        obtain ⟨o, nm, qn, e, r⟩ := hg1
        exact ⟨o, nm, qn, kh a o (fun q => z.za q.symm) e, r⟩
      · rename_i hneg
        exact absurd hc hneg
    · have et : t' = t := TotAt.inj tq hZ
      subst et
      exact wpAny_pure (hF t' H _ tA (back _ _ _ _ I1) fin)
end

/-! ### the rules -/
/-- all(elt for target in iter if ..) -/
def tAllG (P : Addr) (wi : TI) (g : TG) (tt : TT) (te : TE) (vs : List Nat) : TE := fun σ H Q => wi σ H fun J H1 => GxR.TabG H1 P ∧ ∀ H2, GxR.Tabbed P H1 H2 → ∃ W : Nat → Nat → Unit → Hp → Prop, (∃ m, W 0 m () H2) ∧
  GW J g tt te vs σ W (fun _ y H N => ∃ b, y = .bl b ∧ if b = true then N () H else Q (.bl false) H) (fun _ H => Q (.bl true) H)
def tAnyG (P : Addr) (wi : TI) (g : TG) (tt : TT) (te : TE) (vs : List Nat) : TE := fun σ H Q => wi σ H fun J H1 => GxR.TabG H1 P ∧ ∀ H2, GxR.Tabbed P H1 H2 → ∃ W : Nat → Nat → Unit → Hp → Prop, (∃ m, W 0 m () H2) ∧
  GW J g tt te vs σ W (fun _ y H N => ∃ b, y = .bl b ∧ if b = true then Q (.bl true) H else N () H) (fun _ H => Q (.bl false) H)
def tSumG (P : Addr) (wi : TI) (g : TG) (tt : TT) (te : TE) (vs : List Nat) : TE := fun σ H Q => wi σ H fun J H1 => GxR.TabG H1 P ∧ ∀ H2, GxR.Tabbed P H1 H2 → ∃ W : Nat → Nat → Int → Hp → Prop, (∃ m, W 0 m 0 H2) ∧
  GW J g tt te vs σ W (fun t y H N => ∃ j, y = .int j ∧ (InLong j ∧ InLong (t + j)) ∧ N (t + j) H) (fun t H => Q (.int t) H)
section
variable {X : Cx}
theorem pe_allG {c P : Addr} {elt tg iter : Expr} {ifs : List Expr} {gpos p pos : Pos} {scope : Scope} {own : List (Str × Nat)} {wi : TI} {g : TG} {tt : TT} {te : TE} {k : Nat}
    (hr : Room k X.A) (hc : X.calm = true) (hN : X.N.Nodup) (hgl : Gl X "all") (hm : X.mg "all" = none) (TB : GxR.TabB X.base X.mg c P) (hcode : X.env.code = .ref c) (hi : PI X tg iter wi) (ok : BlkOk X.N X.env.scope scope own) (hcell : ∀ y ∈ scope.names, y.2 ≠ .cell) (hco : scope.isCoroutine = false) (hdot : scope.names.lookup (".0" : Str) = some NameKind.local)
    (hg : ∀ (s : Shared) (H : Hp) (C : Addr) (code : Value) (fp : List Addr), PG (gCx X s H (gEnv X scope C code) fp) tg g) (ht : ∀ (s : Shared) (H : Hp) (C : Addr) (code : Value) (fp : List Addr), PTs (gCx X s H (gEnv X scope C code) fp) ifs tt)
    (he : ∀ (s : Shared) (H : Hp) (C : Addr) (code : Value) (fp : List Addr), PE (gCx X s H (gEnv X scope C code) fp) elt te)
    (hs : ∀ v, genFold iter X.env v = pure v := by intro _; rfl)
    (hb : bootBuiltins "all" = some (.builtin "all") := by decide +kernel)
    (hse : starEach [.GeneratorExp elt [⟨tg, iter, ifs, 0⟩] scope gpos] X.env = (false, eval (.GeneratorExp elt [⟨tg, iter, ifs, 0⟩] scope gpos) X.env) :: starEach [] X.env := by rfl) :
    PE X (.Call (.Name "all" p) [.GeneratorExp elt [⟨tg, iter, ifs, 0⟩] scope gpos] [] pos) (tAllG P wi g tt te (own.map (·.2))) := by
  refine ⟨fun pins s σ H Q I h => ?_⟩
  refine wpAny_Call_Name_kw (ld_blt I hgl hm hb ?_)
  refine PyProof.Rows.callWith_builtin1 ?_ hse (by rfl)
  rw [hse]
  show wpAny _ _ (spliced ((false, eval (.GeneratorExp elt [⟨tg, iter, ifs, 0⟩] scope gpos) X.env) :: backTo pos (starEach [] X.env))) _ _ s
  refine Calls.spliced_cons (gen_make (R := fun _ => True) hr hc hN TB hcode hi ok hcell hco hdot hg ht he hs I h fun X' fp a gn n H2 s5 G e1 e2 => ?_)
  refine Calls.spliced_nil ?_
  refine call_function_tree F.kind_all F.plain_all F.entry_all (F.args_all1 _) ?_
  unfold Builtin.«all»
  refine wpAny_bind (m := oneArg "all" _) (wpAny_pure ?_)
  refine wpAny_bind (wpAny_pyIter_gen G.gen ?_)
  obtain ⟨o, ho, I5⟩ := G.inv
  obtain ⟨gs, hgs, hgoes⟩ := G.goes
  refine wpAny_pure ⟨plainId_quiet F.plain_all_loop _, all_loop (Qf := fun H => Q (.bl false) H) (Fin := fun _ H => Q (.bl true) H) hr G.back (fun H' s' J q => ⟨.bl true, H', J, rfl, q⟩) (fun H' s' J q => ⟨.bl false, H', J, rfl, q⟩) n s5
    ⟨G.gen, I5.nolimit, G.gens, gs, hgs, hgoes [a] (fun _ _ => True) (fun b hb => by rw [List.mem_singleton.mp hb]; exact G.afp) _ ⟨⟨_, inv_setGen I5 rfl, fun b hb => ⟨o, by rw [List.mem_singleton.mp hb]; exact ho, by rw [List.mem_singleton.mp hb]; exact List.mem_cons_self⟩⟩, fun b _ o e => e⟩ trivial⟩⟩

theorem pe_anyG {c P : Addr} {elt tg iter : Expr} {ifs : List Expr} {gpos p pos : Pos} {scope : Scope} {own : List (Str × Nat)} {wi : TI} {g : TG} {tt : TT} {te : TE} {k : Nat}
    (hr : Room k X.A) (hc : X.calm = true) (hN : X.N.Nodup) (hgl : Gl X "any") (hm : X.mg "any" = none) (TB : GxR.TabB X.base X.mg c P) (hcode : X.env.code = .ref c) (hi : PI X tg iter wi) (ok : BlkOk X.N X.env.scope scope own) (hcell : ∀ y ∈ scope.names, y.2 ≠ .cell) (hco : scope.isCoroutine = false) (hdot : scope.names.lookup (".0" : Str) = some NameKind.local)
    (hg : ∀ (s : Shared) (H : Hp) (C : Addr) (code : Value) (fp : List Addr), PG (gCx X s H (gEnv X scope C code) fp) tg g) (ht : ∀ (s : Shared) (H : Hp) (C : Addr) (code : Value) (fp : List Addr), PTs (gCx X s H (gEnv X scope C code) fp) ifs tt)
    (he : ∀ (s : Shared) (H : Hp) (C : Addr) (code : Value) (fp : List Addr), PE (gCx X s H (gEnv X scope C code) fp) elt te)
    (hs : ∀ v, genFold iter X.env v = pure v := by intro _; rfl)
    (hb : bootBuiltins "any" = some (.builtin "any") := by decide +kernel)
    (hse : starEach [.GeneratorExp elt [⟨tg, iter, ifs, 0⟩] scope gpos] X.env = (false, eval (.GeneratorExp elt [⟨tg, iter, ifs, 0⟩] scope gpos) X.env) :: starEach [] X.env := by rfl) :
    PE X (.Call (.Name "any" p) [.GeneratorExp elt [⟨tg, iter, ifs, 0⟩] scope gpos] [] pos) (tAnyG P wi g tt te (own.map (·.2))) := by
  refine ⟨fun pins s σ H Q I h => ?_⟩
  refine wpAny_Call_Name_kw (ld_blt I hgl hm hb ?_)
  refine PyProof.Rows.callWith_builtin1 ?_ hse (by rfl)
  rw [hse]
  show wpAny _ _ (spliced ((false, eval (.GeneratorExp elt [⟨tg, iter, ifs, 0⟩] scope gpos) X.env) :: backTo pos (starEach [] X.env))) _ _ s
  refine Calls.spliced_cons (gen_make (R := fun _ => True) hr hc hN TB hcode hi ok hcell hco hdot hg ht he hs I h fun X' fp a gn n H2 s5 G e1 e2 => ?_)
  refine Calls.spliced_nil ?_
  refine call_function_tree F.kind_any F.plain_any F.entry_any (F.args_any1 _) ?_
  unfold Builtin.«any»
  refine wpAny_bind (m := oneArg "any" _) (wpAny_pure ?_)
  refine wpAny_bind (wpAny_pyIter_gen G.gen ?_)
  obtain ⟨o, ho, I5⟩ := G.inv
  obtain ⟨gs, hgs, hgoes⟩ := G.goes
  refine wpAny_pure ⟨plainId_quiet F.plain_any_loop _, any_loop (Qt := fun H => Q (.bl true) H) (Fin := fun _ H => Q (.bl false) H) hr G.back (fun H' s' J q => ⟨.bl false, H', J, rfl, q⟩) (fun H' s' J q => ⟨.bl true, H', J, rfl, q⟩) n s5
    ⟨G.gen, I5.nolimit, G.gens, gs, hgs, hgoes [a] (fun _ _ => True) (fun b hb => by rw [List.mem_singleton.mp hb]; exact G.afp) _ ⟨⟨_, inv_setGen I5 rfl, fun b hb => ⟨o, by rw [List.mem_singleton.mp hb]; exact ho, by rw [List.mem_singleton.mp hb]; exact List.mem_cons_self⟩⟩, fun b _ o e => e⟩ trivial⟩⟩

theorem pe_sumG {c P : Addr} {elt tg iter : Expr} {ifs : List Expr} {gpos p pos : Pos} {scope : Scope} {own : List (Str × Nat)} {wi : TI} {g : TG} {tt : TT} {te : TE} {k : Nat}
    (hr : Room k X.A) (hc : X.calm = true) (hN : X.N.Nodup) (hgl : Gl X "sum") (hm : X.mg "sum" = none) (TB : GxR.TabB X.base X.mg c P) (hcode : X.env.code = .ref c) (hi : PI X tg iter wi) (ok : BlkOk X.N X.env.scope scope own) (hcell : ∀ y ∈ scope.names, y.2 ≠ .cell) (hco : scope.isCoroutine = false) (hdot : scope.names.lookup (".0" : Str) = some NameKind.local)
    (hg : ∀ (s : Shared) (H : Hp) (C : Addr) (code : Value) (fp : List Addr), PG (gCx X s H (gEnv X scope C code) fp) tg g) (ht : ∀ (s : Shared) (H : Hp) (C : Addr) (code : Value) (fp : List Addr), PTs (gCx X s H (gEnv X scope C code) fp) ifs tt)
    (he : ∀ (s : Shared) (H : Hp) (C : Addr) (code : Value) (fp : List Addr), PE (gCx X s H (gEnv X scope C code) fp) elt te)
    (hs : ∀ v, genFold iter X.env v = pure v := by intro _; rfl)
    (hb : bootBuiltins "sum" = some (.builtin "sum") := by decide +kernel)
    (hse : starEach [.GeneratorExp elt [⟨tg, iter, ifs, 0⟩] scope gpos] X.env = (false, eval (.GeneratorExp elt [⟨tg, iter, ifs, 0⟩] scope gpos) X.env) :: starEach [] X.env := by rfl) :
    PE X (.Call (.Name "sum" p) [.GeneratorExp elt [⟨tg, iter, ifs, 0⟩] scope gpos] [] pos) (tSumG P wi g tt te (own.map (·.2))) := by
  refine ⟨fun pins s σ H Q I h => ?_⟩
  refine wpAny_Call_Name_kw (ld_blt I hgl hm hb ?_)
  refine PyProof.Rows.callWith_builtin1 ?_ hse (by rfl)
  rw [hse]
  show wpAny _ _ (spliced ((false, eval (.GeneratorExp elt [⟨tg, iter, ifs, 0⟩] scope gpos) X.env) :: backTo pos (starEach [] X.env))) _ _ s
  refine Calls.spliced_cons (gen_make (R := fun _ => True) hr hc hN TB hcode hi ok hcell hco hdot hg ht he hs I h fun X' fp a gn n H2 s5 G e1 e2 => ?_)
  refine Calls.spliced_nil ?_
  refine call_function_tree F.kind_sum F.plain_sum F.entry_sum (F.args_sum1 _) ?_
  unfold Builtin.«sum»
  simp only [List.length_cons, List.length_nil]
  rw [if_neg (by decide)]
  refine wpAny_bind (wpAny_of_eq (show Builtin.Builtins.bindParams "sum" ["start"] 0 { } = pure [none] from rfl) ?_)
  refine wpAny_bind (wpAny_pyIter_gen G.gen ?_)
  refine wpAny_bind (wpAny_mkInt ?_)
  refine wpAny_bind (wpAny_pure ?_)
  simp only [List.forIn_cons, List.forIn_nil]
  refine wpAny_bind (wpAny_bind (wpAny_bind (wpAny_isInstance (T := "int") (b := false) (typeIs_int _ _ _) PySem.sub_int_str ?_)))
  simp only [Bool.false_eq_true, if_false]
  refine wpAny_pure (wpAny_bind (wpAny_bind (wpAny_isInstance (T := "int") (b := false) (typeIs_int _ _ _) PySem.sub_int_bytes ?_)))
  simp only [Bool.false_eq_true, if_false]
  refine wpAny_pure (wpAny_bind (wpAny_bind (wpAny_isInstance (T := "int") (b := false) (typeIs_int _ _ _) PySem.sub_int_bytearray ?_)))
  simp only [Bool.false_eq_true, if_false]
  refine wpAny_pure (wpAny_pure ?_)
  refine wpAny_bind (wpAny_newObj_type ?_)
  obtain ⟨o, ho, I5⟩ := G.inv
  obtain ⟨gs, hgs, hgoes⟩ := G.goes
  have zok : ZOk X' fp a s5.heap.objs.size := by
    refine ⟨G.sz, Nat.ne_of_gt G.loc, fun z => Nat.lt_irrefl _ (G.fs _ z), fun x c e => Nat.ne_of_lt (G.cells x c e), Nat.ne_of_gt (Heap.lt_size ho), fun z => Nat.lt_irrefl _ (G.fpl _ z), G.afp, G.pn⟩
  generalize hs6 : ({ s5 with heap := s5.heap.push { cls := .type "list", data := .seq ([Value.int 0 s5.toks] : List Value).toArray }, toks := s5.toks + 1 } : Shared) = s6
  have hh6 : s6.heap = s5.heap.push { cls := .type "list", data := .seq ([Value.int 0 s5.toks] : List Value).toArray } := by rw [← hs6]
  have kp : ∀ b u, s5.heap.get? b = some u → s6.heap.get? b = some u := fun b u e => by rw [hh6]; exact Heap.get?_push_of_some _ e
  have I6 : Inv X' [(a, o)] (wipe σ (own.map (·.2))) H2 s6 := by
    rw [← hs6]
    exact I5.kept (t' := s5.toks + 1) fun b u e => Heap.get?_push_of_some _ e
  have hZ : s6.heap.get? s5.heap.objs.size = some { cls := .type "list", data := .seq ([Value.int 0 s5.toks] : List Value).toArray } := by
    rw [hh6]; exact Heap.get?_push_size _ rfl
  have I7 : Inv X' [(a, o), (s5.heap.objs.size, { cls := .type "list", data := .seq ([Value.int 0 s5.toks] : List Value).toArray })] (wipe σ (own.map (·.2))) H2 s6 := I6.pins_of fun p hp => by
    rcases List.mem_cons.mp hp with hp | hp
    · exact I6.pin p (List.mem_append_right _ (by rw [hp]; exact List.mem_cons_self))
    · rw [List.mem_singleton.mp hp]
      exact ⟨hZ, I5.hok.fresh (Nat.le_refl _), zok.loc, zok.fs, fun v q => by cases q⟩
  have hgn : s6.gens = s5.gens := by rw [← hs6]
  refine wpAny_pure ⟨plainId_quiet F.plain_sum_loop _, ?_⟩
  refine sum_loop (Z := s5.heap.objs.size) (Fin := fun t H => Q (.int t) H) hr zok G.back (fun t H' s' tk J q => ⟨.int t, H', J, ⟨tk, rfl⟩, q⟩) n 0 s6
    ⟨G.gen.keeps kp, I6.nolimit, by rw [hgn]; exact G.gens, ⟨s5.toks, 0, hZ⟩, gs, by rw [hgn]; exact hgs, hgoes [a, s5.heap.objs.size] (TotAt s5.heap.objs.size) (fun b hb => ?_) _ ⟨⟨_, inv_setGen I7 rfl, fun b hb => ?_⟩, fun b _ o e => kp b o e⟩ ⟨s5.toks, 0, hZ⟩⟩
  · rcases List.mem_cons.mp hb with hb | hb
    · rw [hb]; exact G.afp
    · rw [List.mem_singleton.mp hb]; exact zok.zfp
  · rcases List.mem_cons.mp hb with hb | hb
    · rw [hb]
      exact ⟨o, kp _ _ ho, List.mem_cons_self⟩
    · rw [List.mem_singleton.mp hb]
      exact ⟨_, hZ, List.mem_cons_of_mem _ List.mem_cons_self⟩
end
end Sq
set_option Elab.async false
set_option linter.all false
set_option maxRecDepth 100000
set_option maxHeartbeats 2000000
namespace Sq
open PySem PySem.Spec PyProof.Rows L2
/-! ### what stays: all but the objects at S; tables may grow -/
structure Ext (S : List Addr) (H H' : Hp) : Prop where
  keep : ∀ b o, H b = some o → b ∉ S → (∀ ps, o ≠ .tbl ps) → H' b = some o
  tup : ∀ b xs, H b = some (.tup xs) → H' b = some (.tup xs)
  frz : ∀ b o u, H b = some (.frz o u) → H' b = some (.frz o u)
  tab : ∀ P, GxR.TabG H P → GxR.TabG H' P
section
variable {S S' : List Addr} {H H1 H2 H' : Hp} {a p : Addr} {o : HO}
theorem Ext.refl (S : List Addr) (H : Hp) : Ext S H H := ⟨fun _ _ h _ _ => h, fun _ _ h => h, fun _ _ _ h => h, fun _ h => h⟩
theorem Ext.trans (a : Ext S H H1) (b : Ext S H1 H2) : Ext S H H2 :=
  ⟨fun c o h n m => b.keep c o (a.keep c o h n m) n m, fun c o h => b.tup c o (a.tup c o h), fun c o u h => b.frz c o u (a.frz c o u h), fun P h => b.tab P (a.tab P h)⟩
theorem Ext.mono (h : Ext S H H') (s : ∀ b ∈ S, b ∈ S') : Ext S' H H' := ⟨fun b o e n m => h.keep b o e (fun z => n (s b z)) m, h.tup, h.frz, h.tab⟩
theorem Ext.any (h : Ext [] H H') : Ext S H H' := h.mono fun _ z => nomatch z
theorem Ext.new (h : H p = none) : Ext S H (upd H p o) := by
  have k : ∀ b u, H b = some u → upd H p o b = some u := fun b u e => by rw [upd_ne (ne_of_none e h)]; exact e
  exact ⟨fun b u e _ _ => k b u e, fun b u e => k b _ e, fun b u v e => k b _ e, fun P ⟨ps, e, t⟩ => ⟨ps, k P _ e, t⟩⟩
theorem Ext.set {u : HO} (hm : p ∈ S) (hp : H p = some u) (h1 : ∀ xs, u ≠ .tup xs) (h2 : ∀ o v, u ≠ .frz o v) (h3 : ∀ ps, u ≠ .tbl ps) : Ext S H (upd H p o) := by
  have k : ∀ b v, H b = some v → v ≠ u → upd H p o b = some v := fun b v e n => by
    rw [upd_ne fun z => n (by rw [z, hp] at e; exact (Option.some.inj e).symm)]; exact e
  exact ⟨fun b v e n _ => by rw [upd_ne fun z => n (by rw [z]; exact hm)]; exact e, fun b xs e => k b _ e (h1 xs).symm, fun b u v e => k b _ e (h2 u v).symm, fun P ⟨ps, e, t⟩ => ⟨ps, k P _ e (h3 ps).symm, t⟩⟩
theorem Ext.setL {xs : List V} (hm : p ∈ S) (hp : H p = some (.lst xs)) : Ext S H (upd H p o) := Ext.set hm hp (fun _ z => by cases z) (fun _ _ z => by cases z) (fun _ z => by cases z)
theorem Ext.setD {kvs : List (Key × V)} (hm : p ∈ S) (hp : H p = some (.dK kvs)) : Ext S H (upd H p o) := Ext.set hm hp (fun _ z => by cases z) (fun _ _ z => by cases z) (fun _ z => by cases z)
theorem Ext.tabbed (t : GxR.TabG H p) (h : GxR.Tabbed p H H') : Ext S H H' := by
  obtain ⟨ps, e0, _⟩ := t
  have k : ∀ b u, H b = some u → (∀ ps, u ≠ .tbl ps) → H' b = some u := fun b u e n => by
    rw [h.2 b fun z => n ps (by rw [z, e0] at e; exact (Option.some.inj e).symm)]; exact e
  refine ⟨fun b u e _ m => k b u e m, fun b xs e => k b _ e (fun _ z => by cases z), fun b u v e => k b _ e (fun _ z => by cases z), fun P t => ?_⟩
  by_cases hP : P = p
  · rw [hP]; exact h.1
  · obtain ⟨qs, e, t⟩ := t
    exact ⟨qs, by rw [h.2 P hP]; exact e, t⟩
theorem Ext.lst {xs : List V} (h : Ext S H H') (e : H a = some (.lst xs)) (n : a ∉ S) : H' a = some (.lst xs) := h.keep a _ e n fun _ z => by cases z
theorem Ext.dK {xs : List (Key × V)} (h : Ext S H H') (e : H a = some (.dK xs)) (n : a ∉ S) : H' a = some (.dK xs) := h.keep a _ e n fun _ z => by cases z
theorem Ext.lst0 {xs : List V} (h : Ext [] H H') (e : H a = some (.lst xs)) : H' a = some (.lst xs) := h.lst e (fun z => nomatch z)
theorem Ext.dK0 {xs : List (Key × V)} (h : Ext [] H H') (e : H a = some (.dK xs)) : H' a = some (.dK xs) := h.dK e (fun z => nomatch z)
theorem Ext.sqT {K : PySem.W.Frag} {xs : List V} (h : Ext S H H') (e : SqT K H a xs) : SqT K H' a xs := by
  rcases e with (e | ⟨o, e⟩) | e
  · exact .inl (.inl (h.tup _ _ e))
  · exact .inl (.inr ⟨o, h.frz _ _ _ e⟩)
  · exact .inr e
theorem Ext.sqL {K : PySem.W.Frag} {xs : List V} (h : Ext S H H') (e : SqL K H a xs) (n : a ∉ S) : SqL K H' a xs := by
  rcases e with (e | ⟨o, e⟩) | e
  · exact .inl (.inl (h.lst e n))
  · exact .inl (.inr ⟨o, h.frz _ _ _ e⟩)
  · exact .inr e
theorem Ext.sqL0 {K : PySem.W.Frag} {xs : List V} (h : Ext [] H H') (e : SqL K H a xs) : SqL K H' a xs := h.sqL e (fun z => nomatch z)
/-- what is new behind an extension was not there -/
theorem Ext.ne (h : Ext S H H') (e : H a = some o) (n : a ∉ S) (m : ∀ ps, o ≠ .tbl ps) (f : H' p = none) : a ≠ p := ne_of_none (h.keep a o e n m) f
end

/-! ### defs by their names, and their tables -/
abbrev Cal (P : Program) (w : World) (K : PySem.W.Frag) (mg : Str → Option Value) (base : Heap) (k : Nat) (x : Str) (sp : Sp) : Prop := C8.Cal P w K mg base k x sp []
/-- a def that stands under its name -/
structure Dn (K : PySem.W.Frag) (mg : Str → Option Value) (x : Str) (st : Stmt) (f : Addr) (fd : FuncData) (c : Addr) : Prop where
  ex : ∃ (oc : Value) (od : Option Addr) (kV doc pm : Value) (an : Option Addr) (ct : Value) (osl : Array (Option Value)),
    fd = PySem.W.fnOf x x (defArgs st) (defBody st) (defScope st) .none kV doc pm an (.ref c) ct ∧ K.lookup f = some ⟨oc, od, .func fd, osl⟩ ∧ PySem.W.codeIn K (.ref c) x = true
  mgf : mg x = some (.ref f)
  kp : PySem.W.keepIn K (.ref f) = true
section
variable {P : Program} {w : World} {K : PySem.W.Frag} {mg : Str → Option Value} {base : Heap} {x : Str} {st : Stmt} {f c : Addr} {fd : FuncData} {N ps : List Str} {k : Nat} {sp : Sp}
/-- the context of a def's body -/
abbrev CxD (P : Program) (w : World) (K : PySem.W.Frag) (mg : Str → Option Value) (base : Heap) (N : List Str) (x : Str) (st : Stmt) (f c : Addr) (A : Around) (outer : List Env) (s : Shared) (H : Hp) (E : XK) : Cx :=
  (cxOf CX0 P w K mg base N x (defScope st) f (.ref c) A outer s H E).nox
theorem Dn.ok (F : Dn K mg x st f fd c) (S : FnScope N ps (defScope st)) (len : ∀ vs H Q E, sp vs H Q E → vs.length = ps.length)
    (hbody : ∀ (A : Around) (outer : List Env) (s : Shared) (H : Hp) (vs : List V) (Q : VK) (E : XK), Room k (A.deeper (envOfC x (defScope st) s.heap.objs.size f (.ref c))) → sp vs H Q E →
      ∃ t, PSs (CxD P w K mg base N x st f c A outer s H E) (defBody st) t ∧ t { nx := fun _ H' => Q .non H', rt := Q } (start N vs) H) : FnOk P w K mg base CX0 (k + 1) f fd ps sp := by
  obtain ⟨oc, od, kV, doc, pm, an, ct, osl, rfl, lk, hcd⟩ := F.ex
  refine fn_of lk hcd S len fun A outer s H vs Q E hr hsp => ?_
  obtain ⟨t, h, q⟩ := hbody A outer s H vs Q E hr hsp
  exact ⟨t, h.nox, q⟩
/-- how its arguments bind -/
def BindOk (x : Str) (st : Stmt) (ps : List Str) : Prop := ∀ (kV doc pm : Value) (an : Option Addr) (cdv ct : Value) (us : List Value), us.length = ps.length → bindArgs (PySem.W.fnOf x x (defArgs st) (defBody st) (defScope st) .none kV doc pm an cdv ct) ⟨us, []⟩ = pure (ps.zip us)
theorem Dn.binds (F : Dn K mg x st f fd c) (h : BindOk x st ps) : Binds K fd ps [] := by
  obtain ⟨oc, od, kV, doc, pm, an, ct, osl, rfl, lk, hcd⟩ := F.ex
  exact .all (h kV doc pm an (.ref c) ct)
theorem Dn.cal (F : Dn K mg x st f fd c) (hb : BindOk x st ps) (S : FnScope N ps (defScope st)) (len : ∀ vs H Q E, sp vs H Q E → vs.length = ps.length)
    (hbody : ∀ (A : Around) (outer : List Env) (s : Shared) (H : Hp) (vs : List V) (Q : VK) (E : XK), Room k (A.deeper (envOfC x (defScope st) s.heap.objs.size f (.ref c))) → sp vs H Q E →
      ∃ t, PSs (CxD P w K mg base N x st f c A outer s H E) (defBody st) t ∧ t { nx := fun _ H' => Q .non H', rt := Q } (start N vs) H) : Cal P w K mg base (k + 1) x sp :=
  ⟨f, fd, ps, [], F.ok S len hbody, F.mgf, F.kp, F.binds hb, .nil⟩
/-- a def that calls itself: by its depth -/
theorem Dn.calRec {sp : Nat → Sp} (F : Dn K mg x st f fd c) (hb : BindOk x st ps) (h0 : ∀ vs H Q E, ¬ sp 0 vs H Q E) (hs : ∀ k, Cal P w K mg base k x (sp k) → FnOk P w K mg base CX0 (k + 1) f fd ps (sp (k + 1))) :
    ∀ k, Cal P w K mg base k x (sp k)
  | 0 => ⟨f, fd, ps, [], ⟨fun vs H Q E h => absurd h (h0 vs H Q E), fun A outer s H args us vs Q E _ _ _ _ h => absurd h (h0 vs H Q E)⟩, F.mgf, F.kp, F.binds hb, .nil⟩
  | k + 1 => ⟨f, fd, ps, [], hs k (Dn.calRec F hb h0 hs k), F.mgf, F.kp, F.binds hb, .nil⟩
/-- a def that calls itself from a generator expression: two levels each -/
theorem Dn.calRec2 {sp : Nat → Sp} (F : Dn K mg x st f fd c) (hb : BindOk x st ps) (h0 : ∀ vs H Q E, ¬ sp 0 vs H Q E) (h1 : ∀ vs H Q E, ¬ sp 1 vs H Q E) (hs : ∀ k, Cal P w K mg base k x (sp k) → FnOk P w K mg base CX0 (k + 2) f fd ps (sp (k + 2))) :
    ∀ k, Cal P w K mg base k x (sp k)
  | 0 => ⟨f, fd, ps, [], ⟨fun vs H Q E h => absurd h (h0 vs H Q E), fun A outer s H args us vs Q E _ _ _ _ h => absurd h (h0 vs H Q E)⟩, F.mgf, F.kp, F.binds hb, .nil⟩
  | 1 => ⟨f, fd, ps, [], ⟨fun vs H Q E h => absurd h (h1 vs H Q E), fun A outer s H args us vs Q E _ _ _ _ h => absurd h (h1 vs H Q E)⟩, F.mgf, F.kp, F.binds hb, .nil⟩
  | k + 2 => ⟨f, fd, ps, [], hs k (Dn.calRec2 F hb h0 h1 hs k), F.mgf, F.kp, F.binds hb, .nil⟩
end
theorem Room.gen {A : Around} {k : Nat} {cenv : Env} (h : Room (k + 1) A) : Room k (A.in1.in1.deeper cenv) :=
  ⟨h.hd, by have := h.dp; show A.depth + 1 + 3 * k + 5 < _; omega, by have := h.un; show A.units + 1 + 1 + 3 + 16 * k + 200 < _; omega⟩
theorem Cal.mono {P : Program} {w : World} {K : PySem.W.Frag} {mg : Str → Option Value} {base : Heap} {j k : Nat} {x : Str} {sp : Sp} (h : Cal P w K mg base j x sp) (hk : j ≤ k) : Cal P w K mg base k x sp := by
  obtain ⟨f, fd, ps, ds, F, r⟩ := h
  exact ⟨f, fd, ps, ds, ⟨F.len, fun A outer s H args us vs Q E hr => F.run A outer s H args us vs Q E (hr.mono hk)⟩, r⟩
end Sq
set_option Elab.async false
set_option linter.all false
set_option maxRecDepth 100000
set_option maxHeartbeats 2000000
namespace Sq
open PySem PySem.Spec PyProof.Rows L2
/-! ### the items of a tuple, as a function -/
def WrT (K : PySem.W.Frag) (a : Addr) (xs : List V) : Prop := ∃ (o : Obj) (its : Array Value) (n : Nat), K.lookup a = some o ∧ o.cls = .type "tuple" ∧ o.data = .seq its n ∧ its.size ≤ sizeLine ∧ Vals xs its.toList
theorem WrT.inj {K : PySem.W.Frag} {a : Addr} {xs ys : List V} (h : WrT K a xs) (h' : WrT K a ys) : xs = ys := by
  obtain ⟨o, its, n, e, _, d, _, r⟩ := h
  obtain ⟨o', its', n', e', _, d', _, r'⟩ := h'
  rw [e] at e'; cases e'
  rw [d] at d'; cases d'
  exact r.inj r'
open Classical in
noncomputable def tupF (K : PySem.W.Frag) (H : Hp) (a : Addr) : Option (List V) :=
  if h : ∃ xs, WrT K a xs then some (Classical.choose h) else match H a with
    | some (.tup xs) => some xs
    | some (.frz _ (.tup xs)) => some xs
    | _ => none
theorem tupF_wr {K : PySem.W.Frag} {H : Hp} {a : Addr} {xs : List V} (h : WrT K a xs) : tupF K H a = some xs := by
  have hx : ∃ xs, WrT K a xs := ⟨xs, h⟩
  unfold tupF
  rw [dif_pos hx]
  exact congrArg some ((Classical.choose_spec hx).inj h)
theorem tupF_sq {K : PySem.W.Frag} {H : Hp} {a : Addr} {xs : List V} (h : tupF K H a = some xs) : SqT K H a xs := by
  unfold tupF at h
  split at h
  · rename_i hx
    cases h
    exact .inr (Classical.choose_spec hx)
  · split at h
    · rename_i e; cases h; exact .inl (.inl e)
    · rename_i o _ e; cases h; exact .inl (.inr ⟨o, e⟩)
    · cases h
theorem tupF_ext {K : PySem.W.Frag} {S : List Addr} {H H' : Hp} {a : Addr} {xs : List V} (e : Ext S H H') (h : tupF K H a = some xs) : tupF K H' a = some xs := by
  unfold tupF at h ⊢
  split at h
  · rename_i hx
    rw [dif_pos hx]; exact h
  · rename_i hx
    rw [dif_neg hx]
    split at h
    · rename_i q; cases h; rw [e.tup _ _ q]
    · rename_i q; cases h; rw [e.frz _ _ _ q]
    · cases h
theorem tupF_at {K : PySem.W.Frag} {H : Hp} {p : Addr} {xs : List V} (n : K.lookup p = none) (e : H p = some (.tup xs)) : tupF K H p = some xs := by
  unfold tupF
  rw [dif_neg (fun ⟨ys, o, its, k, h, _⟩ => by rw [n] at h; cases h), e]
/-- a new tuple -/
theorem tupF_new {K : PySem.W.Frag} {H : Hp} {p : Addr} {xs : List V} (n : ∀ ys, ¬ WrT K p ys) : tupF K (upd H p (.tup xs)) p = some xs := by
  unfold tupF
  rw [dif_neg (fun ⟨ys, h⟩ => n ys h), upd_same]

/-! ### data of tuples: it never changes -/
mutual
inductive Td (K : PySem.W.Frag) (H : Hp) : V → PyData → Prop
  | non : Td K H .non .none
  | bl (b : Bool) : Td K H (.bl b) (.bool b)
  | int (i : Int) : Td K H (.int i) (.int i)
  | str (x : Str) : Td K H (.str x) (.str x)
  | tup {a : Addr} {xs : List V} {ds : List PyData} : tupF K H a = some xs → TdAll K H xs ds → Td K H (.ref a) (.tuple ds)
inductive TdAll (K : PySem.W.Frag) (H : Hp) : List V → List PyData → Prop
  | nil : TdAll K H [] []
  | cons {v : V} {vs : List V} {d : PyData} {ds : List PyData} : Td K H v d → TdAll K H vs ds → TdAll K H (v :: vs) (d :: ds)
end
mutual
theorem Td.ext {K : PySem.W.Frag} {S : List Addr} {H H' : Hp} {v : V} {d : PyData} (e : Ext S H H') : Td K H v d → Td K H' v d
  | .non => .non
  | .bl b => .bl b
  | .int i => .int i
  | .str x => .str x
  | .tup h r => .tup (tupF_ext e h) (TdAll.ext e r)
theorem TdAll.ext {K : PySem.W.Frag} {S : List Addr} {H H' : Hp} {vs : List V} {ds : List PyData} (e : Ext S H H') : TdAll K H vs ds → TdAll K H' vs ds
  | .nil => .nil
  | .cons h r => .cons (Td.ext e h) (TdAll.ext e r)
end
mutual
theorem Td.dp {K : PySem.W.Frag} {H : Hp} {v : V} {d : PyData} : Td K H v d → Dp K H v d
  | .non => .non
  | .bl b => .bl b
  | .int i => .int i
  | .str x => .str x
  | .tup h r => .tup (tupF_sq h) (TdAll.dp r)
theorem TdAll.dp {K : PySem.W.Frag} {H : Hp} {vs : List V} {ds : List PyData} : TdAll K H vs ds → DpAll K H vs ds
  | .nil => .nil
  | .cons h r => .cons (Td.dp h) (TdAll.dp r)
end
theorem TdAll.length {K : PySem.W.Frag} {H : Hp} : ∀ {vs : List V} {ds : List PyData}, TdAll K H vs ds → vs.length = ds.length
  | _, _, .nil => rfl
  | _, _, .cons _ r => congrArg Nat.succ r.length
theorem TdAll.get {K : PySem.W.Frag} {H : Hp} : ∀ {vs : List V} {ds : List PyData} {i : Nat} {v : V}, TdAll K H vs ds → vs[i]? = some v → ∃ d, ds[i]? = some d ∧ Td K H v d
  | _, _, 0, _, .cons h _, e => ⟨_, rfl, by cases e; exact h⟩
  | _, _, _ + 1, _, .cons _ r, e => r.get (by simpa using e)
theorem TdAll.getD {K : PySem.W.Frag} {H : Hp} : ∀ {vs : List V} {ds : List PyData} {i : Nat} {d : PyData}, TdAll K H vs ds → ds[i]? = some d → ∃ v, vs[i]? = some v ∧ Td K H v d
  | _, _, 0, _, .cons h _, e => ⟨_, rfl, by cases e; exact h⟩
  | _, _, _ + 1, _, .cons _ r, e => r.getD (by simpa using e)
theorem TdAll.append {K : PySem.W.Frag} {H : Hp} : ∀ {vs ws : List V} {ds es : List PyData}, TdAll K H vs ds → TdAll K H ws es → TdAll K H (vs ++ ws) (ds ++ es)
  | _, _, _, _, .nil, s => s
  | _, _, _, _, .cons h r, s => .cons h (r.append s)
theorem TdAll.drop {K : PySem.W.Frag} {H : Hp} : ∀ (n : Nat) {vs : List V} {ds : List PyData}, TdAll K H vs ds → TdAll K H (vs.drop n) (ds.drop n)
  | 0, _, _, r => r
  | _ + 1, _, _, .nil => .nil
  | n + 1, _, _, .cons _ r => r.drop n
theorem TdAll.take {K : PySem.W.Frag} {H : Hp} : ∀ (n : Nat) {vs : List V} {ds : List PyData}, TdAll K H vs ds → TdAll K H (vs.take n) (ds.take n)
  | 0, _, _, _ => .nil
  | _ + 1, _, _, .nil => .nil
  | n + 1, _, _, .cons h r => .cons h (r.take n)
theorem TdAll.snoc {K : PySem.W.Frag} {H : Hp} {vs : List V} {ds : List PyData} {v : V} {d : PyData} (r : TdAll K H vs ds) (h : Td K H v d) : TdAll K H (vs ++ [v]) (ds ++ [d]) := r.append (.cons h .nil)
/-- what is written is not tracked -/
def NK (K : PySem.W.Frag) (H : Hp) : Prop := ∀ b o, K.lookup b = some o → H b = none
theorem inv_nk {X : Cx} {pins : List (Addr × Obj)} {σ : L2.St} {H : Hp} {s : Shared} (I : Inv X pins σ H s) : NK X.K H := fun b o e => (I.bs b o (I.ok.mod.kin b o e)).2
theorem NK.at {K : PySem.W.Frag} {H : Hp} {p : Addr} {o : HO} (n : NK K H) (e : H p = some o) : K.lookup p = none := by
  cases h : K.lookup p with
  | none => rfl
  | some u => rw [n p u h] at e; cases e
theorem ep_nk {X : Cx} {pins : List (Addr × Obj)} {σ : L2.St} {Q : VK} {u : Value} {s : Shared} (h : EP X pins σ (fun v H => NK X.K H → Q v H) u s) : EP X pins σ Q u s :=
  let ⟨v, H, I, r, q⟩ := h; ⟨v, H, I, r, q (inv_nk I)⟩
theorem PE.nk {X : Cx} {e : Expr} {t : TE} (h : PE X e t) : PE X e (fun σ H Q => t σ H fun v H' => NK X.K H' → Q v H') :=
  ⟨fun pins s σ H Q I q => thn (h.run pins s σ H _ I q) fun _ _ x => ep_nk x⟩
theorem OpR.nk {X : Cx} {f : Value → Value → Sem Value} {r : R2} (h : OpR X f r) : OpR X f (fun x y H Q => r x y H fun v H' => NK X.K H' → Q v H') :=
  fun pins s σ H x y v u Q I rx ry q => thn (h pins s σ H x y v u _ I rx ry q) fun _ _ x => ep_nk x
theorem CallR.nk {X : Cx} {f : Value} {r : List V → Hp → VK → Prop} (h : CallR X f r) : CallR X f (fun xs H Q => r xs H fun v H' => NK X.K H' → Q v H') :=
  fun pins s σ H xs us Q I rx q => thn (h pins s σ H xs us _ I rx q) fun _ _ x => ep_nk x
theorem SlR.nk {X : Cx} {r : V → Option Int → Option Int → Hp → VK → Prop} (h : SlR X r) : SlR X (fun x lo hi H Q => r x lo hi H fun v H' => NK X.K H' → Q v H') :=
  fun pins s σ H x v vl vu lo hi sl Q I rx hs pl pu q => by
    obtain ⟨T, id, e1, e2, e3⟩ := h pins s σ H x v vl vu lo hi sl _ I rx hs pl pu q
    exact ⟨T, id, e1, e2, thn e3 fun _ _ x => ep_nk x⟩
theorem MtR.nk {X : Cx} {id : String} {r : V → List V → Hp → VK → Prop} (h : MtR X id r) : MtR X id (fun x xs H Q => r x xs H fun v H' => NK X.K H' → Q v H') :=
  fun pins s σ H x xs v us Q I rx rv q => thn (h pins s σ H x xs v us _ I rx rv q) fun _ _ x => ep_nk x

/-! ### rules that speak of tupF, of what stays, of tracked lists -/
section
variable {X : Cx}
/-- (a, b, ..) -/
def tTupF (K : PySem.W.Frag) (t : TA) : TE := fun σ H Q => t σ H fun xs H1 => xs.length ≤ sizeLine ∧ ∀ p H2, Ext [] H1 H2 → tupF K H2 p = some xs → Q (.ref p) H2
theorem pe_tupF {es : List Expr} {x1 : Nat} {pos : Pos} {t : TA} (h : PA X es t) : PE X (.Tuple es x1 pos) (tTupF X.K t) := by
  refine ⟨fun pins s σ H Q I hq => ?_⟩
  refine wpAny_Tuple_spliced (thn (h.run pos pins s σ H _ I hq) fun us s1 ⟨xs, H1, I1, r, z, q⟩ => ⟨by rw [← r.length]; exact z, ?_⟩)
  have hf : H1 s1.heap.objs.size = none := I1.hok.fresh (Nat.le_refl _)
  refine ep_nk ⟨.ref s1.heap.objs.size, upd H1 s1.heap.objs.size (.tup xs), I1.laid (t' := s1.toks) (fun b u e => Heap.get?_push_of_some _ e) (Nat.le_refl _) ?_, rfl, fun n => q _ _ (Ext.new hf) (tupF_at (NK.at n upd_same) upd_same)⟩
  exact ⟨z, us, r, ⟨_, Heap.get?_push_size _ rfl, rfl, _, rfl⟩⟩
/-- [a, b, ..] -/
def tLstF (t : TA) : TE := fun σ H Q => t σ H fun xs H1 => xs.length ≤ sizeLine ∧ ∀ p H2, H1 p = none → Ext [] H1 H2 → H2 p = some (.lst xs) → Q (.ref p) H2
theorem pe_lstF {es : List Expr} {pos : Pos} {t : TA} (h : PA X es t) : PE X (.List es pos) (tLstF t) := by
  refine ⟨fun pins s σ H Q I hq => ?_⟩
  refine wpAny_List_spliced (thn (h.run pos pins s σ H _ I hq) fun us s1 ⟨xs, H1, I1, r, z, q⟩ => ⟨by rw [← r.length]; exact z, ?_⟩)
  have hf : H1 s1.heap.objs.size = none := I1.hok.fresh (Nat.le_refl _)
  refine ⟨.ref s1.heap.objs.size, upd H1 s1.heap.objs.size (.lst xs), I1.laid (t' := s1.toks) (fun b u e => Heap.get?_push_of_some _ e) (Nat.le_refl _) ?_, rfl, q _ _ hf (Ext.new hf) upd_same⟩
  exact ⟨z, us, 0, r, Heap.get?_push_size _ rfl⟩
/-- t[i], xs[i] -/
def rIxF (K : PySem.W.Frag) : R2 := fun x y H Q => ∃ p xs i v, x = .ref p ∧ y = .int i ∧ tupF K H p = some xs ∧ atI xs i = some v ∧ Q v H
theorem ix_tupF : IxR X (rIxF X.K) := fun value slice pins s σ H x y v u Q I rx ry ⟨p, xs, i, z, e1, e2, h, e3, q⟩ hs => ix_tup value slice pins s σ H x y v u Q I rx ry ⟨p, xs, i, z, e1, e2, tupF_sq h, e3, q⟩ hs
def rIxG : R2 := fun x y H Q => ∃ p xs i v, x = .ref p ∧ y = .int i ∧ H p = some (.lst xs) ∧ atI xs i = some v ∧ Q v H
theorem ix_lstF : IxR X rIxG := fun value slice pins s σ H x y v u Q I rx ry ⟨p, xs, i, z, e1, e2, h, e3, q⟩ hs => ix_list value slice pins s σ H x y v u Q I rx ry ⟨p, xs, i, z, e1, e2, SqL.of h, e3, q⟩ hs
/-- xs[i] = v -/
def rSetF : V → V → V → Hp → (Hp → Prop) → Prop := fun o i v H Q => ∃ p xs k j, o = .ref p ∧ i = .int k ∧ H p = some (.lst xs) ∧ ixN xs.length k = some j ∧ ∀ H2, Ext [p] H H2 → H2 p = some (.lst (xs.set j v)) → Q H2
theorem set_lstF : PSet X rSetF := fun pins s σ H o i v ov iv u Q I ro ri rv ⟨p, xs, k, j, e1, e2, h, e3, q⟩ => set_list pins s σ H o i v ov iv u Q I ro ri rv ⟨p, xs, k, j, e1, e2, h, e3, q _ (Ext.setL List.mem_cons_self h) upd_same⟩
/-- t[lo:hi] -/
def rSlF (K : PySem.W.Frag) : V → Option Int → Option Int → Hp → VK → Prop := fun x lo hi H Q => ∃ a xs, x = .ref a ∧ tupF K H a = some xs ∧ ∀ p H2, Ext [] H H2 → tupF K H2 p = some (cutV xs lo hi) → Q (.ref p) H2
theorem cutV_whole {xs : List V} {lo hi : Option Int} (h : HT.sIx xs.length 0 lo = 0 ∧ HT.sIx xs.length xs.length hi = xs.length) : cutV xs lo hi = xs := by
  unfold cutV
  rw [h.1, h.2, List.drop_zero, Nat.sub_zero, List.take_length]
theorem sl_tupF : SlR X (rSlF X.K) := fun pins s σ H x v vl vu lo hi sl Q I rx hs pl pu ⟨a, xs, e1, h, q⟩ =>
  (SlR.nk sl_tupA) pins s σ H x v vl vu lo hi sl Q I rx hs pl pu ⟨a, xs, e1, tupF_sq h, fun hw _ => q a H (Ext.refl _ _) (by rw [cutV_whole hw]; exact h), fun _ p hp n => q p _ (Ext.new hp) (tupF_at (NK.at n upd_same) upd_same)⟩
/-- t + u -/
def rCatF (K : PySem.W.Frag) : R2 := fun x y H Q => ∃ a b xs ys, x = .ref a ∧ y = .ref b ∧ tupF K H a = some xs ∧ tupF K H b = some ys ∧ xs.length + ys.length ≤ sizeLine ∧ ∀ p H2, Ext [] H H2 → tupF K H2 p = some (xs ++ ys) → Q (.ref p) H2
theorem op_catF : OpR X (binaryOp .Add) (rCatF X.K) := fun pins s σ H x y v u Q I rx ry ⟨a, b, xs, ys, e1, e2, ha, hb, hz, q⟩ =>
  (OpR.nk op_catA) pins s σ H x y v u Q I rx ry ⟨a, b, xs, ys, e1, e2, tupF_sq ha, tupF_sq hb, hz, fun h0 _ => q b H (Ext.refl _ _) (by rw [h0]; exact hb), fun _ h0 _ => q a H (Ext.refl _ _) (by rw [h0, List.append_nil]; exact ha), fun _ _ p hp n => q p _ (Ext.new hp) (tupF_at (NK.at n upd_same) upd_same)⟩
/-- xs + ys -/
def rCatL : R2 := fun x y H Q => ∃ l b xs zs, x = .ref l ∧ y = .ref b ∧ H l = some (.lst xs) ∧ H b = some (.lst zs) ∧ xs.length + zs.length ≤ sizeLine ∧ ∀ p H2, H p = none → Ext [] H H2 → H2 p = some (.lst (xs ++ zs)) → Q (.ref p) H2
theorem op_catL : OpR X (binaryOp .Add) rCatL := fun pins s σ H x y v u Q I rx ry ⟨a, b, xs, ys, e1, e2, ha, hb, hz, q⟩ => op_cat pins s σ H x y v u Q I rx ry ⟨a, b, xs, ys, e1, e2, ha, hb, hz, fun p hp => q p _ hp (Ext.new hp) upd_same⟩
/-- tuple(a list) -/
def rTupL (K : PySem.W.Frag) : List V → Hp → VK → Prop := fun xs H Q => ∃ p ys, xs = [.ref p] ∧ H p = some (.lst ys) ∧ ∀ q H2, Ext [] H H2 → tupF K H2 q = some ys → Q (.ref q) H2
theorem call_tupleL : CallR X (.type "tuple") (rTupL X.K) := fun pins s σ H xs us Q I r ⟨p, ys, e, h, q⟩ =>
  (CallR.nk call_tuple_of) pins s σ H xs us Q I r ⟨p, ys, e, .inl ⟨SqL.of h, fun l hl n => q l _ (Ext.new hl) (tupF_at (NK.at n upd_same) upd_same)⟩⟩
/-- list(a tuple), list(a list) -/
def rListT (K : PySem.W.Frag) : List V → Hp → VK → Prop := fun xs H Q => ∃ p ys, xs = [.ref p] ∧ tupF K H p = some ys ∧ ∀ q H2, H q = none → Ext [] H H2 → H2 q = some (.lst ys) → Q (.ref q) H2
theorem call_listT : CallR X (.type "list") (rListT X.K) := fun pins s σ H xs us Q I r ⟨p, ys, e, h, q⟩ => call_list_of pins s σ H xs us Q I r ⟨p, ys, e, .inr (tupF_sq h), fun l hl => q l _ hl (Ext.new hl) upd_same⟩
def rListL : List V → Hp → VK → Prop := fun xs H Q => ∃ p ys, xs = [.ref p] ∧ H p = some (.lst ys) ∧ ∀ q H2, H q = none → Ext [] H H2 → H2 q = some (.lst ys) → Q (.ref q) H2
theorem call_listL : CallR X (.type "list") rListL := fun pins s σ H xs us Q I r ⟨p, ys, e, h, q⟩ => call_list_of pins s σ H xs us Q I r ⟨p, ys, e, .inl (SqL.of h), fun l hl => q l _ hl (Ext.new hl) upd_same⟩
/-- len -/
def rLenT (K : PySem.W.Frag) : List V → Hp → VK → Prop := fun xs H Q => ∃ p ys, xs = [.ref p] ∧ tupF K H p = some ys ∧ Q (.int ys.length) H
theorem call_lenT : CallR X (.builtin "len") (rLenT X.K) := fun pins s σ H xs us Q I r ⟨p, ys, e, h, q⟩ => call_len_seq pins s σ H xs us Q I r ⟨p, ys, e, .inr (tupF_sq h), q⟩
def rLenL : List V → Hp → VK → Prop := fun xs H Q => ∃ p ys, xs = [.ref p] ∧ H p = some (.lst ys) ∧ Q (.int ys.length) H
theorem call_lenL : CallR X (.builtin "len") rLenL := fun pins s σ H xs us Q I r ⟨p, ys, e, h, q⟩ => call_len_seq pins s σ H xs us Q I r ⟨p, ys, e, .inl (SqL.of h), q⟩
/-- a, b = t -/
def gTupF (K : PySem.W.Frag) (n : Nat) (t : TGs) : TG := fun v σ H Q => ∃ a xs, v = .ref a ∧ tupF K H a = some xs ∧ xs.length = n ∧ t xs σ H Q
theorem pg_tupF {es : List Expr} {k : Nat} {pos : Pos} {t : TGs} {n : Nat} (hc : X.calm = true) (h : PGs X es t)
    (hn : (assignEach es X.env).length = n := by rfl) (hst : (assignEach es X.env).findIdx? (·.1) = none := by rfl) : PG X (.Tuple es k pos) (gTupF X.K n t) :=
  ⟨fun pins s σ H v u Q I r ⟨a, xs, e1, hq, hl, hw⟩ => (pg_tup hc h hn hst).run pins s σ H v u Q I r ⟨a, xs, e1, tupF_sq hq, hl, hw⟩⟩
/-- a tuple is walked -/
def iTupF (K : PySem.W.Frag) (tl : TE) : TI := fun σ H R => tl σ H fun x H1 => ∃ a xs, x = .ref a ∧ tupF K H1 a = some xs ∧ R (Itt K a) H1
theorem pi_tupF {tg l : Expr} {tl : TE} (hl : PE X l tl) : PI X tg l (iTupF X.K tl) := by
  refine ⟨fun pins s σ H R I h => ?_⟩
  refine thn (hl.run pins s σ H _ I h) fun v s1 ⟨x, H1, I1, r1, q1⟩ => ?_
  obtain ⟨a, xs, e, hq, q⟩ := q1
  subst e
  cases r1
  obtain ⟨its, rv, p, hz⟩ := I1.tuple (tupF_sq hq)
  refine wpAny_pyIter_tuple (show s1.heap.IsTuple a its.toArray from p) ?_
  refine ⟨s1.heap.objs.size, [s1.heap.objs.size], _, _, H1, rfl, I1.kept (t' := s1.toks) fun b o e => Heap.get?_push_of_some _ e, turn_tuple a _, ⟨_, Heap.get?_push_size _ rfl, rfl, rfl⟩, fun b hb => ?_, q⟩
  have e : b = s1.heap.objs.size := by simpa using hb
  subst e
  exact I1.fpOk (Nat.le_refl _) (I1.hok.fresh (Nat.le_refl _))
/-- a list is walked -/
def iLstF (tl : TE) : PySem.W.Frag → TI := fun K σ H R => tl σ H fun x H1 => ∃ a xs, x = .ref a ∧ H1 a = some (.lst xs) ∧ R (Itl K a) H1
theorem pi_lstF {tg l : Expr} {tl : TE} (hl : PE X l tl) : PI X tg l (iLstF tl X.K) := by
  refine ⟨fun pins s σ H R I h => ?_⟩
  refine thn (hl.run pins s σ H _ I h) fun v s1 ⟨x, H1, I1, r1, q1⟩ => ?_
  obtain ⟨a, xs, e, hq, q⟩ := q1
  subst e
  cases r1
  obtain ⟨its, rv, p, hz⟩ := I1.list (SqL.of hq)
  refine wpAny_pyIter_list p.isList ?_
  refine ⟨s1.heap.objs.size, [s1.heap.objs.size], _, _, H1, rfl, I1.kept (t' := s1.toks) fun b o e => Heap.get?_push_of_some _ e, turn_list a _, ⟨_, Heap.get?_push_size _ rfl, rfl, rfl⟩, fun b hb => ?_, q⟩
  have e : b = s1.heap.objs.size := by simpa using hb
  subst e
  exact I1.fpOk (Nat.le_refl _) (I1.hok.fresh (Nat.le_refl _))
/-- xs.append(y), xs.extend(ys), xs.pop() -/
def rAppF : V → List V → Hp → VK → Prop := fun x vs H Q => ∃ l xs y, x = .ref l ∧ vs = [y] ∧ H l = some (.lst xs) ∧ xs.length < sizeLine ∧ ∀ H2, Ext [l] H H2 → H2 l = some (.lst (xs ++ [y])) → Q .non H2
theorem mt_appF : MtM X "list.append" rAppF := fun pins s σ H x xs v us Q I rx rv ⟨l, ys, y, e1, e2, h, hz, q⟩ => mt_append pins s σ H x xs v us Q I rx rv ⟨l, ys, y, e1, e2, h, hz, q _ (Ext.setL List.mem_cons_self h) upd_same⟩
def rExtF : V → List V → Hp → VK → Prop := fun x vs H Q => ∃ l b xs zs, x = .ref l ∧ vs = [.ref b] ∧ H l = some (.lst xs) ∧ H b = some (.lst zs) ∧ xs.length + zs.length ≤ sizeLine ∧ ∀ H2, Ext [l] H H2 → H2 l = some (.lst (xs ++ zs)) → Q .non H2
theorem mt_extF : MtM X "list.extend" rExtF := fun pins s σ H x xs v us Q I rx rv ⟨l, b, ys, zs, e1, e2, h, hb, hz, q⟩ => mt_extend pins s σ H x xs v us Q I rx rv ⟨l, b, ys, zs, e1, e2, h, hb, hz, q _ (Ext.setL List.mem_cons_self h) upd_same⟩
def rPopF : V → List V → Hp → VK → Prop := fun x vs H Q => ∃ l xs y, x = .ref l ∧ vs = [] ∧ H l = some (.lst xs) ∧ xs[xs.length - 1]? = some y ∧ ∀ H2, Ext [l] H H2 → H2 l = some (.lst xs.dropLast) → Q y H2
theorem mt_popF : MtM X "list.pop" rPopF := fun pins s σ H x xs v us Q I rx rv ⟨l, ys, y, e1, e2, h, hy, q⟩ => mt_pop pins s σ H x xs v us Q I rx rv ⟨l, ys, y, e1, e2, h, hy, q _ (Ext.setL List.mem_cons_self h) upd_same⟩
theorem tyV_lst {K : PySem.W.Frag} {H : Hp} {p : Addr} {xs : List V} (h : H p = some (.lst xs)) : tyV K "list" (.ref p) H := .inl ⟨rfl, _, SqL.of h⟩
/-- a == b, a != b of data of tuples -/
def rEqF (K : PySem.W.Frag) (neg : Bool) : R2 := fun x y H Q => ∃ d e, Td K H x d ∧ Td K H y e ∧ SeqAt.shaped d = true ∧ SeqAt.shaped e = true ∧ Q (.bl (if neg then !PyData.eqv d e else PyData.eqv d e)) H
theorem op_eqF (hu : X.A.units + 64 < cLine) : OpR X (compareOp .Eq) (rEqF X.K false) := fun pins s σ H x y v u Q I rx ry ⟨d, e, h1, h2, h3, h4, q⟩ => op_eqD hu pins s σ H x y v u Q I rx ry ⟨d, e, h1.dp, h2.dp, h3, h4, q⟩
theorem op_neF (hu : X.A.units + 64 < cLine) : OpR X (compareOp .NotEq) (rEqF X.K true) := fun pins s σ H x y v u Q I rx ry ⟨d, e, h1, h2, h3, h4, q⟩ => op_neD hu pins s σ H x y v u Q I rx ry ⟨d, e, h1.dp, h2.dp, h3, h4, q⟩
end
end Sq
set_option Elab.async false
set_option linter.all false
set_option maxRecDepth 100000
set_option maxHeartbeats 2000000
namespace Sq
open PySem PySem.Spec PyProof.Rows L2
/-! ### small equivalences for readings -/
theorem ex1 {α : Type} {a : α} {p : α → Prop} : (∃ x, a = x ∧ p x) ↔ p a := ⟨fun ⟨x, e, h⟩ => e ▸ h, fun h => ⟨a, rfl, h⟩⟩
theorem ex1' {α : Type} {a : α} {p : α → Prop} : (∃ x, x = a ∧ p x) ↔ p a := ⟨fun ⟨x, e, h⟩ => e ▸ h, fun h => ⟨a, rfl, h⟩⟩
theorem exI {a : Int} {p : Int → Prop} : (∃ x, V.int a = V.int x ∧ p x) ↔ p a := ⟨fun ⟨x, e, h⟩ => by cases e; exact h, fun h => ⟨a, rfl, h⟩⟩
theorem exI2 {a b : Int} {p : Int → Int → Prop} : (∃ x y, V.int a = V.int x ∧ V.int b = V.int y ∧ p x y) ↔ p a b := ⟨fun ⟨x, y, e, e', h⟩ => by cases e; cases e'; exact h, fun h => ⟨a, b, rfl, rfl, h⟩⟩
theorem exB {a : Bool} {p : Bool → Prop} : (∃ x, V.bl a = V.bl x ∧ p x) ↔ p a := ⟨fun ⟨x, e, h⟩ => by cases e; exact h, fun h => ⟨a, rfl, h⟩⟩
theorem exS {a : Str} {p : Str → Prop} : (∃ x, V.str a = V.str x ∧ p x) ↔ p a := ⟨fun ⟨x, e, h⟩ => by cases e; exact h, fun h => ⟨a, rfl, h⟩⟩
theorem exR {a : Addr} {p : Addr → Prop} : (∃ x, V.ref a = V.ref x ∧ p x) ↔ p a := ⟨fun ⟨x, e, h⟩ => by cases e; exact h, fun h => ⟨a, rfl, h⟩⟩
theorem exSl {v : V} {p : V → Prop} : (∃ x, some (some v) = some (some x) ∧ p x) ↔ p v := ⟨fun ⟨x, e, h⟩ => by cases e; exact h, fun h => ⟨v, rfl, h⟩⟩
section
variable {α : Type} {a b c d : α} {r : List α}
theorem at_ix {xs : List α} {k : Nat} (h : k < xs.length) : atI xs ((k : Nat) : Int) = xs[k]? := by
  unfold atI ixN
  rw [if_pos (by omega), if_pos (by omega)]
  rfl
theorem atI_0 : atI (a :: r) (0 : Int) = some a := at_ix (k := 0) (by simp)
theorem atI_1 : atI (a :: b :: r) (1 : Int) = some b := at_ix (k := 1) (by simp)
theorem atI_2 : atI (a :: b :: c :: r) (2 : Int) = some c := at_ix (k := 2) (by simp)
theorem atI_3 : atI (a :: b :: c :: d :: r) (3 : Int) = some d := at_ix (k := 3) (by simp)
theorem ixN_k {n k : Nat} (h : k < n) : ixN n ((k : Nat) : Int) = some k := by
  unfold ixN
  rw [if_pos (by omega), if_pos (by omega)]
  rfl
theorem ixN_0 {n : Nat} : ixN (n + 1) (0 : Int) = some 0 := ixN_k (k := 0) (by omega)
theorem ixN_1 {n : Nat} : ixN (n + 1 + 1) (1 : Int) = some 1 := ixN_k (k := 1) (by omega)
theorem ixN_2 {n : Nat} : ixN (n + 1 + 1 + 1) (2 : Int) = some 2 := ixN_k (k := 2) (by omega)
end
theorem cutV_from {xs : List V} {k : Nat} : cutV xs (some ((k : Nat) : Int)) none = xs.drop k := by
  unfold cutV
  rw [HT.sIx_nat, HT.sIx_none]
  by_cases h : k ≤ xs.length
  · rw [Nat.min_eq_left h, ← List.length_drop, List.take_length]
  · rw [Nat.min_eq_right (by omega), List.drop_eq_nil_of_le (by omega), List.drop_eq_nil_of_le (by omega), List.take_nil]
theorem cutV_to {xs : List V} {k : Nat} : cutV xs none (some ((k : Nat) : Int)) = xs.take k := by
  unfold cutV
  rw [HT.sIx_nat, HT.sIx_none, List.drop_zero, Nat.sub_zero]
  by_cases h : k ≤ xs.length
  · rw [Nat.min_eq_left h]
  · rw [Nat.min_eq_right (by omega), List.take_length, List.take_of_length_le (by omega)]
theorem cutV_1 {x : V} {xs : List V} : cutV (x :: xs) (some 1) none = xs := cutV_from (k := 1)
theorem cutV_2 {x y : V} {xs : List V} : cutV (x :: y :: xs) (some 2) none = xs := cutV_from (k := 2)
end Sq
set_option Elab.async false
set_option linter.all false
set_option maxRecDepth 100000
set_option maxHeartbeats 2000000
namespace Sq
open PySem PySem.Spec PyProof.Rows L2
/-! ### a list made by a comprehension -/
/-- behind the walked thing's making -/
def LcB (J : It) (g : TG) (tt : TT) (te : TE) (vs : List Nat) (σ : L2.St) (H1 : Hp) (Q : VK) : Prop := ∀ D, H1 D = none → ∃ W : Nat → Nat → Hp → Prop, (∃ m, W 0 m (upd H1 D (.lst []))) ∧ ∀ i m H, W i m H →
  (J.stop i H ∧ Q (.ref D) H) ∨ (J.go i H ∧ ∃ Nx : Hp → Prop, (∀ H', Nx H' → ∃ m', m' < m ∧ W (i + 1) m' H') ∧ ∀ x H', J.yld i H x H' → g x (wipe σ vs) H' fun σ2 H2 => wipe σ2 vs = wipe σ vs ∧ tt σ2 H2 fun b H3 =>
    if b = true then te σ2 H3 fun y H4 => ∃ acc, H4 D = some (.lst acc) ∧ acc.length < sizeLine ∧ Nx (upd H4 D (.lst (acc ++ [y]))) else Nx H3)
def tLcF (wi : TI) (g : TG) (tt : TT) (te : TE) (vs : List Nat) : TE := fun σ H Q => wi σ H fun J H1 => LcB J g tt te vs σ H1 Q
theorem pe_lcF {X : Cx} {elt tg iter : Expr} {ifs : List Expr} {scope : Scope} {own : List (Str × Nat)} {pos : Pos} {wi : TI} {g : TG} {tt : TT} {te : TE} (hc : X.calm = true) (hN : X.N.Nodup) (hi : PI X tg iter wi) (ok : BlkOk X.N X.env.scope scope own)
    (hg : ∀ (s : Shared) (H : Hp) (C : Addr) (cl : List (Str × Addr)) (fp : List Addr), PG (X.blk s H scope (compEnvC scope cl C X.env) fp) tg g) (ht : ∀ (s : Shared) (H : Hp) (C : Addr) (cl : List (Str × Addr)) (fp : List Addr), PTs (X.blk s H scope (compEnvC scope cl C X.env) fp) ifs tt)
    (he : ∀ (s : Shared) (H : Hp) (C : Addr) (cl : List (Str × Addr)) (fp : List Addr), PE (X.blk s H scope (compEnvC scope cl C X.env) fp) elt te) (hs : ∀ x, foldedSetIterable iter X.env x = pure x := by intro _; rfl) :
    PE X (.ListComp elt [⟨tg, iter, ifs, 0⟩] scope pos) (tLcF wi g tt te (own.map (·.2))) := pe_lc hc hN hi ok hg ht he hs
theorem ps_setLcF {X : Cx} {i : Nat} {y : Str} {py : Pos} {elt tg iter : Expr} {ifs : List Expr} {scope : Scope} {own : List (Str × Nat)} {pos spos : Pos} {wi : TI} {g : TG} {tt : TT} {te : TE} (hc : X.calm = true) (hN : X.N.Nodup) (hy : X.N[i]? = some y) (hyl : X.env.scope.names.lookup y = some .local)
    (hsw : swapsWith (.ListComp elt [⟨tg, iter, ifs, 0⟩] scope pos) (some (.Name y py)) spos.line X.env = pure true) (hi : PI X tg iter wi) (ok : BlkOk X.N X.env.scope scope own)
    (hg : ∀ (s : Shared) (H : Hp) (C : Addr) (cl : List (Str × Addr)) (fp : List Addr), PG (X.blk s H scope (compEnvC scope cl C X.env) fp) tg g) (ht : ∀ (s : Shared) (H : Hp) (C : Addr) (cl : List (Str × Addr)) (fp : List Addr), PTs (X.blk s H scope (compEnvC scope cl C X.env) fp) ifs tt)
    (he : ∀ (s : Shared) (H : Hp) (C : Addr) (cl : List (Str × Addr)) (fp : List Addr), PE (X.blk s H scope (compEnvC scope cl C X.env) fp) elt te) (hs : ∀ x, foldedSetIterable iter X.env x = pure x := by intro _; rfl) :
    PS X (.Assign [.Name y py] (.ListComp elt [⟨tg, iter, ifs, 0⟩] scope pos) spos) (tAsg (tLcF wi g tt te (own.map (·.2))) (gName i)) := ps_setLc hc hN hy hyl hsw hi ok hg ht he hs
/-- the list at D holds what was made so far -/
def LcN (D : Addr) (Pv : Nat → List V → Hp → Prop) (i : Nat) (H : Hp) : Prop := ∃ ys, ys.length ≤ i ∧ H D = some (.lst ys) ∧ Pv i ys H
theorem lc_end {D : Addr} {Pv : Nat → List V → Hp → Prop} {i : Nat} {ys : List V} {y : V} {H : Hp} (hD : ∀ i ys H zs o, H D = some (.lst zs) → Pv i ys H → Pv i ys (upd H D (.lst o))) (hi : i < 100000) (hl : ys.length ≤ i) (h1 : H D = some (.lst ys)) (h2 : Pv (i + 1) (ys ++ [y]) H) :
    ∃ acc, H D = some (.lst acc) ∧ acc.length < sizeLine ∧ LcN D Pv (i + 1) (upd H D (.lst (acc ++ [y]))) :=
  ⟨ys, h1, Nat.lt_of_le_of_lt hl (Nat.lt_of_lt_of_le hi (by decide)), ys ++ [y], by rw [List.length_append, List.length_singleton]; omega, upd_same, hD _ _ _ _ _ h1 h2⟩
section
variable {K : PySem.W.Frag} {a : Addr} {xs : List V} {g : TG} {tt : TT} {te : TE} {vs : List Nat} {σ : L2.St} {H1 : Hp} {Q : VK}
/-- over anything that is walked -/
theorem lc_go {J : It} {n : Nat} {G : Hp → Prop} {Y : Nat → Hp → V → Hp → Prop} (w : Walk J n G Y) (Pv : Addr → Nat → List V → Hp → Prop) (h0 : ∀ D, H1 D = none → Pv D 0 [] (upd H1 D (.lst [])))
    (hG : ∀ D i ys H, Pv D i ys H → G H)
    (hs : ∀ D i x ys H H', H1 D = none → i < n → Pv D i ys H → ys.length ≤ i → H D = some (.lst ys) → Y i H x H' → g x (wipe σ vs) H' fun σ2 H2 => wipe σ2 vs = wipe σ vs ∧ tt σ2 H2 fun b H3 =>
      if b = true then te σ2 H3 fun y H4 => ∃ acc, H4 D = some (.lst acc) ∧ acc.length < sizeLine ∧ LcN D (Pv D) (i + 1) (upd H4 D (.lst (acc ++ [y]))) else LcN D (Pv D) (i + 1) H3)
    (hd : ∀ D ys H, H1 D = none → Pv D n ys H → H D = some (.lst ys) → ys.length ≤ n → Q (.ref D) H) : LcB J g tt te vs σ H1 Q := fun D hD =>
  lc_it w (LcN D (Pv D)) ⟨[], Nat.le_refl _, upd_same, h0 D hD⟩ (fun i H _ ⟨ys, _, _, p⟩ => hG D i ys H p) (fun i x H H' hi ⟨ys, hl, e, p⟩ y => hs D i x ys H H' hD hi p hl e y) fun H ⟨ys, hl, e, p⟩ => hd D ys H hD p e hl
end
/-! ### a for -/
def ForB (J : It) (g : TG) (tb : TS) (D : Ends) (σ : L2.St) (H1 : Hp) : Prop := ∃ W : Nat → Nat → L2.St → Hp → Prop, (∃ m, W 0 m σ H1) ∧ ∀ i m σ H, W i m σ H →
  (J.stop i H ∧ D.nx σ H) ∨ (J.go i H ∧ ∃ N : L2.St → Hp → Prop, (∀ σ' H', N σ' H' → ∃ m', m' < m ∧ W (i + 1) m' σ' H') ∧ ∀ x H', J.yld i H x H' → g x σ H' fun σ2 H2 => tb { D with nx := N, ct := N, bk := D.nx } σ2 H2)
def tForF (wi : TI) (g : TG) (tb : TS) : TS := fun D σ H => wi σ H fun J H1 => ForB J g tb D σ H1
theorem ps_forF {X : Cx} {tg iter : Expr} {body : List Stmt} {wi : TI} {g : TG} {tb : TS} {pos : Pos} (hp : PassesOwn (model X.prog X.w) X.A X.env X.xe) (hc : X.calm = true) (hi : PI X tg iter wi) (hg : PG X tg g) (hb : PSs X body tb)
    (hs : ∀ x, foldedSetIterable iter X.env x = pure x := by intro _; rfl) : PS X (.For tg iter body [] pos) (tForF wi g tb) := ps_for hp hc hi hg hb hs
theorem for_go {J : It} {n : Nat} {G : Hp → Prop} {Y : Nat → Hp → V → Hp → Prop} (w : Walk J n G Y) {g : TG} {tb : TS} {D : Ends} {σ : L2.St} {H : Hp} (Pv : Nat → L2.St → Hp → Prop) (h0 : Pv 0 σ H) (hG : ∀ i σ H, i ≤ n → Pv i σ H → G H)
    (hs : ∀ i x σ H H', i < n → Pv i σ H → Y i H x H' → g x σ H' fun σ2 H2 => tb { D with nx := Pv (i + 1), ct := Pv (i + 1), bk := D.nx } σ2 H2) (hd : ∀ σ H, Pv n σ H → D.nx σ H) : ForB J g tb D σ H :=
  for_it w Pv h0 hG hs hd
/-! ### all, any, sum -/
def GB {τ : Type} (P : Addr) (J : It) (g : TG) (tt : TT) (te : TE) (vs : List Nat) (t0 : τ) (Cons : τ → V → Hp → (τ → Hp → Prop) → Prop) (Fin : τ → Hp → Prop) (σ : L2.St) (H1 : Hp) : Prop := GxR.TabG H1 P ∧ ∀ H2, GxR.Tabbed P H1 H2 → ∃ W : Nat → Nat → τ → Hp → Prop, (∃ m, W 0 m t0 H2) ∧
  GW J g tt te vs σ W Cons Fin
theorem gen_go {τ : Type} {P : Addr} {J : It} {n : Nat} {G : Hp → Prop} {Y : Nat → Hp → V → Hp → Prop} (w : Walk J n G Y) {g : TG} {tt : TT} {te : TE} {vs : List Nat} {t0 : τ} {Cons : τ → V → Hp → (τ → Hp → Prop) → Prop} {Fin : τ → Hp → Prop} {σ : L2.St} {H1 : Hp}
    (ht : GxR.TabG H1 P) (Pv : Nat → τ → Hp → Prop) (h0 : ∀ H2, Ext [] H1 H2 → Pv 0 t0 H2) (hG : ∀ i t H, i ≤ n → Pv i t H → G H)
    (hs : ∀ i x t H H', i < n → Pv i t H → Y i H x H' → g x (wipe σ vs) H' fun σ2 H2 => wipe σ2 vs = wipe σ vs ∧ tt σ2 H2 fun b H3 => if b = true then te σ2 H3 fun y H4 => Cons t y H4 (Pv (i + 1)) else Pv (i + 1) t H3)
    (hd : ∀ t H, Pv n t H → Fin t H) : GB P J g tt te vs t0 Cons Fin σ H1 := by
  refine ⟨ht, fun H2 hT => ⟨fun i m t H => m = n - i ∧ i ≤ n ∧ Pv i t H, ⟨n, rfl, Nat.zero_le _, h0 H2 (Ext.tabbed ht hT)⟩, ?_⟩⟩
  rintro i m t H ⟨rfl, hi, p⟩
  by_cases hlt : i < n
  · exact .inr ⟨w.goes i H hlt (hG i t H hi p), Pv (i + 1), fun t' H' p' => ⟨n - (i + 1), by omega, rfl, hlt, p'⟩, fun x H' y => hs i x t H H' hlt p (w.yields i H x H' hlt (hG i t H hi p) y)⟩
  · have e : i = n := by omega
    subst e
    exact .inl ⟨w.stops H (hG _ t H hi p), hd t H p⟩
def tAllF (P : Addr) (wi : TI) (g : TG) (tt : TT) (te : TE) (vs : List Nat) : TE := fun σ H Q => wi σ H fun J H1 => GB P J g tt te vs () (fun _ y H N => ∃ b, y = .bl b ∧ if b = true then N () H else Q (.bl false) H) (fun _ H => Q (.bl true) H) σ H1
def tAnyF (P : Addr) (wi : TI) (g : TG) (tt : TT) (te : TE) (vs : List Nat) : TE := fun σ H Q => wi σ H fun J H1 => GB P J g tt te vs () (fun _ y H N => ∃ b, y = .bl b ∧ if b = true then Q (.bl true) H else N () H) (fun _ H => Q (.bl false) H) σ H1
def tSumF (P : Addr) (wi : TI) (g : TG) (tt : TT) (te : TE) (vs : List Nat) : TE := fun σ H Q => wi σ H fun J H1 => GB P J g tt te vs (0 : Int) (fun t y H N => ∃ j, y = .int j ∧ (InLong j ∧ InLong (t + j)) ∧ N (t + j) H) (fun t H => Q (.int t) H) σ H1

theorem pair_tgt {K : PySem.W.Frag} {t : TGs} {v : V} {σ : L2.St} {H H' : Hp} {Q : L2.St → Hp → Prop} {xs ys : Nat → Option V} {i : Nat} (y : YPair xs ys i H v H') (h : ∀ x y, xs i = some x → ys i = some y → Ext [] H H' → t [x, y] σ H' Q) : gTup K 2 t v σ H' Q := by
  obtain ⟨T, x, y, rfl, hT, rfl, hx, hy⟩ := y
  exact ⟨T, [x, y], rfl, SqT.of upd_same, rfl, h x y hx hy (Ext.new hT)⟩
section
variable {X : Cx}
theorem pe_allF {c P : Addr} {elt tg iter : Expr} {ifs : List Expr} {gpos p pos : Pos} {scope : Scope} {own : List (Str × Nat)} {wi : TI} {g : TG} {tt : TT} {te : TE} {k : Nat}
    (hr : Room k X.A) (hc : X.calm = true) (hN : X.N.Nodup) (hgl : Gl X "all") (hm : X.mg "all" = none) (TB : GxR.TabB X.base X.mg c P) (hcode : X.env.code = .ref c) (hi : PI X tg iter wi) (ok : BlkOk X.N X.env.scope scope own) (hcell : ∀ y ∈ scope.names, y.2 ≠ .cell) (hco : scope.isCoroutine = false) (hdot : scope.names.lookup (".0" : Str) = some NameKind.local)
    (hg : ∀ (s : Shared) (H : Hp) (C : Addr) (code : Value) (fp : List Addr), PG (gCx X s H (gEnv X scope C code) fp) tg g) (ht : ∀ (s : Shared) (H : Hp) (C : Addr) (code : Value) (fp : List Addr), PTs (gCx X s H (gEnv X scope C code) fp) ifs tt)
    (he : ∀ (s : Shared) (H : Hp) (C : Addr) (code : Value) (fp : List Addr), PE (gCx X s H (gEnv X scope C code) fp) elt te)
    (hs : ∀ v, genFold iter X.env v = pure v := by intro _; rfl)
    (hse : starEach [.GeneratorExp elt [⟨tg, iter, ifs, 0⟩] scope gpos] X.env = (false, eval (.GeneratorExp elt [⟨tg, iter, ifs, 0⟩] scope gpos) X.env) :: starEach [] X.env := by rfl) :
    PE X (.Call (.Name "all" p) [.GeneratorExp elt [⟨tg, iter, ifs, 0⟩] scope gpos] [] pos) (tAllF P wi g tt te (own.map (·.2))) := pe_allG hr hc hN hgl hm TB hcode hi ok hcell hco hdot hg ht he hs (by decide +kernel) hse
theorem pe_anyF {c P : Addr} {elt tg iter : Expr} {ifs : List Expr} {gpos p pos : Pos} {scope : Scope} {own : List (Str × Nat)} {wi : TI} {g : TG} {tt : TT} {te : TE} {k : Nat}
    (hr : Room k X.A) (hc : X.calm = true) (hN : X.N.Nodup) (hgl : Gl X "any") (hm : X.mg "any" = none) (TB : GxR.TabB X.base X.mg c P) (hcode : X.env.code = .ref c) (hi : PI X tg iter wi) (ok : BlkOk X.N X.env.scope scope own) (hcell : ∀ y ∈ scope.names, y.2 ≠ .cell) (hco : scope.isCoroutine = false) (hdot : scope.names.lookup (".0" : Str) = some NameKind.local)
    (hg : ∀ (s : Shared) (H : Hp) (C : Addr) (code : Value) (fp : List Addr), PG (gCx X s H (gEnv X scope C code) fp) tg g) (ht : ∀ (s : Shared) (H : Hp) (C : Addr) (code : Value) (fp : List Addr), PTs (gCx X s H (gEnv X scope C code) fp) ifs tt)
    (he : ∀ (s : Shared) (H : Hp) (C : Addr) (code : Value) (fp : List Addr), PE (gCx X s H (gEnv X scope C code) fp) elt te)
    (hs : ∀ v, genFold iter X.env v = pure v := by intro _; rfl)
    (hse : starEach [.GeneratorExp elt [⟨tg, iter, ifs, 0⟩] scope gpos] X.env = (false, eval (.GeneratorExp elt [⟨tg, iter, ifs, 0⟩] scope gpos) X.env) :: starEach [] X.env := by rfl) :
    PE X (.Call (.Name "any" p) [.GeneratorExp elt [⟨tg, iter, ifs, 0⟩] scope gpos] [] pos) (tAnyF P wi g tt te (own.map (·.2))) := pe_anyG hr hc hN hgl hm TB hcode hi ok hcell hco hdot hg ht he hs (by decide +kernel) hse
theorem pe_sumF {c P : Addr} {elt tg iter : Expr} {ifs : List Expr} {gpos p pos : Pos} {scope : Scope} {own : List (Str × Nat)} {wi : TI} {g : TG} {tt : TT} {te : TE} {k : Nat}
    (hr : Room k X.A) (hc : X.calm = true) (hN : X.N.Nodup) (hgl : Gl X "sum") (hm : X.mg "sum" = none) (TB : GxR.TabB X.base X.mg c P) (hcode : X.env.code = .ref c) (hi : PI X tg iter wi) (ok : BlkOk X.N X.env.scope scope own) (hcell : ∀ y ∈ scope.names, y.2 ≠ .cell) (hco : scope.isCoroutine = false) (hdot : scope.names.lookup (".0" : Str) = some NameKind.local)
    (hg : ∀ (s : Shared) (H : Hp) (C : Addr) (code : Value) (fp : List Addr), PG (gCx X s H (gEnv X scope C code) fp) tg g) (ht : ∀ (s : Shared) (H : Hp) (C : Addr) (code : Value) (fp : List Addr), PTs (gCx X s H (gEnv X scope C code) fp) ifs tt)
    (he : ∀ (s : Shared) (H : Hp) (C : Addr) (code : Value) (fp : List Addr), PE (gCx X s H (gEnv X scope C code) fp) elt te)
    (hs : ∀ v, genFold iter X.env v = pure v := by intro _; rfl)
    (hse : starEach [.GeneratorExp elt [⟨tg, iter, ifs, 0⟩] scope gpos] X.env = (false, eval (.GeneratorExp elt [⟨tg, iter, ifs, 0⟩] scope gpos) X.env) :: starEach [] X.env := by rfl) :
    PE X (.Call (.Name "sum" p) [.GeneratorExp elt [⟨tg, iter, ifs, 0⟩] scope gpos] [] pos) (tSumF P wi g tt te (own.map (·.2))) := pe_sumG hr hc hN hgl hm TB hcode hi ok hcell hco hdot hg ht he hs (by decide +kernel) hse
end
end Sq
set_option Elab.async false
set_option linter.all false
set_option maxRecDepth 100000
set_option maxHeartbeats 2000000
namespace Sq
open PySem PySem.Spec PyProof.Rows L2
theorem dct2_out (kx vx t0 i0 t1 i1 : Expr) (ifs0 ifs1 : List Expr) (scope : Scope) (pos : Pos) (it : Value) (D : Addr) (env : Env) :
    compTurn (.DictComp kx vx [⟨t0, i0, ifs0, 0⟩, ⟨t1, i1, ifs1, 0⟩] scope pos) 0 it (.ref D) env = (do
      standAt i0.pos
      match ← pyNext it with
      | none => pure (.done .next)
      | some v =>
        letOwnedTupleGo t0 it v
        assign t0 env v
        let mut ok := true
        for c in ifs0 do
          if ok then ok ← isTrue c env (eval c env)
        if ok then
          let x ← eval i1 env
          standAt i1.pos
          let x ← foldedSetIterable i1 env x
          let _ ← runOwn (.compStart (.DictComp kx vx [⟨t0, i0, ifs0, 0⟩, ⟨t1, i1, ifs1, 0⟩] scope pos) 1 (← holding [x] (pyIter x)) (.ref D) env) env
        again (.compLoop (.DictComp kx vx [⟨t0, i0, ifs0, 0⟩, ⟨t1, i1, ifs1, 0⟩] scope pos) 0 it (.ref D) env)) := by rfl
theorem dct2_in (kx vx t0 i0 t1 i1 : Expr) (ifs0 ifs1 : List Expr) (scope : Scope) (pos : Pos) (it : Value) (D : Addr) (env : Env) :
    compTurn (.DictComp kx vx [⟨t0, i0, ifs0, 0⟩, ⟨t1, i1, ifs1, 0⟩] scope pos) 1 it (.ref D) env = (do
      standAt i1.pos
      match ← pyNext it with
      | none => pure (.done .next)
      | some v =>
        letOwnedTupleGo t1 it v
        assign t1 env v
        let mut ok := true
        for c in ifs1 do
          if ok then ok ← isTrue c env (eval c env)
        if ok then
          (do
            let kv ← eval kx env
            let vv ← holding [kv] (eval vx env)
            standAt { kx.pos with endLine := vx.pos.endLine, endCol := vx.pos.endCol }
            holding [kv, vv] (dictSet D kv vv))
        again (.compLoop (.DictComp kx vx [⟨t0, i0, ifs0, 0⟩, ⟨t1, i1, ifs1, 0⟩] scope pos) 1 it (.ref D) env)) := by rfl

section
variable {prog : Program} {w : World} {A : Around} {R : Result → Shared → Prop} {s : Shared} {kx vx t0 i0 t1 i1 : Expr} {ifs0 ifs1 : List Expr} {scope : Scope} {pos : Pos} {it : Value} {D : Addr} {env : Env}
theorem dcl2_out (hs : ∀ x, foldedSetIterable i1 env x = pure x) (I : Nat → Shared → Prop)
    (turn : ∀ n s, I n s → wpAny (model prog w) A (pyNext it) (fun r s₁ => match r with
      | none => R (.ok .next) s₁
      | some v => wpAny (model prog w) A (letOwnedTupleGo t0 it v) (fun _ s₁' => wpAny (model prog w) A (assign t0 env v) (fun _ s₂ =>
          wpAny (model prog w) A (forIn ifs0 true fun c r => if r = true then do let ok ← isTrue c env (eval c env); pure (ForInStep.yield ok) else pure (ForInStep.yield r)) (fun ok s₃ =>
            if ok = true then wpAny (model prog w) A (eval i1 env) (fun x s₄ => wpAny (model prog w) A (pyIter x) (fun it1 s₅ =>
              codeAny (model prog w) A (.compStart (.DictComp kx vx [⟨t0, i0, ifs0, 0⟩, ⟨t1, i1, ifs1, 0⟩] scope pos) 1 it1 (.ref D) env) (fun r s' => match r with
                | .ok _ => ∃ m, m < n ∧ I m s'
                | .error _ => False) s₅) (notedBy (model prog w) A env fun e s' => R (.error e) s') s₄) (notedBy (model prog w) A env fun e s' => R (.error e) s') s₃
            else ∃ m, m < n ∧ I m s₃) (notedBy (model prog w) A env fun e s' => R (.error e) s') s₂) (notedBy (model prog w) A env fun e s' => R (.error e) s') s₁') (notedBy (model prog w) A env fun e s' => R (.error e) s') s₁) (notedBy (model prog w) A env fun e s' => R (.error e) s') s)
    (n : Nat) (h : I n s) :
    codeAny (model prog w) A (.compLoop (.DictComp kx vx [⟨t0, i0, ifs0, 0⟩, ⟨t1, i1, ifs1, 0⟩] scope pos) 0 it (.ref D) env) R s := by
  refine codeAny_loop rfl I (fun n s hI => ?_) n h
  show wpAny _ A ((compTurn (.DictComp kx vx [⟨t0, i0, ifs0, 0⟩, ⟨t1, i1, ifs1, 0⟩] scope pos) 0 it (.ref D) env).onRaise (fun x => do noteFrame x env; theTreesLotGoes x)) _ _ s
  refine wpAny_noted ?_
  rw [dct2_out]
  refine wpAny_bind (wpAny_standAt (wpAny_bind (wpAny_mono (turn n s hI) (fun r s₁ h₁ => ?_) fun _ _ h' => h')))
  cases r with
  | none => exact wpAny_pure h₁
  | some v =>
    refine wpAny_bind (wpAny_mono h₁ (fun _ s₁' h₁' => ?_) fun _ _ h' => h')
    refine wpAny_bind (wpAny_mono h₁' (fun _ s₂ h₂ => wpAny_bind (wpAny_mono h₂ (fun ok s₃ h₃ => ?_) fun _ _ h' => h')) fun _ _ h' => h')
    cases ok with
    | false => exact wpAny_pure ⟨rfl, h₃⟩
    | true =>
      refine wpAny_bind (wpAny_mono h₃ (fun x s₄ h₄ => ?_) fun _ _ h' => h')
      refine wpAny_bind (wpAny_standAt (wpAny_bind (wpAny_of_eq (hs x) (wpAny_bind (wpAny_holding (wpAny_mono h₄ (fun it1 s₅ h₅ => ?_) fun _ _ h' => h'))))))
      refine wpAny_bind (wpAny_runOwn ?_)
      rw [Around.mark_none]
      refine codeAny_mono h₅ fun r s' hr => ?_
      cases r with
      | ok f =>
        first
          | exact wpAny_pure ⟨rfl, hr⟩
          | exact wpAny_bind (wpAny_pure (wpAny_pure ⟨rfl, hr⟩))
      | error e => exact hr.elim
theorem dcl2_in (I : Nat → Shared → Prop)
    (turn : ∀ n s, I n s → wpAny (model prog w) A (pyNext it) (fun r s₁ => match r with
      | none => R (.ok .next) s₁
      | some v => wpAny (model prog w) A (letOwnedTupleGo t1 it v) (fun _ s₁' => wpAny (model prog w) A (assign t1 env v) (fun _ s₂ =>
          wpAny (model prog w) A (forIn ifs1 true fun c r => if r = true then do let ok ← isTrue c env (eval c env); pure (ForInStep.yield ok) else pure (ForInStep.yield r)) (fun ok s₃ =>
            if ok = true then wpAny (model prog w) A (eval kx env) (fun kv s₄ => wpAny (model prog w) A (eval vx env) (fun vv s₅ =>
              wpAny (model prog w) A (dictSet D kv vv) (fun _ s₆ => ∃ m, m < n ∧ I m s₆) (notedBy (model prog w) A env fun e s' => R (.error e) s') s₅) (notedBy (model prog w) A env fun e s' => R (.error e) s') s₄) (notedBy (model prog w) A env fun e s' => R (.error e) s') s₃
            else ∃ m, m < n ∧ I m s₃) (notedBy (model prog w) A env fun e s' => R (.error e) s') s₂) (notedBy (model prog w) A env fun e s' => R (.error e) s') s₁') (notedBy (model prog w) A env fun e s' => R (.error e) s') s₁) (notedBy (model prog w) A env fun e s' => R (.error e) s') s)
    (n : Nat) (h : I n s) :
    codeAny (model prog w) A (.compLoop (.DictComp kx vx [⟨t0, i0, ifs0, 0⟩, ⟨t1, i1, ifs1, 0⟩] scope pos) 1 it (.ref D) env) R s := by
  refine codeAny_loop rfl I (fun n s hI => ?_) n h
  show wpAny _ A ((compTurn (.DictComp kx vx [⟨t0, i0, ifs0, 0⟩, ⟨t1, i1, ifs1, 0⟩] scope pos) 1 it (.ref D) env).onRaise (fun x => do noteFrame x env; theTreesLotGoes x)) _ _ s
  refine wpAny_noted ?_
  rw [dct2_in]
  refine wpAny_bind (wpAny_standAt (wpAny_bind (wpAny_mono (turn n s hI) (fun r s₁ h₁ => ?_) fun _ _ h' => h')))
  cases r with
  | none => exact wpAny_pure h₁
  | some v =>
    refine wpAny_bind (wpAny_mono h₁ (fun _ s₁' h₁' => ?_) fun _ _ h' => h')
    refine wpAny_bind (wpAny_mono h₁' (fun _ s₂ h₂ => wpAny_bind (wpAny_mono h₂ (fun ok s₃ h₃ => ?_) fun _ _ h' => h')) fun _ _ h' => h')
    cases ok with
    | false => exact wpAny_pure ⟨rfl, h₃⟩
    | true =>
      exact wpAny_bind (wpAny_bind (wpAny_mono h₃ (fun kv s₄ h₄ => wpAny_bind (wpAny_holding (wpAny_mono h₄ (fun vv s₅ h₅ => wpAny_bind (wpAny_standAt (wpAny_holding (wpAny_mono h₅ (fun _ s₆ h₆ => wpAny_pure ⟨rfl, h₆⟩) fun _ _ h' => h')))) fun _ _ h' => h'))) fun _ _ h' => h'))
theorem dcs1_ok (h0 : codeAny (model prog w) A (.compLoop (.DictComp kx vx [⟨t0, i0, ifs0, 0⟩, ⟨t1, i1, ifs1, 0⟩] scope pos) 1 it (.ref D) env) R s)
    (h : wpAny (model prog w) A (pyIter it) (fun it' s' => codeAny (model prog w) A (.compLoop (.DictComp kx vx [⟨t0, i0, ifs0, 0⟩, ⟨t1, i1, ifs1, 0⟩] scope pos) 1 it' (.ref D) env) R s')
      (notedBy (model prog w) A env fun x s' => R (.error x) s') s) :
    codeAny (model prog w) A (.compStart (.DictComp kx vx [⟨t0, i0, ifs0, 0⟩, ⟨t1, i1, ifs1, 0⟩] scope pos) 1 it (.ref D) env) R s := by
  refine codeAny_of_tree ?_
  show wpAny _ _ ((compStart (.DictComp kx vx [⟨t0, i0, ifs0, 0⟩, ⟨t1, i1, ifs1, 0⟩] scope pos) 1 it (.ref D) env).onRaise (fun x => do noteFrame x env; standAt theWindowsPlace)) _ _ s
  refine wpAny_notedAt ?_
  unfold compStart
  show wpAny _ _ (ask >>= _) _ _ s
  refine wpAny_bind (wpAny_askSetting (wpAny_ite ?_))
  split
  · first
      | exact wpAny_bind (wpAny_pure (wpAny_pure (And.intro rfl h0)))
      | exact wpAny_pure (And.intro rfl h0)
  · first
      | exact wpAny_bind (wpAny_rule (wpAny_bind (wpAny_standAt (wpAny_bind (wpAny_mono h (fun it' s' h' => wpAny_pure (And.intro rfl h')) fun _ _ x => x)))))
      | (refine wpAny_bind (wpAny_rule ?_); show wpAny _ _ (standAt i1.pos >>= _) _ _ s; exact wpAny_bind (wpAny_standAt (wpAny_bind (wpAny_mono h (fun it' s' h' => wpAny_pure (And.intro rfl h')) fun _ _ x => x))))
end

section
variable {X : Cx}
def tDc2 (wi : TI) (g : TG) (tt : TT) (wi1 : TI) (g1 : TG) (tt1 : TT) (tk tv : TE) (vs vs1 : List Nat) : TE := fun σ H Q => wi σ H fun J H1 => ∀ D, H1 D = none → ∃ W : Nat → Nat → Hp → Prop, (∃ m, W 0 m (upd H1 D (.dK []))) ∧ ∀ i m H, W i m H →
  (J.stop i H ∧ Q (.ref D) H) ∨ (J.go i H ∧ ∃ Nx : Hp → Prop, (∀ H', Nx H' → ∃ m', m' < m ∧ W (i + 1) m' H') ∧ ∀ x H', J.yld i H x H' → g x (wipe σ vs) H' fun σ2 H2 => wipe σ2 vs = wipe σ vs ∧ tt σ2 H2 fun b H3 =>
    if b = true then wi1 σ2 H3 fun J1 H4 => ∃ W1 : Nat → Nat → Hp → Prop, (∃ m, W1 0 m H4) ∧ ∀ j k H, W1 j k H →
      (J1.stop j H ∧ Nx H) ∨ (J1.go j H ∧ ∃ Nx1 : Hp → Prop, (∀ H', Nx1 H' → ∃ k', k' < k ∧ W1 (j + 1) k' H') ∧ ∀ x H', J1.yld j H x H' → g1 x (wipe σ2 vs1) H' fun σ3 H5 => wipe σ3 vs1 = wipe σ2 vs1 ∧ tt1 σ3 H5 fun b H6 =>
        if b = true then tk σ3 H6 fun y H7 => tv σ3 H7 fun z H8 => ∃ kvs k, y = kV k ∧ H8 D = some (.dK kvs) ∧ kvs.length < sizeLine ∧ Nx1 (upd H8 D (.dK (putK kvs k z))) else Nx1 H6)
    else Nx H3)
theorem dc2_core {pins : List (Addr × Obj)} {s : Shared} {σ : L2.St} {H : Hp} {Q : VK} {kx vx tg iter tg1 iter1 : Expr} {ifs ifs1 : List Expr} {scope : Scope} {own : List (Str × Nat)} {vs1 : List Nat} {pos pos' : Pos} {wi wi1 : TI} {g g1 : TG} {tt tt1 : TT} {tk tv : TE} {use : Option (Value → Sem Unit)} {Qf : Value → Shared → Prop}
    (hc : X.calm = true) (hN : X.N.Nodup) (I : L2.Inv X pins σ H s) (hi : PI X tg iter wi) (ok : BlkOk X.N X.env.scope scope own) (hv : ∀ i ∈ vs1, i ∈ own.map (·.2))
    (hg : ∀ (s : Shared) (H : Hp) (C : Addr) (cl : List (Str × Addr)) (fp : List Addr), PG (X.blk s H scope (compEnvC scope cl C X.env) fp) tg g) (ht : ∀ (s : Shared) (H : Hp) (C : Addr) (cl : List (Str × Addr)) (fp : List Addr), PTs (X.blk s H scope (compEnvC scope cl C X.env) fp) ifs tt)
    (hk : ∀ (s : Shared) (H : Hp) (C : Addr) (cl : List (Str × Addr)) (fp : List Addr), PE (X.blk s H scope (compEnvC scope cl C X.env) fp) kx tk)
    (he : ∀ (s : Shared) (H : Hp) (C : Addr) (cl : List (Str × Addr)) (fp : List Addr), PE (X.blk s H scope (compEnvC scope cl C X.env) fp) vx tv) (hs : ∀ x, foldedSetIterable iter X.env x = pure x)
    (hi1 : ∀ (s : Shared) (H : Hp) (C : Addr) (cl : List (Str × Addr)) (fp : List Addr), PI (X.blk s H scope (compEnvC scope cl C X.env) fp) tg1 iter1 wi1)
    (hg1 : ∀ (s : Shared) (H : Hp) (C : Addr) (cl : List (Str × Addr)) (fp : List Addr), PG (X.blk s H scope (compEnvC scope cl C X.env) fp) tg1 g1)
    (ht1 : ∀ (s : Shared) (H : Hp) (C : Addr) (cl : List (Str × Addr)) (fp : List Addr), PTs (X.blk s H scope (compEnvC scope cl C X.env) fp) ifs1 tt1)
    (hs1 : ∀ env x, foldedSetIterable iter1 env x = pure x)
    (h : tDc2 wi g tt wi1 g1 tt1 tk tv (own.map (·.2)) vs1 σ H Q)
    (hRR : ∀ D C s' m H', L2.Inv X pins σ H' s' → Q (.ref D) H' → s'.heap.Ns C m → FpOk X pins H' C → compPost (model X.prog X.w) X.A X.xe use Qf (.ref D) C (.ok .next) s') :
    wpAny (model X.prog X.w) X.A (comprehension (.DictComp kx vx [⟨tg, iter, ifs, 0⟩, ⟨tg1, iter1, ifs1, 0⟩] scope pos) scope X.env pos' (newDict) false (eval iter X.env) use) Qf X.xe s := by
  have hfree : ∀ y ∈ scope.names, y.2 = .free → ∃ c, X.env.cells.lookup y.1 = some c := fun y hy e => by
    rcases ok.free y hy e with k | k
    · exact I.ok.has _ (.inl k)
    · exact I.ok.has _ (.inr k)
  refine wpAny_comprehension_free (use := use) rfl hs (closure_ok hfree) ok.kind (fun y hy e => by rw [ok.uniq y hy, e])
    (thn (hi.run pins s σ H _ I h) fun xv s1 hx => thn hx fun itv s2 h2 => ?_)
  obtain ⟨it, fp, tn, J, H2, e, I2, T, st2, f2, q⟩ := h2
  subst e
  refine wpAny_newObj_type (newEnv_comp ?_) 
  generalize hD : s2.heap.objs.size = D
  have hDn : H2 D = none := I2.hok.fresh (Nat.le_of_eq hD)
  obtain ⟨W, ⟨m0, w0⟩, turn⟩ := q D hDn
  -- the new list
  generalize hs3 : ({ s2 with heap := s2.heap.push { cls := .type "dict", data := .dict #[] } } : Shared) = s3
  have I3 : L2.Inv X pins σ (upd H2 D (.dK [])) s3 := by
    rw [← hs3]
    refine I2.laid (t' := s2.toks) (fun b o e => Heap.get?_push_of_some _ e) (Nat.le_of_eq hD) ?_
    rw [← hD]
    exact dk_empty s2.heap I2.big
  have h3 : s3.heap = s2.heap.push { cls := .type "dict", data := .dict #[] } := by rw [← hs3]
  have sz : ∀ b ∈ fp, b < s2.heap.objs.size := fun b hb => by
    obtain ⟨o, e, _⟩ := T.obj _ _ st2 b hb
    exact Heap.lt_size e
  have f3 : ∀ b ∈ fp, FpOk X pins (upd H2 D (.dK [])) b ∧ b < s3.heap.objs.size := fun b hb => by
    have hlt := sz b hb
    refine ⟨⟨?_, (f2 b hb).2⟩, by rw [h3, Heap.size_push]; exact Nat.lt_succ_of_lt hlt⟩
    rw [upd_ne (by rw [← hD]; exact Nat.ne_of_lt hlt)]
    exact (f2 b hb).1
  have st3 : tn 0 s3.heap := T.keep _ _ _ st2 fun b _ o e => by rw [h3]; exact Heap.get?_push_of_some _ e
  have I4 := block_start I3 ok hN f3
  have pg := hg s3 (upd H2 D (.dK [])) s3.heap.objs.size (cellsFrom (s3.heap.objs.size + 1) scope.names (cloFrom X.env.cells scope.names [])) fp
  have pt := ht s3 (upd H2 D (.dK [])) s3.heap.objs.size (cellsFrom (s3.heap.objs.size + 1) scope.names (cloFrom X.env.cells scope.names [])) fp
  have pk := hk s3 (upd H2 D (.dK [])) s3.heap.objs.size (cellsFrom (s3.heap.objs.size + 1) scope.names (cloFrom X.env.cells scope.names [])) fp
  have pe := he s3 (upd H2 D (.dK [])) s3.heap.objs.size (cellsFrom (s3.heap.objs.size + 1) scope.names (cloFrom X.env.cells scope.names [])) fp
  have pi1 := hi1 s3 (upd H2 D (.dK [])) s3.heap.objs.size (cellsFrom (s3.heap.objs.size + 1) scope.names (cloFrom X.env.cells scope.names [])) fp
  have pg1 := hg1 s3 (upd H2 D (.dK [])) s3.heap.objs.size (cellsFrom (s3.heap.objs.size + 1) scope.names (cloFrom X.env.cells scope.names [])) fp
  have pt1 := ht1 s3 (upd H2 D (.dK [])) s3.heap.objs.size (cellsFrom (s3.heap.objs.size + 1) scope.names (cloFrom X.env.cells scope.names [])) fp
  show codeAny _ _ (.compStart (.DictComp kx vx [⟨tg, iter, ifs, 0⟩, ⟨tg1, iter1, ifs1, 0⟩] scope pos) 0 (.ref it) (.ref D) (compEnvC scope (cellsFrom (s3.heap.objs.size + 1) scope.names (cloFrom X.env.cells scope.names [])) s3.heap.objs.size X.env)) (compPost (model X.prog X.w) X.A X.xe use Qf (.ref D) s3.heap.objs.size) { s3 with heap := pushCells (s3.heap.push { cls := .type "dict", data := .dict #[] }) scope.names }
  have nfp : ∀ b ∈ fp, (upd H2 D (.dK [])) b = none := fun b hb => (f3 b hb).1.1
  generalize hce : compEnvC scope (cellsFrom (s3.heap.objs.size + 1) scope.names (cloFrom X.env.cells scope.names [])) s3.heap.objs.size X.env = ce at I4 pg pt pk pe pi1 pg1 pt1 ⊢
  have cL : ce.locals = s3.heap.objs.size := by subst hce; rfl
  generalize hH3 : upd H2 D (.dK []) = H3 at I3 I4 pg pt pk pe pi1 pg1 pt1 w0 nfp f3
  generalize hs4 : ({ s3 with heap := pushCells (s3.heap.push { cls := .type "dict", data := .dict #[] }) scope.names } : Shared) = s4 at I4 ⊢
  have st4 : tn 0 s4.heap := T.keep _ _ _ st3 fun b _ o e => by rw [← hs4]; exact pushCells_keeps _ _ _ _ (Heap.get?_push_of_some _ e)
  have stat : ∀ {σ' : L2.St} {H' : Hp} {s' : Shared}, L2.Inv (X.blk s3 H3 scope ce fp) [] σ' H' s' → (∀ b ∈ fp, H' b = none) → ∀ b ∈ fp, FpOk (X.blk s3 H3 scope ce fp) [] H' b := fun {σ' H' s'} I' hn b hb =>
    ⟨hn b hb, (I'.ok.exf b hb).1, I'.ok.exfs b hb, .inl hb, fun x c e => (I'.ok.exf b hb).2 x c e, fun p hp => absurd (show p ∈ ([] : List (Addr × Obj)) ++ [] from hp) (by simp)⟩
  have loop : codeAny (model X.prog X.w) X.A (.compLoop (.DictComp kx vx [⟨tg, iter, ifs, 0⟩, ⟨tg1, iter1, ifs1, 0⟩] scope pos) 0 (.ref it) (.ref D) ce) (compPost (model X.prog X.w) X.A X.xe use Qf (.ref D) s3.heap.objs.size) s4 := by
    refine dcl2_out (hs1 ce) (fun n s' => ∃ i H', L2.Inv (X.blk s3 H3 scope ce fp) [] (wipe σ (own.map (·.2))) H' s' ∧ tn i s'.heap ∧ (∀ b ∈ fp, H' b = none) ∧ W i n H') ?_ m0 ⟨0, H3, I4, st4, nfp, w0⟩
    rintro n s5 ⟨i, H5, I5, st5, n5, w5⟩
    rcases turn i n H5 w5 with ⟨stop, qq⟩ | ⟨go, Nx, hNx, step⟩
    · have td := T.done (X.blk s3 H3 scope ce fp) rfl rfl rfl hc i [] s5 _ H5 (fun _ _ => False) I5 (stat I5 n5) st5 stop
      refine thnF td fun r s6 ⟨hr, I6⟩ => ?_
      subst hr
      -- back in the def's context
      have I7 : L2.Inv X pins σ H5 s6 := I3.call' (ch := fp) I6.os I6.base I6.hok I6.bare fun b hb => ⟨(f3 b hb).1.2.2.2.1, (f3 b hb).1.2.1, (f3 b hb).1.2.2.2.2.1, (f3 b hb).1.2.2.2.2.2⟩
      have nC : H5 s3.heap.objs.size = none := by
        have z : H5 ce.locals = none := I6.free
        rw [cL] at z
        exact z
      obtain ⟨m, hn, _⟩ := I6.loc
      have hn : s6.heap.Ns ce.locals m := hn
      rw [cL] at hn
      exact hRR D s3.heap.objs.size s6 m H5 I7 qq hn (I3.fpOk (Nat.le_refl _) nC)
    · have ti := T.item (X.blk s3 H3 scope ce fp) rfl rfl rfl hc i [] s5 _ H5 (fun _ _ => False) I5 (stat I5 n5) st5 go
      refine thnF ti fun r s6 ⟨u, hr, h6⟩ => ?_
      subst hr
      refine thnF h6 fun _ s7 ⟨x, H7, I7, r7, y7, st7, n7⟩ => ?_
      have I7' := I7.pinned (stat I7 n7) (T.obj _ _ st7)
      refine thnF (pg.run _ s7 _ H7 x u _ I7' r7 (step x H7 y7)) fun _ s8 ⟨σ8, H8, I8, hw8, q8⟩ => ?_
      refine thnF (pt.run _ s8 σ8 H8 _ I8 q8) fun b s9 ⟨H9, I9, q9⟩ => ?_
      -- the turn's end, from any slots that know what the block knew at its start
      have fin : ∀ {σ9 : L2.St} {s' : Shared} {H' : Hp}, L2.Inv (X.blk s3 H3 scope ce fp) ([] ++ pinsAt fp s7.heap) σ9 H' s' → (wipe σ (own.map (·.2))).length = σ9.length → (∀ (j : Nat) v, (wipe σ (own.map (·.2)))[j]? = some (some v) → σ9[j]? = some (some v)) → Nx H' →
          ∃ m, m < n ∧ ∃ i H', L2.Inv (X.blk s3 H3 scope ce fp) [] (wipe σ (own.map (·.2))) H' s' ∧ tn i s'.heap ∧ (∀ b ∈ fp, H' b = none) ∧ W i m H' := fun {σ9 s' H'} I' hl hk nx => by
        obtain ⟨m', hm, w'⟩ := hNx H' nx
        have pin' : ∀ b ∈ fp, ∀ o, s7.heap.get? b = some o → s'.heap.get? b = some o ∧ H' b = none := fun b hb o e =>
          let z := I'.pin (b, o) (List.mem_append_right _ (List.mem_append_right _ (mem_pinsAt hb e)))
          ⟨z.1, z.2.1⟩
        refine ⟨m', hm, i + 1, H', (I'.unpinned (pins := [])).weak hl hk, T.keep _ _ _ st7 fun b hb o e => (pin' b hb o e).1, fun b hb => ?_, w'⟩
        obtain ⟨o, e, _⟩ := T.obj _ _ st7 b hb
        exact (pin' b hb o e).2
      have hl8 : (wipe σ (own.map (·.2))).length = σ8.length := by rw [← hw8, wipe_length]
      have hk8 : ∀ (j : Nat) v, (wipe σ (own.map (·.2)))[j]? = some (some v) → σ8[j]? = some (some v) := fun j v e => by
        rw [← hw8] at e
        exact (wipe_some e).1
      have hk9 : ∀ (j : Nat) v, (wipe σ (own.map (·.2)))[j]? = some (some v) → (wipe σ8 vs1)[j]? = some (some v) := fun j v e => by
        rw [← hw8] at e
        obtain ⟨e1, e2⟩ := wipe_some e
        rw [wipe_out fun z => e2 (hv j z)]
        exact e1
      cases b with
      | false =>
        simp only [Bool.false_eq_true, if_false] at q9 ⊢
        exact fin I9 hl8 hk8 q9
      | true =>
        simp only [if_true] at q9 ⊢
        refine thnF (pi1.run _ s9 σ8 H9 _ I9 q9) fun xv s10 hx => thnF hx fun itv s11 h11 => ?_
        obtain ⟨it1, fp1, tn1, J1, H11, e1, I11, T1, st11, f11, W1, ⟨m1, w1⟩, turn1⟩ := h11
        subst e1
        -- the inner loop
        have stat1 : ∀ {H' : Hp}, (∀ b ∈ fp1, H' b = none) → ∀ b ∈ fp1, FpOk (X.blk s3 H3 scope ce fp) ([] ++ pinsAt fp s7.heap) H' b := fun hn b hb => ⟨hn b hb, (f11 b hb).2⟩
        have loop1 : codeAny (model X.prog X.w) X.A (.compLoop (.DictComp kx vx [⟨tg, iter, ifs, 0⟩, ⟨tg1, iter1, ifs1, 0⟩] scope pos) 1 (.ref it1) (.ref D) ce)
            (fun r s' => match r with
              | .ok _ => ∃ m, m < n ∧ ∃ i H', L2.Inv (X.blk s3 H3 scope ce fp) [] (wipe σ (own.map (·.2))) H' s' ∧ tn i s'.heap ∧ (∀ b ∈ fp, H' b = none) ∧ W i m H'
              | .error _ => False) s11 := by
          refine dcl2_in (fun k s' => ∃ j H', L2.Inv (X.blk s3 H3 scope ce fp) ([] ++ pinsAt fp s7.heap) (wipe σ8 vs1) H' s' ∧ tn1 j s'.heap ∧ (∀ b ∈ fp1, H' b = none) ∧ W1 j k H') ?_ m1 ⟨0, H11, I11.weak (wipe_length _ _) (fun j v e => (wipe_some e).1), st11, fun b hb => (f11 b hb).1, w1⟩
          rintro k s12 ⟨j, H12, I12, st12, n12, w12⟩
          rcases turn1 j k H12 w12 with ⟨stop1, nx1⟩ | ⟨go1, Nx1, hNx1, step1⟩
          · refine thnF (T1.done (X.blk s3 H3 scope ce fp) rfl rfl rfl hc j _ s12 (wipe σ8 vs1) H12 (fun _ _ => False) I12 (stat1 n12) st12 stop1) fun r s13 ⟨hr, I13⟩ => ?_
            subst hr
            exact fin I13 (hl8.trans (wipe_length σ8 vs1).symm) hk9 nx1
          · refine thnF (T1.item (X.blk s3 H3 scope ce fp) rfl rfl rfl hc j _ s12 (wipe σ8 vs1) H12 (fun _ _ => False) I12 (stat1 n12) st12 go1) fun r s13 ⟨u1, hr, h13⟩ => ?_
            subst hr
            refine thnF h13 fun _ s14 ⟨x1, H14, I14, r14, y14, st14, n14⟩ => ?_
            have I14' := I14.pinned (stat1 n14) (T1.obj _ _ st14)
            refine thnF (pg1.run _ s14 (wipe σ8 vs1) H14 x1 u1 _ I14' r14 (step1 x1 H14 y14)) fun _ s15 ⟨σ15, H15, I15, hw15, q15⟩ => ?_
            refine thnF (pt1.run _ s15 σ15 H15 _ I15 q15) fun b1 s16 ⟨H16, I16, q16⟩ => ?_
            have fin1 : ∀ {s' : Shared} {H' : Hp}, L2.Inv (X.blk s3 H3 scope ce fp) (([] ++ pinsAt fp s7.heap) ++ pinsAt fp1 s14.heap) σ15 H' s' → Nx1 H' → ∃ m, m < k ∧ ∃ j H', L2.Inv (X.blk s3 H3 scope ce fp) ([] ++ pinsAt fp s7.heap) (wipe σ8 vs1) H' s' ∧ tn1 j s'.heap ∧ (∀ b ∈ fp1, H' b = none) ∧ W1 j m H' := fun {s' H'} I' nx => by
              obtain ⟨m', hm, w'⟩ := hNx1 H' nx
              have pin' : ∀ b ∈ fp1, ∀ o, s14.heap.get? b = some o → s'.heap.get? b = some o ∧ H' b = none := fun b hb o e =>
                let z := I'.pin (b, o) (List.mem_append_right _ (List.mem_append_right _ (mem_pinsAt hb e)))
                ⟨z.1, z.2.1⟩
              refine ⟨m', hm, j + 1, H', I'.unpinned.weak (by rw [← hw15, wipe_length]) (fun j v e => by rw [← hw15] at e; exact (wipe_some e).1), T1.keep _ _ _ st14 fun b hb o e => (pin' b hb o e).1, fun b hb => ?_, w'⟩
              obtain ⟨o, e, _⟩ := T1.obj _ _ st14 b hb
              exact (pin' b hb o e).2
            cases b1 with
            | false =>
              simp only [Bool.false_eq_true, if_false] at q16 ⊢
              exact fin1 I16 q16
            | true =>
              simp only [if_true] at q16 ⊢
              refine thnF (pk.run _ s16 σ15 H16 _ I16 q16) fun z s17 ⟨yk, H17, I17, r17, q17⟩ => ?_
              refine thnF (pe.run _ s17 σ15 H17 _ I17 q17) fun z2 s18 ⟨yv, H18, I18, r18, kvs, k, ek, hD18, hz18, nx⟩ => ?_
              subst ek
              exact d_dictSet (X := X.blk s3 H3 scope ce fp) I18 hD18 hz18 r17 r18 fun s19 I19 => fin1 I19 nx
        exact dcs1_ok loop1 (T1.self X.A 0 _ _ _ st11 loop1)
  exact codeAny_compStart_dict loop (T.self X.A 0 _ _ _ st4 loop)
theorem pe_dc2 {kx vx tg iter tg1 iter1 : Expr} {ifs ifs1 : List Expr} {scope : Scope} {own : List (Str × Nat)} {vs1 : List Nat} {pos : Pos} {wi wi1 : TI} {g g1 : TG} {tt tt1 : TT} {tk tv : TE} (hc : X.calm = true) (hN : X.N.Nodup) (hi : PI X tg iter wi) (ok : BlkOk X.N X.env.scope scope own) (hv : ∀ i ∈ vs1, i ∈ own.map (·.2))
    (hg : ∀ (s : Shared) (H : Hp) (C : Addr) (cl : List (Str × Addr)) (fp : List Addr), PG (X.blk s H scope (compEnvC scope cl C X.env) fp) tg g) (ht : ∀ (s : Shared) (H : Hp) (C : Addr) (cl : List (Str × Addr)) (fp : List Addr), PTs (X.blk s H scope (compEnvC scope cl C X.env) fp) ifs tt)
    (hi1 : ∀ (s : Shared) (H : Hp) (C : Addr) (cl : List (Str × Addr)) (fp : List Addr), PI (X.blk s H scope (compEnvC scope cl C X.env) fp) tg1 iter1 wi1)
    (hg1 : ∀ (s : Shared) (H : Hp) (C : Addr) (cl : List (Str × Addr)) (fp : List Addr), PG (X.blk s H scope (compEnvC scope cl C X.env) fp) tg1 g1) (ht1 : ∀ (s : Shared) (H : Hp) (C : Addr) (cl : List (Str × Addr)) (fp : List Addr), PTs (X.blk s H scope (compEnvC scope cl C X.env) fp) ifs1 tt1)
    (hk : ∀ (s : Shared) (H : Hp) (C : Addr) (cl : List (Str × Addr)) (fp : List Addr), PE (X.blk s H scope (compEnvC scope cl C X.env) fp) kx tk)
    (he : ∀ (s : Shared) (H : Hp) (C : Addr) (cl : List (Str × Addr)) (fp : List Addr), PE (X.blk s H scope (compEnvC scope cl C X.env) fp) vx tv) (hs : ∀ x, foldedSetIterable iter X.env x = pure x := by intro _; rfl) (hs1 : ∀ env x, foldedSetIterable iter1 env x = pure x := by intro _ _; rfl) :
    PE X (.DictComp kx vx [⟨tg, iter, ifs, 0⟩, ⟨tg1, iter1, ifs1, 0⟩] scope pos) (tDc2 wi g tt wi1 g1 tt1 tk tv (own.map (·.2)) vs1) := by
  refine ⟨fun pins s σ H Q I h => ?_⟩
  rw [arm_eval_DictComp]
  refine dc2_core hc hN I hi ok hv hg ht hk he hs hi1 hg1 ht1 hs1 h fun D C s' m H' I' q hn f => ⟨m, hn, fun h'' sb => ?_⟩
  obtain ⟨f0, f1, f2, f3, f4, f5⟩ := f
  exact ⟨.ref D, H', I'.turned (t' := s'.toks) (fun b o hb e => (sb.2 b hb).trans e) f0 f1 f3 f4 f5, rfl, q⟩
theorem ps_setDc2 {i : Nat} {y : Str} {py : Pos} {kx vx tg iter tg1 iter1 : Expr} {ifs ifs1 : List Expr} {scope : Scope} {own : List (Str × Nat)} {vs1 : List Nat} {pos spos : Pos} {wi wi1 : TI} {g g1 : TG} {tt tt1 : TT} {tk tv : TE} (hc : X.calm = true) (hN : X.N.Nodup) (hy : X.N[i]? = some y) (hyl : X.env.scope.names.lookup y = some .local)
    (hsw : swapsWith (.DictComp kx vx [⟨tg, iter, ifs, 0⟩, ⟨tg1, iter1, ifs1, 0⟩] scope pos) (some (.Name y py)) spos.line X.env = pure true) (hi : PI X tg iter wi) (ok : BlkOk X.N X.env.scope scope own) (hv : ∀ i ∈ vs1, i ∈ own.map (·.2))
    (hg : ∀ (s : Shared) (H : Hp) (C : Addr) (cl : List (Str × Addr)) (fp : List Addr), PG (X.blk s H scope (compEnvC scope cl C X.env) fp) tg g) (ht : ∀ (s : Shared) (H : Hp) (C : Addr) (cl : List (Str × Addr)) (fp : List Addr), PTs (X.blk s H scope (compEnvC scope cl C X.env) fp) ifs tt)
    (hi1 : ∀ (s : Shared) (H : Hp) (C : Addr) (cl : List (Str × Addr)) (fp : List Addr), PI (X.blk s H scope (compEnvC scope cl C X.env) fp) tg1 iter1 wi1)
    (hg1 : ∀ (s : Shared) (H : Hp) (C : Addr) (cl : List (Str × Addr)) (fp : List Addr), PG (X.blk s H scope (compEnvC scope cl C X.env) fp) tg1 g1) (ht1 : ∀ (s : Shared) (H : Hp) (C : Addr) (cl : List (Str × Addr)) (fp : List Addr), PTs (X.blk s H scope (compEnvC scope cl C X.env) fp) ifs1 tt1)
    (hk : ∀ (s : Shared) (H : Hp) (C : Addr) (cl : List (Str × Addr)) (fp : List Addr), PE (X.blk s H scope (compEnvC scope cl C X.env) fp) kx tk)
    (he : ∀ (s : Shared) (H : Hp) (C : Addr) (cl : List (Str × Addr)) (fp : List Addr), PE (X.blk s H scope (compEnvC scope cl C X.env) fp) vx tv) (hs : ∀ x, foldedSetIterable iter X.env x = pure x := by intro _; rfl) (hs1 : ∀ env x, foldedSetIterable iter1 env x = pure x := by intro _ _; rfl) :
    PS X (.Assign [.Name y py] (.DictComp kx vx [⟨tg, iter, ifs, 0⟩, ⟨tg1, iter1, ifs1, 0⟩] scope pos) spos) (tAsg (tDc2 wi g tt wi1 g1 tt1 tk tv (own.map (·.2)) vs1) (gName i)) := by
  refine ⟨fun pins s σ H D I h => ?_⟩
  rw [exec_Assign_Name_used _ _ _ _ hsw]
  refine wpAny_bind (wpAny_standAt (wpAny_bind ?_))
  show wpAny _ X.A (do let _ ← comprehension (.DictComp kx vx [⟨tg, iter, ifs, 0⟩, ⟨tg1, iter1, ifs1, 0⟩] scope pos) scope X.env (firstIterPos [⟨tg, iter, ifs, 0⟩, ⟨tg1, iter1, ifs1, 0⟩] pos) newDict false (eval iter X.env) (some (assign (.Name y py) X.env))) _ _ s
  have h : tDc2 wi g tt wi1 g1 tt1 tk tv (own.map (·.2)) vs1 σ H (fun x H1 => gName i x σ H1 D.nx) := h
  refine wpAny_bind (thn (dc2_core (Qf := fun _ s' => SP X pins D .next s') hc hN I hi ok hv hg ht hk he hs hi1 hg1 ht1 hs1 h fun L C s' m H' I' q hn f => ?_) fun _ s' hq => wpAny_pure (wpAny_pure hq))
  show wpAny _ _ (assign (.Name y py) X.env (.ref L)) _ _ _
  refine wpAny_assign_Name (store_ok2 (v := V.ref L) I' hN hy (.inl hyl) rfl (fun s2 I2 ⟨a, sb, ha⟩ => ?_) (.inr hyl))
  obtain ⟨f0, f1, f2, f3, f4, f5⟩ := f
  have haC : C ≠ a := by
    rcases ha with z | z
    · rw [z]; exact f1
    · exact fun e => f4 y a z e.symm
  refine ⟨m, hn.sameBut sb haC, fun h3 sb3 => ?_⟩
  exact ⟨_, H', I2.turned (t' := s2.toks) (fun b o hb e => (sb3.2 b hb).trans e) f0 f1 f3 f4 f5, q⟩
theorem ps_setDc {i : Nat} {y : Str} {py : Pos} {kx vx tg iter : Expr} {ifs : List Expr} {scope : Scope} {own : List (Str × Nat)} {pos spos : Pos} {wi : TI} {g : TG} {tt : TT} {tk tv : TE} (hc : X.calm = true) (hN : X.N.Nodup) (hy : X.N[i]? = some y) (hyl : X.env.scope.names.lookup y = some .local)
    (hsw : swapsWith (.DictComp kx vx [⟨tg, iter, ifs, 0⟩] scope pos) (some (.Name y py)) spos.line X.env = pure true) (hi : PI X tg iter wi) (ok : BlkOk X.N X.env.scope scope own)
    (hg : ∀ (s : Shared) (H : Hp) (C : Addr) (cl : List (Str × Addr)) (fp : List Addr), PG (X.blk s H scope (compEnvC scope cl C X.env) fp) tg g) (ht : ∀ (s : Shared) (H : Hp) (C : Addr) (cl : List (Str × Addr)) (fp : List Addr), PTs (X.blk s H scope (compEnvC scope cl C X.env) fp) ifs tt)
    (hk : ∀ (s : Shared) (H : Hp) (C : Addr) (cl : List (Str × Addr)) (fp : List Addr), PE (X.blk s H scope (compEnvC scope cl C X.env) fp) kx tk)
    (he : ∀ (s : Shared) (H : Hp) (C : Addr) (cl : List (Str × Addr)) (fp : List Addr), PE (X.blk s H scope (compEnvC scope cl C X.env) fp) vx tv) (hs : ∀ x, foldedSetIterable iter X.env x = pure x := by intro _; rfl) :
    PS X (.Assign [.Name y py] (.DictComp kx vx [⟨tg, iter, ifs, 0⟩] scope pos) spos) (tAsg (tDc wi g tt tk tv (own.map (·.2))) (gName i)) := by
  refine ⟨fun pins s σ H D I h => ?_⟩
  rw [exec_Assign_Name_used _ _ _ _ hsw]
  refine wpAny_bind (wpAny_standAt (wpAny_bind ?_))
  show wpAny _ X.A (do let _ ← comprehension (.DictComp kx vx [⟨tg, iter, ifs, 0⟩] scope pos) scope X.env (firstIterPos [⟨tg, iter, ifs, 0⟩] pos) newDict false (eval iter X.env) (some (assign (.Name y py) X.env))) _ _ s
  have h : tDc wi g tt tk tv (own.map (·.2)) σ H (fun x H1 => gName i x σ H1 D.nx) := h
  refine wpAny_bind (thn (dc_core (Qf := fun _ s' => SP X pins D .next s') hc hN I hi ok hg ht hk he hs h fun L C s' m H' I' q hn f => ?_) fun _ s' hq => wpAny_pure (wpAny_pure hq))
  show wpAny _ _ (assign (.Name y py) X.env (.ref L)) _ _ _
  refine wpAny_assign_Name (store_ok2 (v := V.ref L) I' hN hy (.inl hyl) rfl (fun s2 I2 ⟨a, sb, ha⟩ => ?_) (.inr hyl))
  obtain ⟨f0, f1, f2, f3, f4, f5⟩ := f
  have haC : C ≠ a := by
    rcases ha with z | z
    · rw [z]; exact f1
    · exact fun e => f4 y a z e.symm
  refine ⟨m, hn.sameBut sb haC, fun h3 sb3 => ?_⟩
  exact ⟨_, H', I2.turned (t' := s2.toks) (fun b o hb e => (sb3.2 b hb).trans e) f0 f1 f3 f4 f5, q⟩
theorem sw_trueD {kx vx : Expr} {gs : List Comprehension} {scope : Scope} {pos py : Pos} {y : Str} {l : Nat} {env : Env} (hk : env.scope.kind = .function) (hy : env.scope.names.lookup y = some .local) (hl : (py.line == pos.line) = true)
    (ha : (scope.names.any fun (n, k) => n == y && (k == .local || k == .cell)) = false) : swapsWith (.DictComp kx vx gs scope pos) (some (.Name y py)) l env = pure true := by
  have ky : env.kindOf y = some .local := hy
  have hb : env.blockKind = .function := by unfold Env.blockKind; rw [hk]; rfl
  unfold swapsWith
  simp only [hb, ky, ha, Expr.pos, hl]
  rfl
end
end Sq
set_option Elab.async false
set_option linter.all false
set_option maxRecDepth 100000
set_option maxHeartbeats 2000000
namespace Sq
open PySem PySem.Spec PyProof.Rows L2 RZ
/-! ### list(zip(t, u)) of tuples -/
section
variable {prog : Program} {w : World} {A : Around} {E : Value → Shared → Prop} {s : Shared}
theorem zipT_held_item {z TI TO T i1 i2 l1 l2 : Addr} {f : Bool} {oT : Obj} {k1 k2 : Nat} {xs ys : Array Value} {x y : Value} {Q : Value → Shared → Prop} (D : ZipApart z TI TO i1 i2 l1 l2)
    (hz : IsZipHeld s.heap z TI TO T f) (hT : s.heap.get? T = some oT) (hTI : IsPair s.heap TI (.ref i1) (.ref i2))
    (h1 : s.heap.IsTupleIter i1 l1 k1) (h2 : s.heap.IsTupleIter i2 l2 k2) (hl1 : s.heap.IsTuple l1 xs) (hl2 : s.heap.IsTuple l2 ys) (hx : xs[k1]? = some x) (hy : ys[k2]? = some y)
    (hQ : ∀ h', IsZipHeld h' z TI TO T true → h'.IsTupleIter i1 l1 (k1 + 1) → h'.IsTupleIter i2 l2 (k2 + 1) → IsPair h' s.heap.objs.size x y → h'.objs.size = s.heap.objs.size + 1 →
      (∀ c o, c ≠ z → c ≠ i1 → c ≠ i2 → s.heap.get? c = some o → h'.get? c = some o) → Q (.ref s.heap.objs.size) { s with heap := h' }) :
    wpAny (model prog w) A (Builtin.«zip.__next__» ⟨[.ref z], []⟩) (fun fin s' => ∃ v, fin = .done (.ret v) ∧ Q v s') E s := by
  show wpAny _ _ (field (.ref z) 2 >>= _) _ _ _
  refine wpAny_bind (wpAny_field hz rfl (x := .bool false) rfl ?_)
  show wpAny _ _ (field (.ref z) 3 >>= _) _ _ _
  refine wpAny_bind (wpAny_field hz rfl (x := .ref TI) rfl ?_)
  refine wpAny_bind (wpAny_seqItems hTI rfl ?_)
  show wpAny _ _ (Builtin.SmallTypes.ownedTupleIsFree (.ref z) >>= _) _ _ _
  refine wpAny_bind (wpAny_tupleHeld_zip hz hT fun h₁ hz₁ hs₁ => ?_)
  simp only [Bool.false_eq_true, if_false]
  refine wpAny_bind ?_
  rw [← Array.forIn_toList]
  simp only [List.forIn_cons, List.forIn_nil]
  refine wpAny_bind (wpAny_bind (wpAny_holding ?_))
  show wpAny _ _ (Builtin.SmallTypes.nextOf (.ref i1) >>= _) _ _ _
  refine wpAny_bind (nextOf_tuple_item (s := { s with heap := h₁ }) (h1.extBut hs₁.extBut D.i1z) (hl1.extBut hs₁.extBut D.l1z) hx fun h₂ h1₂ hs₂ => wpAny_pure ?_)
  refine wpAny_pure ?_
  refine wpAny_bind (wpAny_bind (wpAny_holding ?_))
  show wpAny _ _ (Builtin.SmallTypes.nextOf (.ref i2) >>= _) _ _ _
  refine wpAny_bind (nextOf_tuple_item (s := { s with heap := h₂ }) ((h2.extBut hs₁.extBut D.i2z).extBut hs₂.extBut D.i12.symm) ((hl2.extBut hs₁.extBut D.l2z).extBut hs₂.extBut D.l2i1) hy fun h₃ h2₃ hs₃ => wpAny_pure ?_)
  refine wpAny_pure (wpAny_pure ?_)
  show wpAny _ _ (newTuple [x, y] >>= _) _ _ _
  refine wpAny_bind (wpAny_newTuple ?_)
  have hsz : h₃.objs.size = s.heap.objs.size := by rw [hs₃.1, hs₂.1, hs₁.1]
  have hz₃ : IsZipHeld h₃ z TI TO T true := hs₃.extBut _ _ D.i2z.symm (hs₂.extBut _ _ D.i1z.symm hz₁)
  have hk : ∀ c o, c ≠ z → c ≠ i1 → c ≠ i2 → s.heap.get? c = some o → h₃.get? c = some o := fun c o c1 c2 c3 e => hs₃.extBut _ _ c3 (hs₂.extBut _ _ c2 (hs₁.extBut _ _ c1 e))
  have h1₃ : h₃.IsTupleIter i1 l1 (k1 + 1) := h1₂.extBut hs₃.extBut D.i12
  refine wpAny_pure ⟨_, rfl, ?_⟩
  show Q (.ref h₃.objs.size) _
  have hp : IsPair (h₃.push { cls := .type "tuple", data := .seq #[x, y] }) h₃.objs.size x y := Heap.get?_push_size _ rfl
  have hz4 : (h₃.push { cls := .type "tuple", data := .seq #[x, y] }).objs.size = h₃.objs.size + 1 := Heap.size_push ..
  rw [hsz] at hp hz4 ⊢
  exact hQ _ (Heap.get?_push_of_some _ hz₃) (h1₃.at fun o e => Heap.get?_push_of_some _ e) (h2₃.at fun o e => Heap.get?_push_of_some _ e) hp hz4 fun c o c1 c2 c3 e => Heap.get?_push_of_some _ (hk c o c1 c2 c3 e)

theorem zipT_held_end {z TI TO T i1 i2 l1 l2 : Addr} {f : Bool} {oT : Obj} {k1 k2 : Nat} {xs ys : Array Value} {Q : Fin → Shared → Prop} (hh : A.handled = none) (D : ZipApart z TI TO i1 i2 l1 l2)
    (hz : IsZipHeld s.heap z TI TO T f) (hT : s.heap.get? T = some oT) (hTI : IsPair s.heap TI (.ref i1) (.ref i2))
    (h1 : s.heap.IsTupleIter i1 l1 k1) (h2 : s.heap.IsTupleIter i2 l2 k2) (hl1 : s.heap.IsTuple l1 xs) (hl2 : s.heap.IsTuple l2 ys) (hend : xs[k1]? = none ∨ ys[k2]? = none)
    (hE : ∀ h' e, (∀ c o, c ≠ z → c ≠ i1 → c ≠ i2 → s.heap.get? c = some o → h'.get? c = some o) → (∃ o, h'.get? e = some o ∧ o.cls = .type "StopIteration") → E (.ref e) { s with heap := h' }) :
    wpAny (model prog w) A (Builtin.«zip.__next__» ⟨[.ref z], []⟩) Q E s := by
  show wpAny _ _ (field (.ref z) 2 >>= _) _ _ _
  refine wpAny_bind (wpAny_field hz rfl (x := .bool false) rfl ?_)
  show wpAny _ _ (field (.ref z) 3 >>= _) _ _ _
  refine wpAny_bind (wpAny_field hz rfl (x := .ref TI) rfl ?_)
  refine wpAny_bind (wpAny_seqItems hTI rfl ?_)
  show wpAny _ _ (Builtin.SmallTypes.ownedTupleIsFree (.ref z) >>= _) _ _ _
  refine wpAny_bind (wpAny_tupleHeld_zip hz hT fun h₁ hz₁ hs₁ => ?_)
  simp only [Bool.false_eq_true, if_false]
  refine wpAny_bind ?_
  rw [← Array.forIn_toList]
  simp only [List.forIn_cons, List.forIn_nil]
  refine wpAny_bind (wpAny_bind (wpAny_holding ?_))
  show wpAny _ _ (Builtin.SmallTypes.nextOf (.ref i1) >>= _) _ _ _
  cases hx : xs[k1]? with
  | none =>
    refine wpAny_bind (nextOf_tuple_end (s := { s with heap := h₁ }) hh (h1.extBut hs₁.extBut D.i1z) (hl1.extBut hs₁.extBut D.l1z) hx fun h₂ e hs₂ he => ?_)
    exact hE h₂ e (fun c o c1 c2 _ x => hs₂ _ _ c2 (hs₁.extBut _ _ c1 x)) he
  | some x =>
    have hy : ys[k2]? = none := by rcases hend with h | h; rw [hx] at h; cases h; exact h
    refine wpAny_bind (nextOf_tuple_item (s := { s with heap := h₁ }) (h1.extBut hs₁.extBut D.i1z) (hl1.extBut hs₁.extBut D.l1z) hx fun h₂ h1₂ hs₂ => wpAny_pure ?_)
    refine wpAny_pure ?_
    refine wpAny_bind (wpAny_bind (wpAny_holding ?_))
    show wpAny _ _ (Builtin.SmallTypes.nextOf (.ref i2) >>= _) _ _ _
    refine wpAny_bind (nextOf_tuple_end (s := { s with heap := h₂ }) hh ((h2.extBut hs₁.extBut D.i2z).extBut hs₂.extBut D.i12.symm) ((hl2.extBut hs₁.extBut D.l2z).extBut hs₂.extBut D.l2i1) hy fun h₃ e hs₃ he => ?_)
    exact hE h₃ e (fun c o c1 c2 c3 x => hs₃ _ _ c3 (hs₂.extBut _ _ c2 (hs₁.extBut _ _ c1 x))) he

theorem nextT_held_item {z TI TO T i1 i2 l1 l2 : Addr} {f : Bool} {oT : Obj} {k1 k2 : Nat} {xs ys : Array Value} {x y : Value} {Q : Option Value → Shared → Prop} (D : ZipApart z TI TO i1 i2 l1 l2)
    (hz : IsZipHeld s.heap z TI TO T f) (hT : s.heap.get? T = some oT) (hTI : IsPair s.heap TI (.ref i1) (.ref i2))
    (h1 : s.heap.IsTupleIter i1 l1 k1) (h2 : s.heap.IsTupleIter i2 l2 k2) (hl1 : s.heap.IsTuple l1 xs) (hl2 : s.heap.IsTuple l2 ys) (hx : xs[k1]? = some x) (hy : ys[k2]? = some y)
    (hQ : ∀ h', IsZipHeld h' z TI TO T true → h'.IsTupleIter i1 l1 (k1 + 1) → h'.IsTupleIter i2 l2 (k2 + 1) → IsPair h' s.heap.objs.size x y → h'.objs.size = s.heap.objs.size + 1 →
      (∀ c o, c ≠ z → c ≠ i1 → c ≠ i2 → s.heap.get? c = some o → h'.get? c = some o) → Q (some (.ref s.heap.objs.size)) { s with heap := h' }) :
    wpAny (model prog w) A (pyNext (.ref z)) Q E s := by
  have hTy : s.TypeIs (.ref z) "zip" := ⟨_, hz, rfl⟩
  unfold pyNext
  exact wpAny_bind (wpAny_attempt (wpAny_callSpecial?_slot (name := Str.ofString "__next__") hTy F.slot_zip_next
    (wpAny_call_entry F.slot_zip_next hTy F.entry_zip_next
      (zipT_held_item D hz hT hTI h1 h2 hl1 hl2 hx hy fun h' a1 a3 a4 a5 a6 a7 => wpAny_pure (hQ h' a1 a3 a4 a5 a6 a7)) (F.args_zip_next_1 _))))
theorem nextT_held_end {z TI TO T i1 i2 l1 l2 : Addr} {f : Bool} {oT : Obj} {k1 k2 : Nat} {xs ys : Array Value} {Q : Option Value → Shared → Prop} (hh : A.handled = none) (D : ZipApart z TI TO i1 i2 l1 l2)
    (hz : IsZipHeld s.heap z TI TO T f) (hT : s.heap.get? T = some oT) (hTI : IsPair s.heap TI (.ref i1) (.ref i2))
    (h1 : s.heap.IsTupleIter i1 l1 k1) (h2 : s.heap.IsTupleIter i2 l2 k2) (hl1 : s.heap.IsTuple l1 xs) (hl2 : s.heap.IsTuple l2 ys) (hend : xs[k1]? = none ∨ ys[k2]? = none)
    (hQ : ∀ h', (∀ c o, c ≠ z → c ≠ i1 → c ≠ i2 → s.heap.get? c = some o → h'.get? c = some o) → Q none { s with heap := h' }) : wpAny (model prog w) A (pyNext (.ref z)) Q E s := by
  have hTy : s.TypeIs (.ref z) "zip" := ⟨_, hz, rfl⟩
  unfold pyNext
  refine wpAny_bind (wpAny_attempt (wpAny_callSpecial?_slot (name := Str.ofString "__next__") hTy F.slot_zip_next
    (wpAny_call_entry F.slot_zip_next hTy F.entry_zip_next (zipT_held_end hh D hz hT hTI h1 h2 hl1 hl2 hend fun h' e hk he => ?_) (F.args_zip_next_1 _))))
  obtain ⟨o, ho, hc⟩ := he
  refine wpAny_bind (wpAny_isInstance (T := "StopIteration") (b := true) ⟨o, ho, hc⟩ isSubtype_stop ?_)
  exact wpAny_pure (hQ _ hk)
end
theorem zip_no_len : typeLookup (.type "zip") "__len__" = pure none := am_miss_of_fast (by decide +kernel)
theorem zip_no_hint : typeLookup (.type "zip") "__length_hint__" = pure none := am_miss_of_fast (by decide +kernel)
/-- pairs made so far -/
def Prs (H : Hp) (xs ys vs : List V) (n : Nat) : Prop := vs.length = n ∧ ∀ j, j < n → ∃ T x y, vs[j]? = some (.ref T) ∧ H T = some (.tup [x, y]) ∧ xs[j]? = some x ∧ ys[j]? = some y
theorem Prs.ext {S : List Addr} {H H' : Hp} {xs ys vs : List V} {n : Nat} (p : Prs H xs ys vs n) (e : Ext S H H') : Prs H' xs ys vs n :=
  ⟨p.1, fun j h => let ⟨T, x, y, a, b, c⟩ := p.2 j h; ⟨T, x, y, a, e.tup _ _ b, c⟩⟩
theorem Prs.snoc {H : Hp} {xs ys vs : List V} {n : Nat} {T : Addr} {x y : V} (p : Prs H xs ys vs n) (h : H T = some (.tup [x, y])) (hx : xs[n]? = some x) (hy : ys[n]? = some y) : Prs H xs ys (vs ++ [.ref T]) (n + 1) := by
  refine ⟨by rw [List.length_append, p.1]; rfl, fun j hj => ?_⟩
  by_cases q : j < n
  · obtain ⟨T, x, y, a, b⟩ := p.2 j q
    exact ⟨T, x, y, by rw [List.getElem?_append_left (by rw [p.1]; exact q)]; exact a, b⟩
  · have e : j = n := by omega
    subst e
    exact ⟨T, x, y, by rw [List.getElem?_append_right (by rw [p.1]; exact Nat.le_refl _), p.1, Nat.sub_self]; rfl, h, hx, hy⟩
/-- the zip between its turns: fresh, or a tuple that it gave out is still there -/
def ZSt (H : Hp) (h : Heap) (z TI TO : Addr) : Prop := TO < h.objs.size ∧ ((IsZip h z TI TO .none ∧ ∃ x y, IsPair h TO x y) ∨ ∃ T f q, IsZipHeld h z TI TO T f ∧ H T = some (.tup q))
section
variable {X : Cx} {pins : List (Addr × Obj)} {σ : L2.St} {z TI TO i1 i2 a b : Addr} {xs ys : List V} {A : Around} {E : Value → Shared → Prop}
theorem zip_turn {H : Hp} {s : Shared} {i : Nat} {x y : V} {Q : Option Value → Shared → Prop} (D : ZipApart z TI TO i1 i2 a b) (I : L2.Inv X pins σ H s) (ha : SqT X.K H a xs) (hb : SqT X.K H b ys) (hTI : IsPair s.heap TI (.ref i1) (.ref i2))
    (h1 : s.heap.IsTupleIter i1 a i) (h2 : s.heap.IsTupleIter i2 b i) (hz : ZSt H s.heap z TI TO) (hf : ∀ q ∈ [z, TI, TO, i1, i2], FpOk X pins H q) (hx : xs[i]? = some x) (hy : ys[i]? = some y)
    (hQ : ∀ h' T, L2.Inv X pins σ (upd H T (.tup [x, y])) { s with heap := h' } → H T = none → IsPair h' TI (.ref i1) (.ref i2) → h'.IsTupleIter i1 a (i + 1) → h'.IsTupleIter i2 b (i + 1) → ZSt (upd H T (.tup [x, y])) h' z TI TO →
      (∀ q ∈ [z, TI, TO, i1, i2], FpOk X pins (upd H T (.tup [x, y])) q) → Q (some (.ref T)) { s with heap := h' }) : wpAny (model X.prog X.w) A (pyNext (.ref z)) Q E s := by
  obtain ⟨its, rv, p, _⟩ := I.tuple ha
  obtain ⟨its2, rv2, p2, _⟩ := I.tuple hb
  obtain ⟨u, hu, ru⟩ := rv.get hx
  obtain ⟨u2, hu2, ru2⟩ := rv2.get hy
  have hu' : its.toArray[i]? = some u := by simpa using hu
  have hu2' : its2.toArray[i]? = some u2 := by simpa using hu2
  obtain ⟨TOlt, hz⟩ := hz
  have hzl : z < s.heap.objs.size := by
    rcases hz with ⟨q, _⟩ | ⟨_, _, _, q, _⟩
    · exact Heap.lt_size q
    · exact Heap.lt_size q
  have key : ∀ (h' : Heap), IsPair h' s.heap.objs.size u u2 → h'.objs.size = s.heap.objs.size + 1 → (∀ c o, c ≠ z → c ≠ TO → c ≠ i1 → c ≠ i2 → s.heap.get? c = some o → h'.get? c = some o) → h'.IsTupleIter i1 a (i + 1) → h'.IsTupleIter i2 b (i + 1) →
      ZSt (upd H s.heap.objs.size (.tup [x, y])) h' z TI TO → Q (some (.ref s.heap.objs.size)) { s with heap := h' } := fun h' hT hsz hk a1 a2 hz' => by
    have hn : H s.heap.objs.size = none := I.hok.fresh (Nat.le_refl _)
    refine hQ h' _ (I.turnedNew (t' := s.toks) (ch := [z, TI, TO, i1, i2]) (fun c o hb q => hk c o (fun q' => hb (by simp [q'])) (fun q' => hb (by simp [q'])) (fun q' => hb (by simp [q'])) (fun q' => hb (by simp [q'])) q) hf (Nat.le_refl _)
      ⟨by show 2 ≤ sizeLine; decide, [u, u2], .cons ru (.cons ru2 .nil), ⟨_, hT, rfl, _, rfl⟩⟩) hn (hk _ _ D.TIz D.TITO D.TIi1 D.TIi2 hTI) a1 a2 hz' fun c hcm => ?_
    refine ⟨?_, (hf c hcm).2⟩
    have hlt : c < s.heap.objs.size := by
      have e' : c = z ∨ c = TI ∨ c = TO ∨ c = i1 ∨ c = i2 := by simpa using hcm
      rcases e' with q | q | q | q | q
      · rw [q]; exact hzl
      · rw [q]; exact Heap.lt_size hTI
      · rw [q]; exact TOlt
      · rw [q]; obtain ⟨_, e1, _⟩ := h1; exact Heap.lt_size e1
      · rw [q]; obtain ⟨_, e2, _⟩ := h2; exact Heap.lt_size e2
    rw [upd_ne (Nat.ne_of_lt hlt)]
    exact (hf c hcm).1
  have new : ∀ o, upd H s.heap.objs.size o s.heap.objs.size = some o := fun o => upd_same
  rcases hz with ⟨hz, x0, y0, hTO⟩ | ⟨T, f, q, hz, hq⟩
  · exact RZ.pyNext_zipT_item D hz hTI hTO h1 h2 p p2 hu' hu2' fun h' z' TO' h1' h2' hT hsz hk =>
      key h' hT hsz hk h1' h2' ⟨by rw [hsz]; exact Nat.lt_succ_of_lt TOlt, .inr ⟨_, false, _, z', new _⟩⟩
  · obtain ⟨_, itsT, _, oT, hoT, _⟩ := (show ObjOk X.prog X.w H s.heap T (.tup q) from I.hok T _ hq)
    have hTn : T ≠ s.heap.objs.size := Nat.ne_of_lt (Heap.lt_size hoT)
    refine nextT_held_item D hz hoT hTI h1 h2 p p2 hu' hu2' fun h' z' h1' h2' hT hsz hk => ?_
    exact key h' hT hsz (fun c o c1 _ c3 c4 e => hk c o c1 c3 c4 e) h1' h2' ⟨by rw [hsz]; exact Nat.lt_succ_of_lt TOlt, .inr ⟨T, true, q, z', by rw [upd_ne hTn]; exact hq⟩⟩
theorem zip_over {H : Hp} {s : Shared} {i : Nat} {Q : Option Value → Shared → Prop} (hh : A.handled = none) (D : ZipApart z TI TO i1 i2 a b) (I : L2.Inv X pins σ H s) (ha : SqT X.K H a xs) (hb : SqT X.K H b ys) (hTI : IsPair s.heap TI (.ref i1) (.ref i2))
    (h1 : s.heap.IsTupleIter i1 a i) (h2 : s.heap.IsTupleIter i2 b i) (hz : ZSt H s.heap z TI TO) (hf : ∀ q ∈ [z, TI, TO, i1, i2], FpOk X pins H q) (he : xs[i]? = none ∨ ys[i]? = none)
    (hQ : ∀ h', L2.Inv X pins σ H { s with heap := h' } → Q none { s with heap := h' }) : wpAny (model X.prog X.w) A (pyNext (.ref z)) Q E s := by
  obtain ⟨its, rv, p, _⟩ := I.tuple ha
  obtain ⟨its2, rv2, p2, _⟩ := I.tuple hb
  have l1 := rv.length
  have l2 := rv2.length
  have he' : its.toArray[i]? = none ∨ its2.toArray[i]? = none := by
    rcases he with q | q
    · rw [List.getElem?_eq_none_iff] at q
      exact .inl (by simp; omega)
    · rw [List.getElem?_eq_none_iff] at q
      exact .inr (by simp; omega)
  obtain ⟨TOlt, hz⟩ := hz
  rcases hz with ⟨hz, x0, y0, hTO⟩ | ⟨T, f, q, hz, hq⟩
  · exact RZ.pyNext_zipT_end hh D hz hTI hTO h1 h2 p p2 he' fun h' hk => hQ h' (I.turnedL (t' := s.toks) (ch := [z, TI, TO, i1, i2]) (fun c o hb q =>
      hk c o (fun q' => hb (by simp [q'])) (fun q' => hb (by simp [q'])) (fun q' => hb (by simp [q'])) (fun q' => hb (by simp [q'])) q) hf)
  · obtain ⟨_, itsT, _, oT, hoT, _⟩ := (show ObjOk X.prog X.w H s.heap T (.tup q) from I.hok T _ hq)
    exact nextT_held_end hh D hz hoT hTI h1 h2 p p2 he' fun h' hk => hQ h' (I.turnedL (t' := s.toks) (ch := [z, TI, TO, i1, i2]) (fun c o hb q =>
      hk c o (fun q' => hb (by simp [q'])) (fun q' => hb (by simp [q'])) (fun q' => hb (by simp [q'])) q) hf)
theorem Ext.newer {H0 H' : Hp} {S : Addr} {o : HO} (h : Ext [S] (upd H0 S o) H') (n : H0 S = none) : Ext [] H0 H' := by
  have k : ∀ b u, H0 b = some u → b ≠ S ∧ upd H0 S o b = some u := fun b u e => by
    have q := ne_of_none e n
    exact ⟨q, by rw [upd_ne q]; exact e⟩
  refine ⟨fun b u e _ m => h.keep b u (k b u e).2 (fun z => (k b u e).1 (by simpa using z)) m, fun b xs e => h.tup b xs (k b _ e).2, fun b u v e => h.frz b u v (k b _ e).2, fun P ⟨ps, e, t⟩ => h.tab P ⟨ps, (k P _ e).2, t⟩⟩
theorem zip_loop {S : Addr} {n : Nat} {res : Value} {R : Result → Shared → Prop} (hh : A.handled = none) (D : ZipApart z TI TO i1 i2 a b) (hn : n = min xs.length ys.length) (hm : n ≤ 100000) :
    ∀ (k i : Nat) (s : Shared) (H : Hp) (vs : List V), n - i = k → i ≤ n → L2.Inv X pins σ H s → SqT X.K H a xs → SqT X.K H b ys → IsPair s.heap TI (.ref i1) (.ref i2) → s.heap.IsTupleIter i1 a i → s.heap.IsTupleIter i2 b i → ZSt H s.heap z TI TO →
      (∀ q ∈ [z, TI, TO, i1, i2], FpOk X pins H q) → H S = some (.lst vs) → Prs H xs ys vs i →
      (∀ s' H' vs', L2.Inv X pins σ H' s' → H' S = some (.lst vs') → Prs H' xs ys vs' n → Ext [S] H H' → R (.ok (.ret res)) s') →
      codeAny (model X.prog X.w) A (.builtin "list.extend.loop" ⟨[.ref S, .ref z, res], []⟩) R s := by
  intro k
  induction k with
  | zero =>
    intro i s H vs hk hi I ha hb hTI h1 h2 hz hf hS hp hR
    have e : i = n := by omega
    subst e
    refine codeAny_builtin F.entry_extend_loop ?_
    rw [Around.under_plainId F.plain_extend_loop _]
    show wpAny _ A.in1 (pyNext (.ref z) >>= _) _ _ s
    refine wpAny_bind (zip_over hh D I ha hb hTI h1 h2 hz hf ?_ fun h' I' => wpAny_pure (hR _ H vs I' hS hp (Ext.refl _ _)))
    by_cases q : xs.length ≤ i
    · exact .inl (List.getElem?_eq_none q)
    · exact .inr (List.getElem?_eq_none (by omega))
  | succ k ih =>
    intro i s H vs hk hi I ha hb hTI h1 h2 hz hf hS hp hR
    have hx : xs[i]? = some (xs[i]'(by omega)) := List.getElem?_eq_getElem _
    have hy : ys[i]? = some (ys[i]'(by omega)) := List.getElem?_eq_getElem _
    revert hx hy
    generalize xs[i]'(by omega) = x
    generalize ys[i]'(by omega) = y
    intro hx hy
    refine codeAny_builtin F.entry_extend_loop ?_
    rw [Around.under_plainId F.plain_extend_loop _]
    show wpAny _ A.in1 (pyNext (.ref z) >>= _) _ _ s
    refine wpAny_bind (zip_turn D I ha hb hTI h1 h2 hz hf hx hy fun h' T I1 hT b1 b2 b3 b4 b5 => ?_)
    have eT : Ext [S] H (upd H T (.tup [x, y])) := (Ext.new hT).any
    have hST : S ≠ T := ne_of_none hS hT
    have hS1 : upd H T (.tup [x, y]) S = some (.lst vs) := by rw [upd_ne hST]; exact hS
    obtain ⟨zle, its, c, rv, hget⟩ := (show ObjOk X.prog X.w _ h' S (.lst vs) from I1.hok S _ hS1)
    have hlen : its.length = i := by rw [← rv.length]; exact hp.1
    have hz100 : (100000 : Nat) < sizeLine := by decide
    show wpAny _ A.in1 (updateSeq S (·.push (.ref T)) >>= _) _ _ _
    refine wpAny_bind (wpAny_updateSeq hget rfl (wpAny_pure ⟨plainId_quiet F.plain_extend_loop _, ?_⟩) (by simp; omega) (by simp; omega))
    have hnew := Heap.get?_update_self (Obj.mapSeq (·.push (Value.ref T))) hget rfl
    have oth : ∀ q o, q ≠ S → h'.get? q = some o → (h'.update S (Obj.mapSeq (·.push (Value.ref T)))).get? q = some o := fun q o n e => (Heap.get?_update_other _ _ (Ne.symm n)).trans e
    have I2 : L2.Inv X pins σ (upd (upd H T (.tup [x, y])) S (.lst (vs ++ [.ref T]))) { s with heap := h'.update S (Obj.mapSeq (·.push (Value.ref T))) } :=
      I1.write (t' := s.toks) (x := S) (e := S) (by rw [hS1]; exact True.intro) (.inl rfl) oth ⟨_, hnew⟩ ⟨by rw [List.length_append, hp.1]; show i + 1 ≤ _; omega, its ++ [.ref T], _, rv.append (.cons (show L2.RelV (.ref T) (Value.ref T) from rfl) .nil), by
        have q := hnew
        simp only [Obj.mapSeq, List.push_toArray] at q
        exact q⟩
    have eS : Ext [S] (upd H T (.tup [x, y])) (upd (upd H T (.tup [x, y])) S (.lst (vs ++ [.ref T]))) := Ext.setL List.mem_cons_self hS1
    have tT : (upd (upd H T (.tup [x, y])) S (.lst (vs ++ [.ref T]))) T = some (.tup [x, y]) := by rw [upd_ne hST.symm, upd_same]
    have ne : ∀ q ∈ [z, TI, TO, i1, i2], q ≠ S := fun q hq e => by
      have := (b5 q hq).1
      rw [e, hS1] at this
      cases this
    refine ih (i + 1) _ _ (vs ++ [.ref T]) (by omega) (by omega) I2 ((eT.trans eS).sqT ha) ((eT.trans eS).sqT hb) (oth _ _ (ne _ (by simp)) b1) (b2.at fun o e => oth _ o (ne _ (by simp)) e) (b3.at fun o e => oth _ o (ne _ (by simp)) e) ?_
      (fun q hq => ⟨by rw [upd_ne (ne q hq)]; exact (b5 q hq).1, (b5 q hq).2⟩) upd_same ((hp.ext (eT.trans eS)).snoc tT hx hy) fun s' H' vs' I' e' p' x' => hR s' H' vs' I' e' p' ((eT.trans eS).trans x')
    obtain ⟨l, b4⟩ := b4
    refine ⟨Nat.lt_of_lt_of_le l (Nat.le_of_eq (by first | rfl | exact (Heap.size_update ..).symm)), ?_⟩
    rcases b4 with ⟨q, x0, y0, q2⟩ | ⟨T', f, q, q1, q2⟩
    · exact .inl ⟨oth _ _ (ne _ (by simp)) q, x0, y0, oth _ _ (ne _ (by simp)) q2⟩
    · exact .inr ⟨T', f, q, oth _ _ (ne _ (by simp)) q1, (eS.tup _ _ q2)⟩
theorem call_list_zip {H : Hp} {s : Shared} {Q : Value → Shared → Prop} (hh : A.handled = none) (D : ZipApart z TI TO i1 i2 a b) (I : L2.Inv X pins σ H s) (ha : SqT X.K H a xs) (hb : SqT X.K H b ys) (hTI : IsPair s.heap TI (.ref i1) (.ref i2))
    (h1 : s.heap.IsTupleIter i1 a 0) (h2 : s.heap.IsTupleIter i2 b 0) (hz : IsZip s.heap z TI TO .none) (hTO : ∃ x y, IsPair s.heap TO x y) (hf : ∀ q ∈ [z, TI, TO, i1, i2], FpOk X pins H q) (hm : min xs.length ys.length ≤ 100000)
    (hQ : ∀ S s' H' vs, H S = none → L2.Inv X pins σ H' s' → H' S = some (.lst vs) → Prs H' xs ys vs (min xs.length ys.length) → Ext [] H H' → Q (.ref S) s') : wpAny (model X.prog X.w) A (call (.type "list") [.ref z]) Q E s := by
  have hSz : s.heap.objs.size ≠ z := Nat.ne_of_gt (Heap.lt_size hz)
  refine callType_codes (Q₁ := fun obj s₁ => obj = .ref s.heap.objs.size ∧ s₁ = { s with heap := s.heap.push { cls := .type "list", data := .seq #[] } }) F.called_list (F.typeCall_list_1 _) F.entry_list_init
    (code_list_new _ ⟨rfl, rfl⟩) fun obj s₁ h₁ => ?_
  obtain ⟨rfl, rfl⟩ := h₁
  have hS : (s.heap.push { cls := .type "list", data := .seq #[] }).get? s.heap.objs.size = some { cls := .type "list", data := .seq #[] } := Heap.get?_push_size _ rfl
  refine ⟨⟨_, hS, rfl⟩, F.args_list_init_2 _ _, ?_⟩
  show wpAny _ A.in1.in1 (do let old ← Builtin.List.listItems (.ref s.heap.objs.size); Builtin.List.listUpdate (.ref s.heap.objs.size) (fun _ => #[]); letGo old.toList.reverse; Builtin.List.listExtendWith (.ref s.heap.objs.size) (.ref z) .none) _ _ _
  refine wpAny_bind ?_
  unfold Builtin.List.listItems
  refine wpAny_bind (wpAny_seqItems hS rfl (wpAny_pure ?_))
  show wpAny _ A.in1.in1 (updateSeq s.heap.objs.size (fun _ => #[]) >>= fun _ => letGo (#[] : Array Value).toList.reverse >>= fun _ => Builtin.List.listExtendWith (.ref s.heap.objs.size) (.ref z) .none) _ _ _
  refine wpAny_bind (wpAny_updateSeq hS rfl ?_)
  have hS2 := Heap.get?_update_self (Obj.mapSeq (fun _ => (#[] : Array Value))) hS rfl
  refine wpAny_bind (wpAny_letGo ?_)
  unfold Builtin.List.listExtendWith
  have up : ∀ (h : Heap) (f : Obj → Obj), (∀ b o, s.heap.get? b = some o → h.get? b = some o) → ∀ b o, s.heap.get? b = some o → (h.update s.heap.objs.size f).get? b = some o := fun h f q b o e =>
    (Heap.get?_update_other _ _ (Ne.symm (Nat.ne_of_lt (Heap.lt_size e)))).trans (q b o e)
  have k1 : ∀ b o, s.heap.get? b = some o → (s.heap.push { cls := .type "list", data := .seq #[] }).get? b = some o := fun b o e => Heap.get?_push_of_some _ e
  have k2 := up _ (Obj.mapSeq (fun _ => (#[] : Array Value))) k1
  refine wpAny_bind (wpAny_typeOf (T := "zip") ⟨_, k2 _ _ hz, rfl⟩ ?_)
  have g1 : Builtin.List.listSameRef (.ref s.heap.objs.size) (.ref z) = false := by simp [Builtin.List.listSameRef, hSz]
  have g2 : (Value.type "zip" == Value.type "list") = false := by decide
  have g3 : (Value.type "zip" == Value.type "tuple") = false := by decide
  simp only [g1, g2, g3, Bool.or_false, Bool.false_eq_true, if_false]
  refine wpAny_bind (wpAny_pyIter_zip (k2 _ _ hz) ?_)
  refine wpAny_bind (wpAny_holding ?_)
  unfold Builtin.List.listLengthHint
  refine wpAny_bind (wpAny_specialOf (T := "zip") ⟨_, k2 _ _ hz, rfl⟩ zip_no_len ?_)
  show wpAny _ A.in1.in1 (specialOf (Value.ref z) (Str.ofString "__length_hint__") >>= _) _ _ _
  refine wpAny_bind (wpAny_specialOf (T := "zip") ⟨_, k2 _ _ hz, rfl⟩ zip_no_hint ?_)
  refine wpAny_pure ?_
  show wpAny _ A.in1.in1 (rule "list.extend.makes-room" >>= fun _ => Builtin.List.listTouch (.ref s.heap.objs.size) >>= fun _ =>
    again (.builtin "list.extend.loop" ⟨[.ref s.heap.objs.size, .ref z, .none], []⟩)) _ _ _
  refine wpAny_bind (wpAny_rule ?_)
  refine wpAny_bind ?_
  show wpAny _ A.in1.in1 (updateSeq s.heap.objs.size (·.push .none) >>= fun _ => updateSeq s.heap.objs.size (·.pop)) _ _ _
  refine wpAny_bind (wpAny_updateSeq hS2 rfl ?_)
  have hS3 := Heap.get?_update_self (Obj.mapSeq (·.push Value.none)) hS2 rfl
  refine wpAny_updateSeq (hz := by seq_fits) hS3 rfl ?_
  have hS4 := Heap.get?_update_self (Obj.mapSeq (·.pop)) hS3 rfl
  have k4 := up _ (Obj.mapSeq (·.pop)) (up _ (Obj.mapSeq (·.push Value.none)) k2)
  refine wpAny_pure ⟨plainId_quiet F.plain_extend_loop _, ?_⟩
  have hSn : H s.heap.objs.size = none := I.hok.fresh (Nat.le_refl _)
  have I1 : L2.Inv X pins σ (upd H s.heap.objs.size (.lst [])) { s with heap := _ } := I.laid (t' := s.toks) k4 (Nat.le_refl _) ⟨Nat.zero_le _, [], _, .nil, hS4⟩
  have e1 : Ext [] H (upd H s.heap.objs.size (.lst [])) := Ext.new hSn
  refine zip_loop (A := A.in1) (n := min xs.length ys.length) hh D rfl hm _ 0 _ _ [] rfl (Nat.zero_le _) I1 (e1.sqT ha) (e1.sqT hb) (k4 _ _ hTI) (h1.at fun o e => k4 _ o e) (h2.at fun o e => k4 _ o e) ?_ (fun q hq => ⟨?_, (hf q hq).2⟩) upd_same ⟨rfl, fun j hj => by omega⟩
    fun s' H' vs' I' e' p' x' => ⟨rfl, hQ _ s' H' vs' hSn I' e' p' (x'.newer hSn)⟩
  · obtain ⟨x0, y0, q⟩ := hTO
    exact ⟨Heap.lt_size (k4 _ _ q), .inl ⟨k4 _ _ hz, x0, y0, k4 _ _ q⟩⟩
  · have lt : q < s.heap.objs.size := by
      have e' : q = z ∨ q = TI ∨ q = TO ∨ q = i1 ∨ q = i2 := by simpa using hq
      rcases e' with e | e | e | e | e
      · rw [e]; exact Heap.lt_size hz
      · rw [e]; exact Heap.lt_size hTI
      · obtain ⟨x0, y0, q'⟩ := hTO; rw [e]; exact Heap.lt_size q'
      · rw [e]; obtain ⟨_, e1, _⟩ := h1; exact Heap.lt_size e1
      · rw [e]; obtain ⟨_, e2, _⟩ := h2; exact Heap.lt_size e2
    rw [upd_ne (Nat.ne_of_lt lt)]
    exact (hf q hq).1
end
/-- the pairs as they are read -/
def PrsF (K : PySem.W.Frag) (H : Hp) (xs ys vs : List V) (n : Nat) : Prop := vs.length = n ∧ ∀ j, j < n → ∃ T x y, vs[j]? = some (.ref T) ∧ tupF K H T = some [x, y] ∧ xs[j]? = some x ∧ ys[j]? = some y
theorem Prs.f {K : PySem.W.Frag} {H : Hp} {xs ys vs : List V} {n : Nat} (p : Prs H xs ys vs n) (k : NK K H) : PrsF K H xs ys vs n :=
  ⟨p.1, fun j h => let ⟨T, x, y, a, b, c⟩ := p.2 j h; ⟨T, x, y, a, tupF_at (NK.at k b) b, c⟩⟩
/-- list(zip(t, u)) -/
def tLZip (K : PySem.W.Frag) (ta : TA) : TE := fun σ H Q => ta σ H fun vs H1 => ∃ a b xs ys, vs = [.ref a, .ref b] ∧ tupF K H1 a = some xs ∧ tupF K H1 b = some ys ∧ min xs.length ys.length ≤ 100000 ∧
  ∀ S H2 ws, H1 S = none → Ext [] H1 H2 → H2 S = some (.lst ws) → PrsF K H2 xs ys ws (min xs.length ys.length) → Q (.ref S) H2
theorem pe_lzip {X : Cx} {e e2 : Expr} {ta : TA} {p p2 pos pos2 : Pos} (hc : X.calm = true) (hg : Gl X "zip") (hm : X.mg "zip" = none) (hgl : Gl X "list") (hml : X.mg "list" = none) (ha : PA X [e, e2] ta)
    (hs : starEach [e, e2] X.env = (false, eval e X.env) :: starEach [e2] X.env := by rfl) (hpl : (backTo pos (starEach [e2] X.env)).any (·.1) = false := by rfl)
    (hs2 : starEach [.Call (.Name "zip" p) [e, e2] [] pos] X.env = [(false, eval (.Call (.Name "zip" p) [e, e2] [] pos) X.env)] := by rfl) :
    PE X (.Call (.Name "list" p2) [.Call (.Name "zip" p) [e, e2] [] pos] [] pos2) (tLZip X.K ta) := by
  refine ⟨fun pins s σ H Q I h => ?_⟩
  refine Call_ (ld_blt I hgl hml boot_list (PyProof.Rows.callWith_type1 ?_ hs2 rfl))
  rw [hs2]
  show wpAny _ _ (spliced ((false, eval (.Call (.Name "zip" p) [e, e2] [] pos) X.env) :: backTo pos2 (starEach [] X.env))) _ _ s
  refine Calls.spliced_cons ?_
  refine Call_ (ld_blt I hg hm PyProof.Rows.boot_zip (PyProof.Rows.callWith_type1 (thn (ha.run pos pins s σ H _ I h) fun us s1 ⟨vs, H1, I1, r1, q1⟩ => ?_) hs hpl))
  obtain ⟨a, b, xs, ys, ex, hqa, hqb, hmin, q⟩ := q1
  subst ex
  cases r1 with
  | cons r rr =>
    cases rr with
    | cons r' rr =>
      cases rr
      cases r
      cases r'
      have fresh5 : ∀ c, c ∈ [s1.heap.objs.size + 4, s1.heap.objs.size + 2, s1.heap.objs.size + 3, s1.heap.objs.size, s1.heap.objs.size + 1] → FpOk X pins H1 c := fun c hcm => by
        have e' : c = s1.heap.objs.size + 4 ∨ c = s1.heap.objs.size + 2 ∨ c = s1.heap.objs.size + 3 ∨ c = s1.heap.objs.size ∨ c = s1.heap.objs.size + 1 := by simpa using hcm
        have hle : s1.heap.objs.size ≤ c := by
          rcases e' with z | z | z | z | z <;> rw [z]
          · exact Nat.le_add_right _ _
          · exact Nat.le_add_right _ _
          · exact Nat.le_add_right _ _
          · exact Nat.le_refl _
          · exact Nat.le_add_right _ _
        exact I1.fpOk hle (I1.hok.fresh hle)
      obtain ⟨its, rv, p1, _⟩ := I1.tuple (tupF_sq hqa)
      obtain ⟨its2, rv2, p2, _⟩ := I1.tuple (tupF_sq hqb)
      obtain ⟨o1, ho1, _⟩ := id p1
      obtain ⟨o2, ho2, _⟩ := id p2
      refine call_zipT (show s1.heap.IsTuple a its.toArray from p1) (show s1.heap.IsTuple b its2.toArray from p2) fun h' hz hTI hTO h1 h2 hsz hk => Calls.spliced_nil ?_
      have I2 : L2.Inv X pins σ H1 { s1 with heap := h' } := I1.kept (t' := s1.toks) hk
      exact call_list_zip (I1.ok.hd hc) (PySem.W.ktu_apart s1.heap.objs.size a b (Heap.lt_size ho1) (Heap.lt_size ho2)) I2 (tupF_sq hqa) (tupF_sq hqb) hTI h1 h2 hz ⟨_, _, hTO⟩ fresh5 hmin fun S s' H' vs hS I' e' p' x' => ⟨.ref S, H', I', rfl, q S H' vs hS x' e' (p'.f (inv_nk I'))⟩
end Sq
set_option Elab.async false
set_option linter.all false
set_option maxRecDepth 100000
set_option maxHeartbeats 2000000
namespace Sq
open PySem PySem.Spec PyProof.Rows L2 RZ
open PySem.AutoSeq1 (wpAny_loadPart')
theorem enumT_new (l : Addr) (items : Array Value) (n : Nat) (dct : Option Addr) (sl : Array (Option Value)) :
    Meets (Builtin.«enumerate.__new__» ⟨[.type "enumerate", .ref l], []⟩) (fun _ R s => s.heap.get? l = some { cls := .type "tuple", dict := dct, data := .seq items n, slots := sl } ∧
      R (.ok (.ret (.ref (s.heap.push { cls := .type "tuple_iterator", data := .fields #[.ref l, .int 0 0] }).objs.size)))
        { s with heap := (s.heap.push { cls := .type "tuple_iterator", data := .fields #[.ref l, .int 0 0] }).push { cls := .type "enumerate", data := .fields #[.none, .bool false, .ref s.heap.objs.size, rawInt 0, .none, .none] } }) :=
  .of_wp fun prog w A R s h => by
    obtain ⟨hp, g, d, tk, os⟩ := s; obtain ⟨hl, h⟩ := h
    have hsub := sub_enumerate
    have hL : Heap.IsTuple (Shared.heap ⟨hp, g, d, tk, os⟩) l items := ⟨_, hl, rfl, n, rfl⟩
    wp_walk using wpAny_loadPart' hl
    refine wpAny_stack_any fun st => wpAny_pure ?_
    split
    · rename_i c _ _ _ _ _
      cases (c == Value.type "enumerate")
      · wp_walk using wpAny_loadPart' hl, wpAny_pyIter_tuple hL
        exact ⟨_, rfl, h⟩
      · wp_walk using wpAny_loadPart' hl, wpAny_pyIter_tuple hL
        exact ⟨_, rfl, h⟩
    · wp_walk using wpAny_loadPart' hl, wpAny_pyIter_tuple hL
      exact ⟨_, rfl, h⟩

section
variable {prog : Program} {w : World} {A : Around} {E : Value → Shared → Prop} {s : Shared}
theorem call_enumT {l : Addr} {items : Array Value} {Q : Value → Shared → Prop} (hL : s.heap.IsTuple l items)
    (h : ∀ h', IsEnum h' (s.heap.objs.size + 1) s.heap.objs.size 0 .none → h'.IsTupleIter s.heap.objs.size l 0 → h'.objs.size = s.heap.objs.size + 2 →
      (∀ b o, s.heap.get? b = some o → h'.get? b = some o) → Q (.ref (s.heap.objs.size + 1)) { s with heap := h' }) :
    wpAny (model prog w) A (call (.type "enumerate") [.ref l]) Q E s := by
  obtain ⟨⟨c, dct, dt, sl⟩, hl, hc, n, hd⟩ := hL
  replace hc : c = .type "tuple" := hc
  replace hd : dt = .seq items n := hd
  subst hc hd
  refine callType_new F.called_enumerate (by decide) (F.typeCall_enumerate_1 _) (F.newCall_enumerate_1 _) (fun obj => F.args_object_init_2 obj _) F.entry_enumerate_new
    (enumT_new l items n dct sl) ⟨hl, ?_⟩
  have hz : (s.heap.push { cls := .type "tuple_iterator", data := .fields #[.ref l, .int 0 0] }).objs.size = s.heap.objs.size + 1 := Heap.size_push ..
  show _ ∧ _
  rw [hz]
  have he : IsEnum ((s.heap.push { cls := .type "tuple_iterator", data := .fields #[.ref l, .int 0 0] }).push
      { cls := .type "enumerate", data := .fields #[.none, .bool false, .ref s.heap.objs.size, rawInt 0, .none, .none] }) (s.heap.objs.size + 1) s.heap.objs.size 0 .none := by
    have := Heap.get?_push_size (s.heap.push { cls := .type "tuple_iterator", data := .fields #[.ref l, .int 0 0] })
      (o := { cls := .type "enumerate", data := .fields #[.none, .bool false, .ref s.heap.objs.size, rawInt 0, .none, .none] }) rfl
    rw [hz] at this; exact this
  refine ⟨⟨_, he, rfl⟩, h _ he ⟨_, Heap.get?_push_of_some _ (Heap.get?_push_size _ rfl), rfl, rfl⟩ (by rw [Heap.size_push, hz]) fun b o x => Heap.get?_push_of_some _ (Heap.get?_push_of_some _ x)⟩

end
theorem drawsT {prog : Program} {w : World} {A : Around} (hh : A.handled = none) (it l : Addr) (hne : l ≠ it) (items : Array Value) :
    Draws prog w A it [it, l] items.size (fun i v => items[i]? = some v) (fun i h => h.IsTupleIter it l i ∧ h.IsTuple l items) where
  live := fun _ _ st => let ⟨o, ho, _⟩ := st.1; ⟨o, ho⟩
  frame := fun _ _ _ st hk => ⟨st.1.at fun o e => hk it (by simp) o e, let ⟨o, e, r⟩ := st.2; ⟨o, hk l (by simp) o e, r⟩⟩
  item := fun i s Q E hi st hQ => by
    refine nextOf_tuple_item st.1 st.2 (x := items[i]) (by simp [hi]) fun h' hit' hs' => ?_
    exact hQ _ h' s.toks (by simp [hi]) ⟨hit', st.2.extBut hs'.extBut hne⟩ hs'
  done := fun s Q E st hE => nextOf_tuple_end hh st.1 st.2 (by simp) hE
theorem wpAny_pyNext_enum_endT {prog : Program} {w : World} {A : Around} {E : Value → Shared → Prop} {s : Shared} {e it l : Addr} {i : Nat} {items : Array Value} {old : Value} {Q : Option Value → Shared → Prop} (hh : A.handled = none)
    (he : IsEnum s.heap e it i old) (hit : s.heap.IsTupleIter it l i) (hl : s.heap.IsTuple l items) (hx : items[i]? = none)
    (hQ : ∀ h', Heap.ExtBut it s.heap h' → Q none { s with heap := h' }) : wpAny (model prog w) A (pyNext (.ref e)) Q E s := by
  have hT : s.TypeIs (.ref e) "enumerate" := ⟨_, he, rfl⟩
  unfold pyNext
  refine wpAny_bind (wpAny_attempt (wpAny_callSpecial?_slot (name := Str.ofString "__next__") hT F.slot_enumerate_next
    (wpAny_call_entry F.slot_enumerate_next hT F.entry_enumerate_next ?_ (F.args_enumerate_next_1 _))))
  show wpAny _ _ (field (.ref e) 2 >>= _) _ _ _
  refine wpAny_bind (wpAny_field he rfl (x := .ref it) rfl ?_)
  refine wpAny_bind (nextOf_tuple_end hh hit hl hx fun h' x he' hx' => ?_)
  obtain ⟨o, ho, hc⟩ := hx'
  refine wpAny_bind (wpAny_isInstance (T := "StopIteration") (b := true) ⟨o, ho, hc⟩ isSubtype_stop ?_)
  exact wpAny_pure (hQ _ he')
def IteT (K : PySem.W.Frag) (a : Addr) : It :=
  ⟨fun i H => ∃ (xs : List V) (x : V), SqT K H a xs ∧ xs[i]? = some x, fun i H v H' => ∃ T x, v = .ref T ∧ H T = none ∧ H' = upd H T (.tup [.int (i : Nat), x]) ∧ ∀ xs, SqT K H a xs → xs[i]? = some x, fun i H => ∃ xs : List V, SqT K H a xs ∧ xs.length ≤ i⟩
theorem turn_enumT {P : Program} {w : World} {K : PySem.W.Frag} {elts : List Expr} {kk : Nat} {tpos : Pos} (a e it : Addr) :
    Turn P w K (.Tuple elts kk tpos) (IteT K a) [e, it] e (fun i h => (∃ old, IsEnum h e it ((i : Nat) : Int) old) ∧ h.IsTupleIter it a i ∧ e ≠ it ∧ a ≠ it ∧ a ≠ e) where
  mem := by simp
  obj := fun i h st b hb => by
    obtain ⟨⟨old, he⟩, ⟨o, ho, hc, hd⟩, _⟩ := st
    have e' : b = e ∨ b = it := by simpa using hb
    rcases e' with z | z
    · rw [z]; exact ⟨_, he, fun v q => nomatch q⟩
    · rw [z]; exact ⟨o, ho, fun v q => by rw [hd] at q; cases q⟩
  keep := fun i h h' st k => let ⟨⟨old, he⟩, hi, hne⟩ := st; ⟨⟨old, k e (by simp) _ he⟩, hi.at fun o q => k it (by simp) o q, hne⟩
  item := by
    intro X hP hw hK hc i pins s σ H E I hf st hg
    subst hP hw hK
    obtain ⟨⟨old, he⟩, hit, hne⟩ := st
    obtain ⟨xs, x, hq, hx⟩ := hg
    obtain ⟨its, rv, p, hz⟩ := I.tuple hq
    obtain ⟨u, hu, ru⟩ := rv.get hx
    have hel : e < s.heap.objs.size := Heap.lt_size he
    have hil : it < s.heap.objs.size := by obtain ⟨_, q, _⟩ := hit; exact Heap.lt_size q
    have hn : i < its.toArray.size := by
      have := rv.length
      have := (List.getElem?_eq_some_iff.mp hx).1
      simp
      omega
    refine wpAny_pyNext_enum_itemD (drawsT (prog := X.prog) (w := X.w) (A := X.A.in1) (show X.A.in1.handled = none from I.ok.hd hc) it a hne.2.1 its.toArray) he ⟨hit, p⟩ hn hne.1 (by simp; exact ⟨hne.1, hne.2.2.symm⟩) fun u' h' tk hu' ho ⟨hit', _⟩ hT hsz hk => ?_
    have eu : u' = u := by
      have hu2 : its.toArray[i]? = some u := by simpa using hu
      rw [hu2] at hu'
      exact (Option.some.inj hu').symm
    subst eu
    refine ⟨_, rfl, wpAny_letOwnedTupleGo_enum (s := { s with heap := h', toks := tk + 1 }) ho fun h'' he' sb => ?_⟩
    have hT2 : h''.get? s.heap.objs.size = some { cls := .type "tuple", data := .seq #[.int i tk, u'] } := (sb.2 _ (Nat.ne_of_gt hel)).trans hT
    have new : ObjOk X.prog X.w (upd H s.heap.objs.size (.tup [.int (i : Nat), x])) h'' s.heap.objs.size (.tup [.int (i : Nat), x]) :=
      ⟨by show 2 ≤ sizeLine; decide, [.int i tk, u'], .cons ⟨_, rfl⟩ (.cons ru .nil), ⟨_, hT2, rfl, _, rfl⟩⟩
    have I1 : Inv X pins σ (upd H s.heap.objs.size (.tup [.int (i : Nat), x])) { s with heap := h'', toks := tk + 1 } :=
      I.turnedNew (ch := [e, it]) (fun b ob hb q => (sb.2 b (fun z => hb (by simp [z]))).trans (hk b ob (fun z => hb (by simp [z])) (fun z => hb (by simp [z])) q)) hf (Nat.le_refl _) new
    refine ⟨.ref s.heap.objs.size, _, I1, rfl, ⟨_, x, rfl, I.hok.fresh (Nat.le_refl _), rfl, fun ys hy => by rw [I.tuple_inj hy hq]; exact hx⟩, ⟨⟨u', ?_⟩, hit'.at fun o q => (sb.2 it (Ne.symm hne.1)).trans q, hne⟩, fun b hb => ?_⟩
    · have e1 : ((i + 1 : Nat) : Int) = (i : Int) + 1 := by omega
      rw [e1]; exact he'
    · have hb' : b < s.heap.objs.size := by
        have e' : b = e ∨ b = it := by simpa using hb
        rcases e' with z | z
        · rw [z]; exact hel
        · rw [z]; exact hil
      rw [upd_ne (Nat.ne_of_lt hb')]
      exact (hf b hb).1
  done := by
    intro X hP hw hK hc i pins s σ H E I hf st hg
    subst hP hw hK
    obtain ⟨⟨old, he⟩, hit, hne⟩ := st
    obtain ⟨xs, hq, hx⟩ := hg
    obtain ⟨its, rv, p, hz⟩ := I.tuple hq
    obtain ⟨f0, f1, f2, f3, f4, f5⟩ := hf it (by simp)
    have hl := rv.length
    have en : i = its.toArray.size ∨ i > its.toArray.size := by simp; omega
    exact wpAny_pyNext_enum_endT (I.ok.hd hc) he hit p (by simp; omega) fun h' eb => ⟨rfl, I.turned (t' := s.toks) (fun b o hb q => eb b o hb q) f0 f1 f3 f4 f5⟩
  self := fun A i s Q E st h => let ⟨⟨_, he⟩, _⟩ := st; wpAny_pyIter_enum he h
def iEnumF (K : PySem.W.Frag) (ta : TA) : TI := fun σ H R => ta σ H fun vs H1 => ∃ a xs, vs = [.ref a] ∧ tupF K H1 a = some xs ∧ R (IteT K a) H1
theorem pi_enumF {X : Cx} {e : Expr} {ta : TA} {p pos tpos : Pos} {elts : List Expr} {kk : Nat} (hg : Gl X "enumerate") (hm : X.mg "enumerate" = none) (ha : PA X [e] ta) (hs : starEach [e] X.env = [(false, eval e X.env)] := by rfl) :
    PI X (.Tuple elts kk tpos) (.Call (.Name "enumerate" p) [e] [] pos) (iEnumF X.K ta) := by
  refine ⟨fun pins s σ H R I h => ?_⟩
  refine Call_ (ld_blt I hg hm boot_enumerate (PyProof.Rows.callWith_type1 (thn (ha.run pos pins s σ H _ I h) fun us s1 ⟨vs, H1, I1, r1, q1⟩ => ?_) hs rfl))
  obtain ⟨a, xs, ex, hq, q⟩ := q1
  subst ex
  cases r1 with
  | cons r rr =>
    cases rr
    cases r
    obtain ⟨its, rv, p', hz⟩ := I1.tuple (tupF_sq hq)
    have hal : a < s1.heap.objs.size := by obtain ⟨o1, ho1, _⟩ := id p'; exact Heap.lt_size ho1
    refine call_enumT (show s1.heap.IsTuple a its.toArray from p') fun h' he hit hsz hk => wpAny_pyIter_enum he ?_
    have I2 : Inv X pins σ H1 { s1 with heap := h' } := I1.kept (t' := s1.toks) hk
    refine ⟨s1.heap.objs.size + 1, [s1.heap.objs.size + 1, s1.heap.objs.size], _, _, H1, rfl, I2, turn_enumT a (s1.heap.objs.size + 1) s1.heap.objs.size, ⟨⟨.none, he⟩, hit, Nat.succ_ne_self _, Nat.ne_of_lt hal, Nat.ne_of_lt (Nat.lt_succ_of_lt hal)⟩, fun b hb => ?_, q⟩
    have e' : b = s1.heap.objs.size + 1 ∨ b = s1.heap.objs.size := by simpa using hb
    have hle : s1.heap.objs.size ≤ b := by
      rcases e' with z | z
      · rw [z]; exact Nat.le_add_right _ _
      · rw [z]; exact Nat.le_refl _
    exact I1.fpOk hle (I1.hok.fresh hle)
theorem walk_enumT {K : PySem.W.Frag} {a : Addr} {xs : List V} : Walk (IteT K a) xs.length (fun H => SqT K H a xs) (YPair (fun i => some (.int (i : Nat))) (fun i => xs[i]?)) := by
  refine ⟨fun i _ hi q => ⟨xs, xs[i], q, by simp [hi]⟩, fun _ q => ⟨xs, q, Nat.le_refl _⟩, fun i H v H' _ q y => ?_⟩
  obtain ⟨T, x, h1, h2, h3, h4⟩ := y
  exact ⟨T, .int (i : Nat), x, h1, h2, h3, rfl, h4 xs q⟩
theorem walk_zipT {K : PySem.W.Frag} {a b : Addr} {xs ys : List V} {n : Nat} (hn : n = min xs.length ys.length) : Walk (ItzT K a b) n (fun H => SqT K H a xs ∧ SqT K H b ys) (YPair (fun i => xs[i]?) (fun i => ys[i]?)) := by
  subst hn
  refine ⟨fun i _ hi q => ?_, fun _ q => ⟨xs, ys, q.1, q.2, by omega⟩, fun i H v H' _ q y => ?_⟩
  · have h1 : i < xs.length := by omega
    have h2 : i < ys.length := by omega
    exact ⟨xs, ys, xs[i], ys[i], q.1, q.2, by simp [h1], by simp [h2]⟩
  · obtain ⟨T, x, z, h1, h2, h3, h4, h5⟩ := y
    exact ⟨T, x, z, h1, h2, h3, h4 xs q.1, h5 ys q.2⟩
end Sq
set_option Elab.async false
set_option linter.all false
set_option maxRecDepth 100000
set_option maxHeartbeats 2000000
namespace Sq
open PySem PySem.Spec PyProof.Rows L2
/-! ### dicts with texts as keys, as they are read -/
def dcO : Option HO → Option (List (Key × V))
  | some (.dK kvs) => some kvs
  | some (.frz _ (.dK kvs)) => some kvs
  | _ => none
def dctF (H : Hp) (a : Addr) : Option (List (Key × V)) := dcO (H a)
theorem dctF_dK {H : Hp} {a : Addr} {kvs : List (Key × V)} (h : H a = some (.dK kvs)) : dctF H a = some kvs := by unfold dctF; rw [h]; rfl
theorem dctF_frz {H : Hp} {a : Addr} {o : Obj} {kvs : List (Key × V)} (h : H a = some (.frz o (.dK kvs))) : dctF H a = some kvs := by unfold dctF; rw [h]; rfl
theorem dctF_rd {H : Hp} {a : Addr} {kvs : List (Key × V)} (h : dctF H a = some kvs) : Rd H a (.dK kvs) := by
  unfold dctF dcO at h
  split at h
  · rename_i e; cases h; exact .inl e
  · rename_i o _ e; cases h; exact .inr ⟨o, e⟩
  · cases h
theorem dctF_ext {S : List Addr} {H H' : Hp} {a : Addr} {kvs : List (Key × V)} (e : Ext S H H') (n : a ∉ S) (h : dctF H a = some kvs) : dctF H' a = some kvs := by
  rcases dctF_rd h with q | ⟨o, q⟩
  · exact dctF_dK (e.dK q n)
  · exact dctF_frz (e.frz _ _ _ q)
/-! ### locks -/
theorem Ext.lock {H : Hp} {d : Addr} {u : HO} {o : Obj} (e : H d = some u) (h1 : ∀ xs, u ≠ .tup xs) (h2 : ∀ o v, u ≠ .frz o v) (h3 : ∀ ps, u ≠ .tbl ps) : Ext [d] H (upd H d (.frz o u)) := Ext.set List.mem_cons_self e h1 h2 h3
theorem Ext.lockD {H : Hp} {d : Addr} {kvs : List (Key × V)} {o : Obj} (e : H d = some (.dK kvs)) : Ext [d] H (upd H d (.frz o (.dK kvs))) := Ext.lock e (fun _ z => by cases z) (fun _ _ z => by cases z) (fun _ z => by cases z)
theorem Ext.unlockD {S : List Addr} {H H' : Hp} {d : Addr} {kvs : List (Key × V)} {o : Obj} (e : H d = some (.dK kvs)) (h : Ext S (upd H d (.frz o (.dK kvs))) H') : Ext S H (upd H' d (.dK kvs)) := by
  have k : ∀ b u, H b = some u → b ≠ d → upd H d (.frz o (.dK kvs)) b = some u := fun b u q n => by rw [upd_ne n]; exact q
  have nd : ∀ b u, H b = some u → u ≠ .dK kvs → b ≠ d := fun b u q n z => n (by rw [z, e] at q; exact (Option.some.inj q).symm)
  have up : ∀ b u, b ≠ d → H' b = some u → upd H' d (.dK kvs) b = some u := fun b u n q => by rw [upd_ne n]; exact q
  refine ⟨fun b u q n m => ?_, fun b xs q => ?_, fun b u v q => ?_, fun P ⟨ps, q, t⟩ => ?_⟩
  · by_cases z : b = d
    · subst z
      rw [e] at q
      cases q
      exact upd_same
    · exact up b u z (h.keep b u (k b u q z) n m)
  · have z := nd b _ q fun x => by cases x
    exact up b _ z (h.tup b xs (k b _ q z))
  · have z := nd b _ q fun x => by cases x
    exact up b _ z (h.frz b u v (k b _ q z))
  · have z := nd P _ q fun x => by cases x
    obtain ⟨ps', q', t'⟩ := h.tab P ⟨ps, k P _ q z, t⟩
    exact ⟨ps', up P _ z q', t'⟩
def tLockD (t : TE) : TE := fun σ H Q => ∃ d kvs, H d = some (.dK kvs) ∧ ∀ o, t σ (upd H d (.frz o (.dK kvs))) fun v H' => H' d = some (.frz o (.dK kvs)) ∧ Q v (upd H' d (.dK kvs))
theorem pe_lockD {X : Cx} {e : Expr} {t : TE} (h : PE X e t) : PE X e (tLockD t) := ⟨fun pins s σ H Q I ⟨d, kvs, e, q⟩ => (pe_lock h).run pins s σ H Q I ⟨d, .dK kvs, e, True.intro, q⟩⟩
def tLockS (t : TS) : TS := fun D σ H => ∃ d kvs, H d = some (.dK kvs) ∧ ∀ od, t ⟨fun σ' H' => H' d = some (.frz od (.dK kvs)) ∧ D.nx σ' (upd H' d (.dK kvs)), fun v H' => H' d = some (.frz od (.dK kvs)) ∧ D.rt v (upd H' d (.dK kvs)), fun σ' H' => H' d = some (.frz od (.dK kvs)) ∧ D.bk σ' (upd H' d (.dK kvs)), fun σ' H' => H' d = some (.frz od (.dK kvs)) ∧ D.ct σ' (upd H' d (.dK kvs))⟩ σ (upd H d (.frz od (.dK kvs)))
theorem ps_lockD {X : Cx} {st : Stmt} {t : TS} (h : PS X st t) : PS X st (tLockS t) := ⟨fun pins s σ H D I ⟨d, kvs, e, q⟩ => (ps_lock h).run pins s σ H D I ⟨d, .dK kvs, e, True.intro, q⟩⟩
/-! ### rules -/
section
variable {X : Cx} {o i e f value : Expr} {apos cpos pos pos' : Pos} {td ty tx tv : TE}
def tDG2 (td ty tx : TE) : TE := fun σ H Q => td σ H fun x H1 => ∃ a kvs, x = .ref a ∧ dctF H1 a = some kvs ∧ ty σ H1 fun y H2 => tx σ H2 fun z H3 => ∃ n kvs, y = .str n ∧ dctF H3 a = some kvs ∧ Q ((valV kvs (.inr n)).getD z) H3
theorem pe_dget2F (hu : X.A.units + 1 < cLine) (ho : PE X o td) (he : PE X e ty) (hf : PE X f tx) (m : M2 X o "get" apos e f cpos) : PE X (.Call (.Attribute o "get" apos) [e, f] [] cpos) (tDG2 td ty tx) := by
  refine ⟨fun pins s σ H Q I h => ?_⟩
  refine wpAny_Call_method m.base m.few m.line PySem.F.plainAttrs_dict PySem.F.slot_dict_get PySem.F.type_dict_get (thn (ho.run pins s σ H _ I h) fun u s1 ⟨x, H1, I1, rx, a, kvs, ex, d, q1⟩ => ?_)
  subst ex
  obtain rfl : u = Value.ref a := rx
  obtain ⟨t1, t2, _⟩ := isD_at I1 (.inl ⟨kvs, dctF_rd d⟩)
  refine ⟨t1, t2, ?_⟩
  rw [m.trees]
  refine Calls.callWith_builtin rfl (Calls.evalArgs_plain (Calls.spliced_cons (thn (he.run pins s1 σ H1 _ I1 q1) fun iv s2 ⟨y, H2, I2, ry, q2⟩ => Calls.spliced_cons (thn (hf.run pins s2 σ H2 _ I2 q2) fun fv s3 ⟨z, H3, I3, rz, n, kvs', ey, g, q3⟩ => Calls.spliced_nil ?_))))
  subst ey
  exact d_get2 hu I3 (.inl ⟨kvs', .inr n, dctF_rd g, rfl, rfl⟩) ry rz fun w' s4 I4 rw' => ⟨_, H3, I4, rw', q3⟩
/-- d[y] -/
def tDGF (td ty : TE) : TE := fun σ H Q => td σ H fun x H1 => ty σ H1 fun y H2 => ∃ a n kvs v, x = .ref a ∧ y = .str n ∧ dctF H2 a = some kvs ∧ valV kvs (.inr n) = some v ∧ Q v H2
theorem pe_dgetF (hu : X.A.units + 1 < cLine) (ho : PE X o td) (hi : PE X i ty) (hs : NoSl i) : PE X (.Subscript o i pos) (tDGF td ty) := by
  refine ⟨fun pins s σ H Q I h => ?_⟩
  refine subD_of PySem.F.slot_dict_getitem.lookup hs (thn (ho.run pins s σ H _ I h) fun u s1 ⟨x, H1, I1, rx, q1⟩ => thn (hi.run pins s1 σ H1 _ I1 q1) fun iv s2 ⟨y, H2, I2, ry, a, n, kvs, v, ex, ey, g, l, q2⟩ => ?_)
  subst ex ey
  obtain rfl : u = Value.ref a := rx
  have g' : DGet H2 a (.str n) (some v) := .inl ⟨kvs, .inr n, dctF_rd g, rfl, l.symm⟩
  exact ⟨dict_typeIs I2 g', d_getItem hu I2 g' ry fun w' s3 I3 rw' => ⟨v, H2, I3, rw', q2⟩⟩
/-- y in d, y not in d -/
def tDInF (ty td : TE) : TE := fun σ H Q => ty σ H fun y H1 => td σ H1 fun x H2 => ∃ a n kvs, x = .ref a ∧ y = .str n ∧ dctF H2 a = some kvs ∧ Q (.bl (valV kvs (.inr n)).isSome) H2
def tDNInF (ty td : TE) : TE := fun σ H Q => ty σ H fun y H1 => td σ H1 fun x H2 => ∃ a n kvs, x = .ref a ∧ y = .str n ∧ dctF H2 a = some kvs ∧ Q (.bl (!(valV kvs (.inr n)).isSome)) H2
theorem pc_dinF (hu : X.A.units + 1 < cLine) (hi : PE X i ty) (ho : PE X o td) : PC X .In i o (tDInF ty td) := by
  refine ⟨fun pins s σ H Q I h => ?_⟩
  refine thn (hi.run pins s σ H _ I h) fun iv s1 ⟨y, H1, I1, ry, q1⟩ => thn (ho.run pins s1 σ H1 _ I1 q1) fun u s2 ⟨x, H2, I2, rx, a, n, kvs, ex, ey, g, q2⟩ => ?_
  subst ex ey
  obtain rfl : u = Value.ref a := rx
  exact d_in hu I2 (.inl ⟨kvs, .inr n, dctF_rd g, rfl, rfl⟩) ry fun s3 I3 => ⟨.bl _, H2, I3, rfl, q2⟩
theorem pc_dnotinF (hu : X.A.units + 1 < cLine) (hi : PE X i ty) (ho : PE X o td) : PC X .NotIn i o (tDNInF ty td) := by
  refine ⟨fun pins s σ H Q I h => ?_⟩
  refine thn (hi.run pins s σ H _ I h) fun iv s1 ⟨y, H1, I1, ry, q1⟩ => thn (ho.run pins s1 σ H1 _ I1 q1) fun u s2 ⟨x, H2, I2, rx, a, n, kvs, ex, ey, g, q2⟩ => ?_
  subst ex ey
  obtain rfl : u = Value.ref a := rx
  exact d_notIn hu I2 (.inl ⟨kvs, .inr n, dctF_rd g, rfl, rfl⟩) ry fun s3 I3 => ⟨.bl _, H2, I3, rfl, q2⟩
/-- d[y] = v -/
def sDPutF (td ty tv : TE) : TS := fun D σ H => tv σ H fun v H1 => td σ H1 fun x H2 => ty σ H2 fun y H3 => ∃ a n kvs, x = .ref a ∧ y = .str n ∧ H3 a = some (.dK kvs) ∧ kvs.length < sizeLine ∧ ∀ H4, Ext [a] H3 H4 → H4 a = some (.dK (putK kvs (.inr n) v)) → D.nx σ H4
theorem ps_dputF (hu : X.A.units + 1 < cLine) (ho : PE X o td) (hi : PE X i ty) (hv : PE X value tv) (hs : swapsWith value (some (.Subscript o i pos')) pos.line X.env = pure false) :
    PS X (.Assign [.Subscript o i pos'] value pos) (sDPutF td ty tv) := by
  refine ⟨fun pins s σ H D I h => ?_⟩
  refine wpAny_Assign_Subscript (thn (hv.run pins s σ H _ I h) fun r s1 ⟨v, H1, I1, rv, q1⟩ => thn (ho.run pins s1 σ H1 _ I1 q1) fun u s2 ⟨x, H2, I2, rx, q2⟩ => thn (hi.run pins s2 σ H2 _ I2 q2) fun iv s3 ⟨y, H3, I3, ry, a, n, kvs, ex, ey, g, hz, q3⟩ => ?_) hs
  subst ex ey
  obtain rfl : u = Value.ref a := rx
  exact d_setItem hu I3 (.inl ⟨kvs, .inr n, g, rfl, hz, rfl⟩) ry rv fun s4 I4 => ⟨σ, _, I4, q3 _ (Ext.setD List.mem_cons_self g) upd_same⟩
/-- {} -/
def tDNewF : TE := fun _ H Q => ∀ p H2, H p = none → Ext [] H H2 → H2 p = some (.dK []) → Q (.ref p) H2
theorem pe_dnewF : PE X (.Dict [] [] pos) tDNewF := ⟨fun pins s σ H Q I h => pe_dnewK.run pins s σ H Q I fun p hp => h p _ hp (Ext.new hp) upd_same⟩
/-- sorted(d) -/
def rSortD : List V → Hp → VK → Prop := fun xs H Q => ∃ (a : Addr) (kvs : List (Key × V)), xs = [.ref a] ∧ dctF H a = some kvs ∧ ∃ ks : List Str, kvs.map (·.1) = ks.map Sum.inr ∧ ks.length < 64 ∧ ∀ ys p H2, ys.Perm ks → sortedS ys = true → H p = none → Ext [] H H2 → H2 p = some (.lst (ys.map V.str)) → Q (.ref p) H2
theorem call_sortedF (hcalm : X.calm = true) : CallR X (.builtin "sorted") rSortD := fun pins s σ H xs us Q I r ⟨a, kvs, e, h, ks, hk, hl, q⟩ =>
  call_sortedD hcalm pins s σ H xs us Q I r ⟨a, kvs, ks, e, dctF_rd h, hk, hl, fun ys p h1 h2 h3 => q ys p _ h1 h2 h3 (Ext.new h3) upd_same⟩
end
/-! ### dict comprehensions -/
def DcB (J : It) (g : TG) (tt : TT) (tk tv : TE) (vs : List Nat) (σ : L2.St) (H1 : Hp) (Q : VK) : Prop := ∀ D, H1 D = none → ∃ W : Nat → Nat → Hp → Prop, (∃ m, W 0 m (upd H1 D (.dK []))) ∧ ∀ i m H, W i m H →
  (J.stop i H ∧ Q (.ref D) H) ∨ (J.go i H ∧ ∃ Nx : Hp → Prop, (∀ H', Nx H' → ∃ m', m' < m ∧ W (i + 1) m' H') ∧ ∀ x H', J.yld i H x H' → g x (wipe σ vs) H' fun σ2 H2 => wipe σ2 vs = wipe σ vs ∧ tt σ2 H2 fun b H3 =>
    if b = true then tk σ2 H3 fun y H4 => tv σ2 H4 fun z H5 => ∃ kvs k, y = kV k ∧ H5 D = some (.dK kvs) ∧ kvs.length < sizeLine ∧ Nx (upd H5 D (.dK (putK kvs k z))) else Nx H3)
def tDcF (wi : TI) (g : TG) (tt : TT) (tk tv : TE) (vs : List Nat) : TE := fun σ H Q => wi σ H fun J H1 => DcB J g tt tk tv vs σ H1 Q
theorem pe_dcF {X : Cx} {kx vx tg iter : Expr} {ifs : List Expr} {scope : Scope} {own : List (Str × Nat)} {pos : Pos} {wi : TI} {g : TG} {tt : TT} {tk tv : TE} (hc : X.calm = true) (hN : X.N.Nodup) (hi : PI X tg iter wi) (ok : BlkOk X.N X.env.scope scope own)
    (hg : ∀ (s : Shared) (H : Hp) (C : Addr) (cl : List (Str × Addr)) (fp : List Addr), PG (X.blk s H scope (compEnvC scope cl C X.env) fp) tg g) (ht : ∀ (s : Shared) (H : Hp) (C : Addr) (cl : List (Str × Addr)) (fp : List Addr), PTs (X.blk s H scope (compEnvC scope cl C X.env) fp) ifs tt)
    (hk : ∀ (s : Shared) (H : Hp) (C : Addr) (cl : List (Str × Addr)) (fp : List Addr), PE (X.blk s H scope (compEnvC scope cl C X.env) fp) kx tk)
    (he : ∀ (s : Shared) (H : Hp) (C : Addr) (cl : List (Str × Addr)) (fp : List Addr), PE (X.blk s H scope (compEnvC scope cl C X.env) fp) vx tv) (hs : ∀ x, foldedSetIterable iter X.env x = pure x := by intro _; rfl) :
    PE X (.DictComp kx vx [⟨tg, iter, ifs, 0⟩] scope pos) (tDcF wi g tt tk tv (own.map (·.2))) := pe_dc hc hN hi ok hg ht hk he hs
/-- the dict at D holds what was made so far -/
def DcN (D : Addr) (Pv : Nat → List (Key × V) → Hp → Prop) (i : Nat) (H : Hp) : Prop := ∃ ks, ks.length ≤ i ∧ H D = some (.dK ks) ∧ Pv i ks H
theorem dc_end {D : Addr} {Pv : Nat → List (Key × V) → Hp → Prop} {i : Nat} {ks : List (Key × V)} {k : Key} {y : V} {H : Hp} (hD : ∀ i ks H zs o, H D = some (.dK zs) → Pv i ks H → Pv i ks (upd H D (.dK o))) (hi : i < 100000) (hl : ks.length ≤ i) (h1 : H D = some (.dK ks)) (h2 : Pv (i + 1) (putK ks k y) H) :
    ∃ kvs k', kV k = kV k' ∧ H D = some (.dK kvs) ∧ kvs.length < sizeLine ∧ DcN D Pv (i + 1) (upd H D (.dK (putK kvs k' y))) :=
  ⟨ks, k, rfl, h1, Nat.lt_of_le_of_lt hl (Nat.lt_of_lt_of_le hi (by decide)), putK ks k y, by have := length_putK ks k y; omega, upd_same, hD _ _ _ _ _ h1 h2⟩
section
variable {g g1 : TG} {tt tt1 : TT} {tk tv : TE} {vs vs1 : List Nat} {σ : L2.St} {H1 : Hp} {Q : VK}
theorem dc_go {J : It} {n : Nat} {G : Hp → Prop} {Y : Nat → Hp → V → Hp → Prop} (w : Walk J n G Y) (Pv : Addr → Nat → List (Key × V) → Hp → Prop) (h0 : ∀ D, H1 D = none → Pv D 0 [] (upd H1 D (.dK [])))
    (hG : ∀ D i ks H, Pv D i ks H → G H)
    (hs : ∀ D i x ks H H', H1 D = none → i < n → Pv D i ks H → ks.length ≤ i → H D = some (.dK ks) → Y i H x H' → g x (wipe σ vs) H' fun σ2 H2 => wipe σ2 vs = wipe σ vs ∧ tt σ2 H2 fun b H3 =>
      if b = true then tk σ2 H3 fun y H4 => tv σ2 H4 fun z H5 => ∃ kvs k, y = kV k ∧ H5 D = some (.dK kvs) ∧ kvs.length < sizeLine ∧ DcN D (Pv D) (i + 1) (upd H5 D (.dK (putK kvs k z))) else DcN D (Pv D) (i + 1) H3)
    (hd : ∀ D ks H, H1 D = none → Pv D n ks H → H D = some (.dK ks) → ks.length ≤ n → Q (.ref D) H) : DcB J g tt tk tv vs σ H1 Q := fun D hD => by
  refine ⟨fun i m H => m = n - i ∧ i ≤ n ∧ DcN D (Pv D) i H, ⟨n, by simp, Nat.zero_le _, [], Nat.le_refl _, upd_same, h0 D hD⟩, ?_⟩
  rintro i m H ⟨rfl, hi, ks, hl, e, p⟩
  have q := hG D i ks H p
  by_cases hlt : i < n
  · exact .inr ⟨w.goes i H hlt q, DcN D (Pv D) (i + 1), fun H' p' => ⟨n - (i + 1), by omega, rfl, hlt, p'⟩, fun x H' y => hs D i x ks H H' hD hlt p hl e (w.yields i H x H' hlt q y)⟩
  · have e' : i = n := by omega
    subst e'
    exact .inl ⟨w.stops H q, hd D ks H hD p e hl⟩
end
/-! ### dict comprehensions with two clauses, no tests -/
def Dc2I (J1 : It) (g1 : TG) (tt1 : TT) (tk tv : TE) (vs1 : List Nat) (D : Addr) (Nx : Hp → Prop) (σ2 : L2.St) (H4 : Hp) : Prop := ∃ W1 : Nat → Nat → Hp → Prop, (∃ m, W1 0 m H4) ∧ ∀ j k H, W1 j k H →
  (J1.stop j H ∧ Nx H) ∨ (J1.go j H ∧ ∃ Nx1 : Hp → Prop, (∀ H', Nx1 H' → ∃ k', k' < k ∧ W1 (j + 1) k' H') ∧ ∀ x H', J1.yld j H x H' → g1 x (wipe σ2 vs1) H' fun σ3 H5 => wipe σ3 vs1 = wipe σ2 vs1 ∧ tt1 σ3 H5 fun b H6 =>
    if b = true then tk σ3 H6 fun y H7 => tv σ3 H7 fun z H8 => ∃ kvs k, y = kV k ∧ H8 D = some (.dK kvs) ∧ kvs.length < sizeLine ∧ Nx1 (upd H8 D (.dK (putK kvs k z))) else Nx1 H6)
def Dc2B (J : It) (g : TG) (tt : TT) (wi1 : TI) (g1 : TG) (tt1 : TT) (tk tv : TE) (vs vs1 : List Nat) (σ : L2.St) (H1 : Hp) (Q : VK) : Prop := ∀ D, H1 D = none → ∃ W : Nat → Nat → Hp → Prop, (∃ m, W 0 m (upd H1 D (.dK []))) ∧ ∀ i m H, W i m H →
  (J.stop i H ∧ Q (.ref D) H) ∨ (J.go i H ∧ ∃ Nx : Hp → Prop, (∀ H', Nx H' → ∃ m', m' < m ∧ W (i + 1) m' H') ∧ ∀ x H', J.yld i H x H' → g x (wipe σ vs) H' fun σ2 H2 => wipe σ2 vs = wipe σ vs ∧ tt σ2 H2 fun b H3 =>
    if b = true then wi1 σ2 H3 fun J1 H4 => Dc2I J1 g1 tt1 tk tv vs1 D Nx σ2 H4 else Nx H3)
def tDc2F (wi : TI) (g : TG) (tt : TT) (wi1 : TI) (g1 : TG) (tt1 : TT) (tk tv : TE) (vs vs1 : List Nat) : TE := fun σ H Q => wi σ H fun J H1 => Dc2B J g tt wi1 g1 tt1 tk tv vs vs1 σ H1 Q
theorem pe_dc2F {X : Cx} {kx vx tg iter tg1 iter1 : Expr} {ifs ifs1 : List Expr} {scope : Scope} {own : List (Str × Nat)} {vs1 : List Nat} {pos : Pos} {wi wi1 : TI} {g g1 : TG} {tt tt1 : TT} {tk tv : TE} (hc : X.calm = true) (hN : X.N.Nodup) (hi : PI X tg iter wi) (ok : BlkOk X.N X.env.scope scope own) (hv : ∀ i ∈ vs1, i ∈ own.map (·.2))
    (hg : ∀ (s : Shared) (H : Hp) (C : Addr) (cl : List (Str × Addr)) (fp : List Addr), PG (X.blk s H scope (compEnvC scope cl C X.env) fp) tg g) (ht : ∀ (s : Shared) (H : Hp) (C : Addr) (cl : List (Str × Addr)) (fp : List Addr), PTs (X.blk s H scope (compEnvC scope cl C X.env) fp) ifs tt)
    (hi1 : ∀ (s : Shared) (H : Hp) (C : Addr) (cl : List (Str × Addr)) (fp : List Addr), PI (X.blk s H scope (compEnvC scope cl C X.env) fp) tg1 iter1 wi1)
    (hg1 : ∀ (s : Shared) (H : Hp) (C : Addr) (cl : List (Str × Addr)) (fp : List Addr), PG (X.blk s H scope (compEnvC scope cl C X.env) fp) tg1 g1) (ht1 : ∀ (s : Shared) (H : Hp) (C : Addr) (cl : List (Str × Addr)) (fp : List Addr), PTs (X.blk s H scope (compEnvC scope cl C X.env) fp) ifs1 tt1)
    (hk : ∀ (s : Shared) (H : Hp) (C : Addr) (cl : List (Str × Addr)) (fp : List Addr), PE (X.blk s H scope (compEnvC scope cl C X.env) fp) kx tk)
    (he : ∀ (s : Shared) (H : Hp) (C : Addr) (cl : List (Str × Addr)) (fp : List Addr), PE (X.blk s H scope (compEnvC scope cl C X.env) fp) vx tv) (hs : ∀ x, foldedSetIterable iter X.env x = pure x := by intro _; rfl) (hs1 : ∀ env x, foldedSetIterable iter1 env x = pure x := by intro _ _; rfl) :
    PE X (.DictComp kx vx [⟨tg, iter, ifs, 0⟩, ⟨tg1, iter1, ifs1, 0⟩] scope pos) (tDc2F wi g tt wi1 g1 tt1 tk tv (own.map (·.2)) vs1) := pe_dc2 hc hN hi ok hv hg ht hi1 hg1 ht1 hk he hs hs1
theorem ps_setDc2F {X : Cx} {i : Nat} {y : Str} {py : Pos} {kx vx tg iter tg1 iter1 : Expr} {ifs ifs1 : List Expr} {scope : Scope} {own : List (Str × Nat)} {vs1 : List Nat} {pos spos : Pos} {wi wi1 : TI} {g g1 : TG} {tt tt1 : TT} {tk tv : TE} (hc : X.calm = true) (hN : X.N.Nodup) (hy : X.N[i]? = some y) (hyl : X.env.scope.names.lookup y = some .local)
    (hsw : swapsWith (.DictComp kx vx [⟨tg, iter, ifs, 0⟩, ⟨tg1, iter1, ifs1, 0⟩] scope pos) (some (.Name y py)) spos.line X.env = pure true) (hi : PI X tg iter wi) (ok : BlkOk X.N X.env.scope scope own) (hv : ∀ i ∈ vs1, i ∈ own.map (·.2))
    (hg : ∀ (s : Shared) (H : Hp) (C : Addr) (cl : List (Str × Addr)) (fp : List Addr), PG (X.blk s H scope (compEnvC scope cl C X.env) fp) tg g) (ht : ∀ (s : Shared) (H : Hp) (C : Addr) (cl : List (Str × Addr)) (fp : List Addr), PTs (X.blk s H scope (compEnvC scope cl C X.env) fp) ifs tt)
    (hi1 : ∀ (s : Shared) (H : Hp) (C : Addr) (cl : List (Str × Addr)) (fp : List Addr), PI (X.blk s H scope (compEnvC scope cl C X.env) fp) tg1 iter1 wi1)
    (hg1 : ∀ (s : Shared) (H : Hp) (C : Addr) (cl : List (Str × Addr)) (fp : List Addr), PG (X.blk s H scope (compEnvC scope cl C X.env) fp) tg1 g1) (ht1 : ∀ (s : Shared) (H : Hp) (C : Addr) (cl : List (Str × Addr)) (fp : List Addr), PTs (X.blk s H scope (compEnvC scope cl C X.env) fp) ifs1 tt1)
    (hk : ∀ (s : Shared) (H : Hp) (C : Addr) (cl : List (Str × Addr)) (fp : List Addr), PE (X.blk s H scope (compEnvC scope cl C X.env) fp) kx tk)
    (he : ∀ (s : Shared) (H : Hp) (C : Addr) (cl : List (Str × Addr)) (fp : List Addr), PE (X.blk s H scope (compEnvC scope cl C X.env) fp) vx tv) (hs : ∀ x, foldedSetIterable iter X.env x = pure x := by intro _; rfl) (hs1 : ∀ env x, foldedSetIterable iter1 env x = pure x := by intro _ _; rfl) :
    PS X (.Assign [.Name y py] (.DictComp kx vx [⟨tg, iter, ifs, 0⟩, ⟨tg1, iter1, ifs1, 0⟩] scope pos) spos) (tAsg (tDc2F wi g tt wi1 g1 tt1 tk tv (own.map (·.2)) vs1) (gName i)) := ps_setDc2 hc hN hy hyl hsw hi ok hv hg ht hi1 hg1 ht1 hk he hs hs1
theorem ps_setDcF {X : Cx} {i : Nat} {y : Str} {py : Pos} {kx vx tg iter : Expr} {ifs : List Expr} {scope : Scope} {own : List (Str × Nat)} {pos spos : Pos} {wi : TI} {g : TG} {tt : TT} {tk tv : TE} (hc : X.calm = true) (hN : X.N.Nodup) (hy : X.N[i]? = some y) (hyl : X.env.scope.names.lookup y = some .local)
    (hsw : swapsWith (.DictComp kx vx [⟨tg, iter, ifs, 0⟩] scope pos) (some (.Name y py)) spos.line X.env = pure true) (hi : PI X tg iter wi) (ok : BlkOk X.N X.env.scope scope own)
    (hg : ∀ (s : Shared) (H : Hp) (C : Addr) (cl : List (Str × Addr)) (fp : List Addr), PG (X.blk s H scope (compEnvC scope cl C X.env) fp) tg g) (ht : ∀ (s : Shared) (H : Hp) (C : Addr) (cl : List (Str × Addr)) (fp : List Addr), PTs (X.blk s H scope (compEnvC scope cl C X.env) fp) ifs tt)
    (hk : ∀ (s : Shared) (H : Hp) (C : Addr) (cl : List (Str × Addr)) (fp : List Addr), PE (X.blk s H scope (compEnvC scope cl C X.env) fp) kx tk)
    (he : ∀ (s : Shared) (H : Hp) (C : Addr) (cl : List (Str × Addr)) (fp : List Addr), PE (X.blk s H scope (compEnvC scope cl C X.env) fp) vx tv) (hs : ∀ x, foldedSetIterable iter X.env x = pure x := by intro _; rfl) :
    PS X (.Assign [.Name y py] (.DictComp kx vx [⟨tg, iter, ifs, 0⟩] scope pos) spos) (tAsg (tDcF wi g tt tk tv (own.map (·.2))) (gName i)) := ps_setDc hc hN hy hyl hsw hi ok hg ht hk he hs
section
variable {g g1 : TG} {tt tt1 : TT} {tk tv : TE} {wi1 : TI} {vs vs1 : List Nat} {σ : L2.St} {H1 H4 : Hp} {Q : VK}
theorem dc2_in {J : It} {n : Nat} {G : Hp → Prop} {Y : Nat → Hp → V → Hp → Prop} {D : Addr} {Nx : Hp → Prop} (w : Walk J n G Y) (Pv : Nat → Hp → Prop) (h0 : Pv 0 H4) (hG : ∀ j H, Pv j H → G H)
    (hs : ∀ j x H H', j < n → Pv j H → Y j H x H' → g1 x (wipe σ vs1) H' fun σ3 H5 => wipe σ3 vs1 = wipe σ vs1 ∧ tt1 σ3 H5 fun b H6 =>
      if b = true then tk σ3 H6 fun y H7 => tv σ3 H7 fun z H8 => ∃ kvs k, y = kV k ∧ H8 D = some (.dK kvs) ∧ kvs.length < sizeLine ∧ Pv (j + 1) (upd H8 D (.dK (putK kvs k z))) else Pv (j + 1) H6)
    (hd : ∀ H, Pv n H → Nx H) : Dc2I J g1 tt1 tk tv vs1 D Nx σ H4 := by
  refine ⟨fun i m H => m = n - i ∧ i ≤ n ∧ Pv i H, ⟨n, rfl, Nat.zero_le _, h0⟩, ?_⟩
  rintro i m H ⟨rfl, hi, p⟩
  have q := hG i H p
  by_cases hlt : i < n
  · exact .inr ⟨w.goes i H hlt q, Pv (i + 1), fun H' p' => ⟨n - (i + 1), by omega, rfl, hlt, p'⟩, fun x H' y => hs i x H H' hlt p (w.yields i H x H' hlt q y)⟩
  · have e' : i = n := by omega
    subst e'
    exact .inl ⟨w.stops H q, hd H p⟩
theorem dc2_go {J : It} {n : Nat} {G : Hp → Prop} {Y : Nat → Hp → V → Hp → Prop} (w : Walk J n G Y) (Pv : Addr → Nat → Hp → Prop) (h0 : ∀ D, H1 D = none → Pv D 0 (upd H1 D (.dK [])))
    (hG : ∀ D i H, Pv D i H → G H)
    (hs : ∀ D i x H H', H1 D = none → i < n → Pv D i H → Y i H x H' → g x (wipe σ vs) H' fun σ2 H2 => wipe σ2 vs = wipe σ vs ∧ tt σ2 H2 fun b H3 => if b = true then wi1 σ2 H3 fun J1 H4 => Dc2I J1 g1 tt1 tk tv vs1 D (Pv D (i + 1)) σ2 H4 else Pv D (i + 1) H3)
    (hd : ∀ D H, H1 D = none → Pv D n H → Q (.ref D) H) : Dc2B J g tt wi1 g1 tt1 tk tv vs vs1 σ H1 Q := fun D hD => by
  refine ⟨fun i m H => m = n - i ∧ i ≤ n ∧ Pv D i H, ⟨n, rfl, Nat.zero_le _, h0 D hD⟩, ?_⟩
  rintro i m H ⟨rfl, hi, p⟩
  have q := hG D i H p
  by_cases hlt : i < n
  · exact .inr ⟨w.goes i H hlt q, Pv D (i + 1), fun H' p' => ⟨n - (i + 1), by omega, rfl, hlt, p'⟩, fun x H' y => hs D i x H H' hD hlt p (w.yields i H x H' hlt q y)⟩
  · have e' : i = n := by omega
    subst e'
    exact .inl ⟨w.stops H q, hd D H hD p⟩
end
end Sq
set_option Elab.async false
set_option linter.all false
set_option maxRecDepth 100000
set_option maxHeartbeats 2000000
namespace Sq
open PySem PySem.Spec PyProof.Rows L2 RZ
/-! ### readings that are monotone -/
def upE (t : TE) : TE := fun σ H Q => ∃ Q0 : VK, (∀ v H', Q0 v H' → Q v H') ∧ t σ H Q0
def upA (t : TA) : TA := fun σ H Q => ∃ Q0 : List V → Hp → Prop, (∀ v H', Q0 v H' → Q v H') ∧ t σ H Q0
section
variable {X : Cx}
theorem PE.up {e : Expr} {t : TE} (h : PE X e t) : PE X e (upE t) := ⟨fun pins s σ H Q I ⟨Q0, m, q⟩ => thn (h.run pins s σ H Q0 I q) fun _ _ ⟨v, H', I', r, q⟩ => ⟨v, H', I', r, m _ _ q⟩⟩
theorem PA.up {es : List Expr} {t : TA} (h : PA X es t) : PA X es (upA t) := ⟨fun pos pins s σ H Q I ⟨Q0, m, q⟩ => thn (h.run pos pins s σ H Q0 I q) fun _ _ ⟨v, H', I', r, q⟩ => ⟨v, H', I', r, m _ _ q⟩⟩
/-- a reading that is not to be run yet -/
def hideS (t : TS) : TS := t
theorem PSs.hide {b : List Stmt} {t : TS} (h : PSs X b t) : PSs X b (hideS t) := h
/-- zip of two tuples -/
def iZipF (K : PySem.W.Frag) (ta : TA) : TI := fun σ H R => ta σ H fun vs H1 => ∃ a b xs ys, vs = [.ref a, .ref b] ∧ tupF K H1 a = some xs ∧ tupF K H1 b = some ys ∧ R (ItzT K a b) H1
theorem pi_zipF {e e2 : Expr} {ta : TA} {p pos tpos : Pos} {elts : List Expr} {kk : Nat} (hg : Gl X "zip") (hm : X.mg "zip" = none) (ha : PA X [e, e2] ta)
    (hs : starEach [e, e2] X.env = (false, eval e X.env) :: starEach [e2] X.env := by rfl) (hpl : (backTo pos (starEach [e2] X.env)).any (·.1) = false := by rfl) :
    PI X (.Tuple elts kk tpos) (.Call (.Name "zip" p) [e, e2] [] pos) (iZipF X.K ta) := by
  refine ⟨fun pins s σ H R I h => (pi_zipA hg hm (PA.up ha) hs hpl).run pins s σ H R I ⟨_, fun vs H1 q => ?_, h⟩⟩
  obtain ⟨a, b, xs, ys, e, h1, h2, r⟩ := q
  exact ⟨a, b, xs, ys, e, .inr ⟨tupF_sq h1, tupF_sq h2, r⟩⟩
/-- the keys of a locked dict -/
def iKeysF (td : TE) : TI := fun σ H R => td σ H fun x H1 => ∃ d o kvs, x = .ref d ∧ H1 d = some (.frz o (.dK kvs)) ∧ R (Itk d o kvs) H1
theorem pi_keysF {tg e : Expr} {td : TE} (he : PE X e td) : PI X tg e (iKeysF td) := by
  refine ⟨fun pins s σ H R I h => (pi_keys (PE.up he)).run pins s σ H R I ⟨_, fun v H1 q => ?_, h⟩⟩
  obtain ⟨d, o, kvs, e, h1, r⟩ := q
  exact ⟨d, o, e, .inl ⟨kvs, h1, r⟩⟩
/-- x in t, x not in t: data of tuples -/
def rInT (K : PySem.W.Frag) (neg : Bool) : R2 := fun x y H Q => ∃ d ds, Td K H x d ∧ Td K H y (.tuple ds) ∧ SeqAt.shaped d = true ∧ SeqAt.shaped (.tuple ds) = true ∧ Q (.bl (if neg then !ds.any fun z => PyData.eqv z d else ds.any fun z => PyData.eqv z d)) H
theorem room_in_sh {A : Around} {d : PyData} {ds : List PyData} (h : SeqAt.shaped d = true) (hu : A.units + 65 < cLine) : A.units + 1 + min (PyData.depthAll ds) d.depth < cLine := by
  have h1 := SeqAt.depth_of_shaped h
  have h2 : min (PyData.depthAll ds) d.depth ≤ d.depth := Nat.min_le_right _ _
  omega
theorem op_inT (hu : X.A.units + 65 < cLine) : OpR X (compareOp .In) (rInT X.K false) := by
  intro pins s σ H x y v u Q I rx ry h
  obtain ⟨d, ds, hd, he, sd, se, q⟩ := h
  obtain ⟨as, r1⟩ := Dp.reads I d x v hd.dp rx
  obtain ⟨bs, r2⟩ := Dp.reads I (.tuple ds) y u he.dp ry
  exact SeqAt.in_tuple_reads r2 r1 (SeqAt.canLay_of_shaped se) (SeqAt.canLay_of_shaped sd) (room_in_sh sd hu) ⟨.bl _, H, I, rfl, q⟩
theorem op_ninT (hu : X.A.units + 65 < cLine) : OpR X (compareOp .NotIn) (rInT X.K true) := by
  intro pins s σ H x y v u Q I rx ry h
  obtain ⟨d, ds, hd, he, sd, se, q⟩ := h
  obtain ⟨as, r1⟩ := Dp.reads I d x v hd.dp rx
  obtain ⟨bs, r2⟩ := Dp.reads I (.tuple ds) y u he.dp ry
  exact SeqAt.notIn_tuple_reads r2 r1 (SeqAt.canLay_of_shaped se) (SeqAt.canLay_of_shaped sd) (room_in_sh sd hu) ⟨.bl _, H, I, rfl, q⟩
/-- x in t: texts -/
def rInS (K : PySem.W.Frag) (neg : Bool) : R2 := fun x y H Q => ∃ (n : Str) (p : Addr) (ns : List Str), x = .str n ∧ y = .ref p ∧ tupF K H p = some (ns.map V.str) ∧ Q (.bl (if neg then !decide (n ∈ ns) else decide (n ∈ ns))) H
theorem inV_strs (n : Str) : ∀ ns : List Str, inV (.str n) (ns.map V.str) = decide (n ∈ ns)
  | [] => by simp [inV]
  | x :: ns => by
    have ih := inV_strs n ns
    unfold inV at ih ⊢
    rw [List.map_cons, List.any_cons, ih]
    have e : eqV (.str x) (.str n) = decide (n = x) := by
      by_cases h : n = x
      · subst h; simp [eqV]
      · simp [eqV, h, Ne.symm h]
    rw [e]
    by_cases h : n = x <;> simp [h]
theorem flat_strs : ∀ ns : List Str, (ns.map V.str).all flatV = true
  | [] => rfl
  | _ :: ns => by rw [List.map_cons, List.all_cons, flat_strs ns]; rfl
theorem op_inS : OpR X (compareOp .In) (rInS X.K false) := by
  intro pins s σ H x y v u Q I rx ry ⟨n, p, ns, e1, e2, h, q⟩
  subst e1 e2
  refine op_in_seq pins s σ H _ _ v u Q I rx ry ⟨p, ns.map V.str, rfl, .inr (tupF_sq h), rfl, flat_strs ns, ?_⟩
  rw [inV_strs]; exact q
/-- xs == ys, xs != ys of lists of data -/
def rEqLF (K : PySem.W.Frag) (neg : Bool) : R2 := fun x y H Q => ∃ a b xs ys, x = .ref a ∧ y = .ref b ∧ H a = some (.lst xs) ∧ H b = some (.lst ys) ∧ ∃ ds es, TdAll K H xs ds ∧ TdAll K H ys es ∧ SeqAt.shaped (.list ds) = true ∧ SeqAt.shaped (.list es) = true ∧ Q (.bl (if neg then !PyData.eqvAll ds es else PyData.eqvAll ds es)) H
theorem op_eqLF (hu : X.A.units + 64 < cLine) : OpR X (compareOp .Eq) (rEqLF X.K false) := fun pins s σ H x y v u Q I rx ry ⟨a, b, xs, ys, e1, e2, h1, h2, ds, es, t1, t2, h3, h4, q⟩ => by
  subst e1 e2
  refine op_eqD hu pins s σ H _ _ v u Q I rx ry ⟨.list ds, .list es, .lst (SqL.of h1) t1.dp, .lst (SqL.of h2) t2.dp, h3, h4, ?_⟩
  simpa [PyData.eqv] using q
theorem op_neLF (hu : X.A.units + 64 < cLine) : OpR X (compareOp .NotEq) (rEqLF X.K true) := fun pins s σ H x y v u Q I rx ry ⟨a, b, xs, ys, e1, e2, h1, h2, ds, es, t1, t2, h3, h4, q⟩ => by
  subst e1 e2
  refine op_neD hu pins s σ H _ _ v u Q I rx ry ⟨.list ds, .list es, .lst (SqL.of h1) t1.dp, .lst (SqL.of h2) t2.dp, h3, h4, ?_⟩
  simpa [PyData.eqv] using q
end
/-- l.index(x), texts -/
def rIndexS : V → List V → Hp → VK → Prop := fun x xs H Q => ∃ (a : Addr) (n : Str) (ns : List Str), x = .ref a ∧ xs = [.str n] ∧ H a = some (.lst (ns.map V.str)) ∧ ∃ j : Nat, ns[j]? = some n ∧ (∀ m, m < j → ns[m]? ≠ some n) ∧ Q (.int (j : Nat)) H
theorem eqV_str (x y : Str) : eqV (.str x) (.str y) = decide (y = x) := by
  by_cases h : y = x
  · subst h; simp [eqV]
  · simp [eqV, h, Ne.symm h]
theorem mt_indexS {X : Cx} : MtR X "list.index" rIndexS := fun pins s σ H x xs v us Q I rx rv ⟨a, n, ns, e1, e2, h, j, hj, hm, q⟩ => by
  subst e1 e2
  refine mt_index pins s σ H _ _ v us Q I rx rv ⟨a, ns.map V.str, .str n, j, .str n, rfl, rfl, SqL.of h, rfl, flat_strs ns, by rw [List.getElem?_map, hj]; rfl, by rw [eqV_str]; simp, fun m z hm' hz => ?_, q⟩
  rw [List.getElem?_map] at hz
  cases hk : ns[m]? with
  | none => rw [hk] at hz; cases hz
  | some y =>
    rw [hk] at hz
    cases hz
    rw [eqV_str]
    refine decide_eq_false fun e => hm m hm' ?_
    rw [hk, e]
/-! ### the same, the kit's code tables named -/
section
variable {X : Cx} (K : PySem.W.Frag)
theorem ix_tupK (hK : X.K = K := by rfl) : IxR X (rIxF K) := by subst hK; exact ix_tupF
theorem sl_tupK (hK : X.K = K := by rfl) : SlR X (rSlF K) := by subst hK; exact sl_tupF
theorem op_catK (hK : X.K = K := by rfl) : OpR X (binaryOp .Add) (rCatF K) := by subst hK; exact op_catF
theorem call_tupleK (hK : X.K = K := by rfl) : CallR X (.type "tuple") (rTupL K) := by subst hK; exact call_tupleL
theorem call_listK (hK : X.K = K := by rfl) : CallR X (.type "list") (rListT K) := by subst hK; exact call_listT
theorem call_lenK (hK : X.K = K := by rfl) : CallR X (.builtin "len") (rLenT K) := by subst hK; exact call_lenT
theorem op_eqK (hu : X.A.units + 64 < cLine) (hK : X.K = K := by rfl) : OpR X (compareOp .Eq) (rEqF K false) := by subst hK; exact op_eqF hu
theorem op_neK (hu : X.A.units + 64 < cLine) (hK : X.K = K := by rfl) : OpR X (compareOp .NotEq) (rEqF K true) := by subst hK; exact op_neF hu
theorem op_eqLK (hu : X.A.units + 64 < cLine) (hK : X.K = K := by rfl) : OpR X (compareOp .Eq) (rEqLF K false) := by subst hK; exact op_eqLF hu
theorem op_neLK (hu : X.A.units + 64 < cLine) (hK : X.K = K := by rfl) : OpR X (compareOp .NotEq) (rEqLF K true) := by subst hK; exact op_neLF hu
theorem op_inSK (hK : X.K = K := by rfl) : OpR X (compareOp .In) (rInS K false) := by subst hK; exact op_inS
theorem op_inTK (hu : X.A.units + 65 < cLine) (hK : X.K = K := by rfl) : OpR X (compareOp .In) (rInT K false) := by subst hK; exact op_inT hu
theorem op_ninTK (hu : X.A.units + 65 < cLine) (hK : X.K = K := by rfl) : OpR X (compareOp .NotIn) (rInT K true) := by subst hK; exact op_ninT hu
theorem pe_tupK {es : List Expr} {x1 : Nat} {pos : Pos} {t : TA} (h : PA X es t) (hK : X.K = K := by rfl) : PE X (.Tuple es x1 pos) (tTupF K t) := by subst hK; exact pe_tupF h
theorem pg_tupK {es : List Expr} {k : Nat} {pos : Pos} {t : TGs} {n : Nat} (hc : X.calm = true) (h : PGs X es t)
    (hn : (assignEach es X.env).length = n := by rfl) (hst : (assignEach es X.env).findIdx? (·.1) = none := by rfl) (hK : X.K = K := by rfl) : PG X (.Tuple es k pos) (gTupF K n t) := by subst hK; exact pg_tupF hc h hn hst
theorem pg_tupZ {es : List Expr} {k : Nat} {pos : Pos} {t : TGs} {n : Nat} (hc : X.calm = true) (h : PGs X es t)
    (hn : (assignEach es X.env).length = n := by rfl) (hst : (assignEach es X.env).findIdx? (·.1) = none := by rfl) (hK : X.K = K := by rfl) : PG X (.Tuple es k pos) (gTup K n t) := by subst hK; exact pg_tup hc h hn hst
theorem pi_tupK {tg l : Expr} {tl : TE} (hl : PE X l tl) (hK : X.K = K := by rfl) : PI X tg l (iTupF K tl) := by subst hK; exact pi_tupF hl
theorem pi_lstK {tg l : Expr} {tl : TE} (hl : PE X l tl) (hK : X.K = K := by rfl) : PI X tg l (iLstF tl K) := by subst hK; exact pi_lstF hl
theorem pi_enumK {e : Expr} {ta : TA} {p pos tpos : Pos} {elts : List Expr} {kk : Nat} (hg : Gl X "enumerate") (hm : X.mg "enumerate" = none) (ha : PA X [e] ta) (hs : starEach [e] X.env = [(false, eval e X.env)] := by rfl) (hK : X.K = K := by rfl) :
    PI X (.Tuple elts kk tpos) (.Call (.Name "enumerate" p) [e] [] pos) (iEnumF K ta) := by subst hK; exact pi_enumF hg hm ha hs
theorem pi_zipK {e e2 : Expr} {ta : TA} {p pos tpos : Pos} {elts : List Expr} {kk : Nat} (hg : Gl X "zip") (hm : X.mg "zip" = none) (ha : PA X [e, e2] ta)
    (hs : starEach [e, e2] X.env = (false, eval e X.env) :: starEach [e2] X.env := by rfl) (hpl : (backTo pos (starEach [e2] X.env)).any (·.1) = false := by rfl) (hK : X.K = K := by rfl) :
    PI X (.Tuple elts kk tpos) (.Call (.Name "zip" p) [e, e2] [] pos) (iZipF K ta) := by subst hK; exact pi_zipF hg hm ha hs hpl
theorem pe_lzipK {e e2 : Expr} {ta : TA} {p p2 pos pos2 : Pos} (hc : X.calm = true) (hg : Gl X "zip") (hm : X.mg "zip" = none) (hgl : Gl X "list") (hml : X.mg "list" = none) (ha : PA X [e, e2] ta)
    (hs : starEach [e, e2] X.env = (false, eval e X.env) :: starEach [e2] X.env := by rfl) (hpl : (backTo pos (starEach [e2] X.env)).any (·.1) = false := by rfl)
    (hs2 : starEach [.Call (.Name "zip" p) [e, e2] [] pos] X.env = [(false, eval (.Call (.Name "zip" p) [e, e2] [] pos) X.env)] := by rfl) (hK : X.K = K := by rfl) :
    PE X (.Call (.Name "list" p2) [.Call (.Name "zip" p) [e, e2] [] pos] [] pos2) (tLZip K ta) := by subst hK; exact pe_lzip hc hg hm hgl hml ha hs hpl hs2
end
end Sq
set_option Elab.async false
set_option linter.all false
set_option maxRecDepth 100000
set_option maxHeartbeats 2000000
namespace Sq
open PySem PySem.Spec PyProof.Rows L2
/-! ### trees of the laws on equations: names, two signs alone, one of one, one of two -/
inductive Tr
  | v (x : Str)
  | a
  | b
  | i (t : Tr)
  | m (t u : Tr)
deriving DecidableEq
namespace Tr
def data : Tr → PyData
  | v x => .tuple [.str "v", .str x]
  | a => .tuple [.str "a"]
  | b => .tuple [.str "b"]
  | i t => .tuple [.str "i", t.data]
  | m t u => .tuple [.str "m", t.data, u.data]
def dep : Tr → Nat
  | v _ => 1
  | a => 1
  | b => 1
  | i t => t.dep + 1
  | m t u => max t.dep u.dep + 1
def names : Tr → List Str
  | v x => [x]
  | a => []
  | b => []
  | i t => t.names
  | m t u => t.names ++ u.names
def isV : Tr → Bool
  | v _ => true
  | _ => false
def hd : Tr → Str
  | v _ => "v"
  | a => "a"
  | b => "b"
  | i _ => "i"
  | m _ _ => "m"
def args : Tr → List Tr
  | i t => [t]
  | m t u => [t, u]
  | _ => []
theorem dep_pos : ∀ t : Tr, 1 ≤ t.dep
  | v _ => Nat.le_refl _
  | a => Nat.le_refl _
  | b => Nat.le_refl _
  | i _ => Nat.le_add_left _ _
  | m _ _ => Nat.le_add_left _ _
theorem dep_arg {t u : Tr} (h : u ∈ t.args) : u.dep < t.dep := by
  cases t with
  | v x => cases h
  | a => cases h
  | b => cases h
  | i s =>
    have e : u = s := by simpa [args] using h
    subst e; simp [dep]
  | m s r =>
    have e : u = s ∨ u = r := by simpa [args] using h
    rcases e with e | e <;> (subst e; simp only [dep]; omega)
theorem names_arg {t u : Tr} (h : u ∈ t.args) {x : Str} (hx : x ∈ u.names) : x ∈ t.names := by
  cases t with
  | v x => cases h
  | a => cases h
  | b => cases h
  | i s =>
    have e : u = s := by simpa [args] using h
    subst e; exact hx
  | m s r =>
    have e : u = s ∨ u = r := by simpa [args] using h
    rcases e with e | e <;> subst e
    · exact List.mem_append_left _ hx
    · exact List.mem_append_right _ hx
theorem names_args {t : Tr} (h : t.isV = false) {x : Str} : x ∈ t.names ↔ ∃ u ∈ t.args, x ∈ u.names := by
  cases t with
  | v x => cases h
  | a => simp [names, args]
  | b => simp [names, args]
  | i s => simp [names, args]
  | m s r => simp [names, args]
theorem data_f {t : Tr} (h : t.isV = false) : t.data = .tuple (.str t.hd :: t.args.map data) := by
  cases t with
  | v x => cases h
  | a => rfl
  | b => rfl
  | i s => rfl
  | m s r => rfl
theorem hd_v {t : Tr} (h : t.isV = false) : t.hd ≠ "v" := by
  cases t with
  | v x => cases h
  | a => decide
  | b => decide
  | i s => show ("i" : Str) ≠ "v"; decide
  | m s r => show ("m" : Str) ≠ "v"; decide
theorem args_len (t : Tr) : t.args.length ≤ 2 := by cases t <;> simp [args]
theorem eqvAll_cons (x y : PyData) (xs ys : List PyData) : PyData.eqvAll (x :: xs) (y :: ys) = (PyData.eqv x y && PyData.eqvAll xs ys) := by rw [PyData.eqvAll]
theorem eqv_str (x y : Str) : PyData.eqv (.str x) (.str y) = (x == y) := by rw [PyData.eqv]
theorem eqv_tup (xs ys : List PyData) : PyData.eqv (.tuple xs) (.tuple ys) = PyData.eqvAll xs ys := by rw [PyData.eqv]
theorem eqvAll_nil : PyData.eqvAll [] [] = true := by rw [PyData.eqvAll]
theorem eqvAll_nc (x : PyData) (xs : List PyData) : PyData.eqvAll [] (x :: xs) = false := by rw [PyData.eqvAll]
theorem eqvAll_cn (x : PyData) (xs : List PyData) : PyData.eqvAll (x :: xs) [] = false := by rw [PyData.eqvAll]
theorem eqv_data : ∀ t u : Tr, PyData.eqv t.data u.data = decide (t = u)
  | v x, v y => by simp only [data, eqv_tup, eqvAll_cons, eqv_str, eqvAll_nil, beq_self_eq_true, Bool.true_and, Bool.and_true, v.injEq]; exact Bool.beq_eq_decide_eq _ _
  | v x, a => rfl
  | v x, b => rfl
  | v x, i u => by simp only [data, eqv_tup, eqvAll_cons, eqv_str, reduceCtorEq, decide_false]; rfl
  | v x, m u w => by simp only [data, eqv_tup, eqvAll_cons, eqv_str, reduceCtorEq, decide_false]; rfl
  | a, v y => by simp only [data, eqv_tup, eqvAll_cons, eqv_str, reduceCtorEq, decide_false]; rfl
  | a, a => rfl
  | a, b => rfl
  | a, i u => by simp only [data, eqv_tup, eqvAll_cons, eqv_str, reduceCtorEq, decide_false]; rfl
  | a, m u w => by simp only [data, eqv_tup, eqvAll_cons, eqv_str, reduceCtorEq, decide_false]; rfl
  | b, v y => by simp only [data, eqv_tup, eqvAll_cons, eqv_str, reduceCtorEq, decide_false]; rfl
  | b, a => rfl
  | b, b => rfl
  | b, i u => by simp only [data, eqv_tup, eqvAll_cons, eqv_str, reduceCtorEq, decide_false]; rfl
  | b, m u w => by simp only [data, eqv_tup, eqvAll_cons, eqv_str, reduceCtorEq, decide_false]; rfl
  | i t, v y => by simp only [data, eqv_tup, eqvAll_cons, eqv_str, reduceCtorEq, decide_false]; rfl
  | i t, a => by simp only [data, eqv_tup, eqvAll_cons, eqv_str, reduceCtorEq, decide_false]; rfl
  | i t, b => by simp only [data, eqv_tup, eqvAll_cons, eqv_str, reduceCtorEq, decide_false]; rfl
  | i t, i u => by simp only [data, eqv_tup, eqvAll_cons, eqv_str, eqv_data t u, eqvAll_nil, beq_self_eq_true, Bool.true_and, Bool.and_true, i.injEq]
  | i t, m u w => by simp only [data, eqv_tup, eqvAll_cons, eqv_str, reduceCtorEq, decide_false]; rfl
  | m s r, v y => by simp only [data, eqv_tup, eqvAll_cons, eqv_str, reduceCtorEq, decide_false]; rfl
  | m s r, a => by simp only [data, eqv_tup, eqvAll_cons, eqv_str, reduceCtorEq, decide_false]; rfl
  | m s r, b => by simp only [data, eqv_tup, eqvAll_cons, eqv_str, reduceCtorEq, decide_false]; rfl
  | m s r, i u => by simp only [data, eqv_tup, eqvAll_cons, eqv_str, reduceCtorEq, decide_false]; rfl
  | m s r, m u w => by simp only [data, eqv_tup, eqvAll_cons, eqv_str, eqv_data s u, eqv_data r w, eqvAll_nil, beq_self_eq_true, Bool.true_and, Bool.and_true, m.injEq, Bool.decide_and]
theorem depth_data : ∀ t : Tr, t.data.depth = t.dep
  | v x => rfl
  | a => rfl
  | b => rfl
  | i t => by simp [data, PyData.depth, PyData.depthAll, depth_data t, dep]
  | m t u => by simp [data, PyData.depth, PyData.depthAll, depth_data t, depth_data u, dep]
theorem lay_str (x : Str) : PyData.canLay0 (.str x) = PyData.strOk x := by rw [PyData.canLay0]
theorem lay_tup (xs : List PyData) : PyData.canLay0 (.tuple xs) = PyData.canLayAll0 xs := by rw [PyData.canLay0]
theorem lay_cons (x : PyData) (xs : List PyData) : PyData.canLayAll0 (x :: xs) = (PyData.canLay0 x && PyData.canLayAll0 xs) := by rw [PyData.canLayAll0]
theorem lay_nil : PyData.canLayAll0 [] = true := by rw [PyData.canLayAll0]
theorem ok_v : PyData.strOk "v" = true := by decide +kernel
theorem ok_a : PyData.strOk "a" = true := by decide +kernel
theorem ok_b : PyData.strOk "b" = true := by decide +kernel
theorem ok_i : PyData.strOk "i" = true := by decide +kernel
theorem ok_m : PyData.strOk "m" = true := by decide +kernel
theorem lay_data : ∀ t : Tr, (∀ x ∈ t.names, PyData.strOk x = true) → t.data.canLay0 = true
  | v x, h => by simp only [data, lay_tup, lay_cons, lay_str, lay_nil, ok_v, h x (by simp [names]), Bool.and_self]
  | a, _ => by simp only [data, lay_tup, lay_cons, lay_str, lay_nil, ok_a, Bool.and_self]
  | b, _ => by simp only [data, lay_tup, lay_cons, lay_str, lay_nil, ok_b, Bool.and_self]
  | i t, h => by simp only [data, lay_tup, lay_cons, lay_str, lay_nil, ok_i, lay_data t h, Bool.and_self]
  | m t u, h => by simp only [data, lay_tup, lay_cons, lay_str, lay_nil, ok_m, lay_data t (fun x q => h x (List.mem_append_left _ q)), lay_data u (fun x q => h x (List.mem_append_right _ q)), Bool.and_self]
end Tr
/-- names that are all right, fewer than 64 -/
structure NsOk (NS : List Str) : Prop where
  ok : ∀ x ∈ NS, PyData.strOk x = true
  few : NS.length < 64
theorem Tr.shaped {NS : List Str} (n : NsOk NS) {t : Tr} (h : ∀ x ∈ t.names, x ∈ NS) (hd : t.dep ≤ 64) : SeqAt.shaped t.data = true := by
  unfold SeqAt.shaped
  rw [Tr.lay_data t fun x q => n.ok x (h x q), Tr.depth_data, decide_eq_true hd]
  rfl
section
variable {K : PySem.W.Frag} {H : Hp}
theorem td_v {v : V} {x : Str} (h : Td K H v (Tr.v x).data) : ∃ p, v = .ref p ∧ tupF K H p = some [.str "v", .str x] := by
  cases h with
  | tup e r =>
    cases r with
    | cons h1 r =>
      cases r with
      | cons h2 r =>
        cases r
        cases h1
        cases h2
        exact ⟨_, rfl, e⟩
theorem td_f {v : V} {t : Tr} (hv : t.isV = false) (h : Td K H v t.data) : ∃ p ws, v = .ref p ∧ tupF K H p = some (.str t.hd :: ws) ∧ TdAll K H ws (t.args.map Tr.data) := by
  rw [Tr.data_f hv] at h
  cases h with
  | tup e r =>
    cases r with
    | cons h1 r =>
      cases h1
      exact ⟨_, _, rfl, e, r⟩
theorem td_hd {v : V} {t : Tr} (h : Td K H v t.data) : ∃ p ws, v = .ref p ∧ tupF K H p = some (.str t.hd :: ws) := by
  cases e : t.isV with
  | false => obtain ⟨p, ws, e, q, _⟩ := td_f e h; exact ⟨p, ws, e, q⟩
  | true =>
    cases t with
    | v x => obtain ⟨p, e, q⟩ := td_v h; exact ⟨p, _, e, q⟩
    | a => cases e
    | b => cases e
    | i s => cases e
    | m s r => cases e
theorem td_mk {p : Addr} {ws : List V} {t : Tr} (hv : t.isV = false) (h : tupF K H p = some (.str t.hd :: ws)) (r : TdAll K H ws (t.args.map Tr.data)) : Td K H (.ref p) t.data := by
  rw [Tr.data_f hv]
  exact .tup h (.cons (.str _) r)
theorem td_arg {ws : List V} {t : Tr} (r : TdAll K H ws (t.args.map Tr.data)) {j : Nat} {w : V} (h : ws[j]? = some w) : ∃ u, t.args[j]? = some u ∧ u ∈ t.args ∧ Td K H w u.data := by
  obtain ⟨d, e, q⟩ := r.get h
  rw [List.getElem?_map] at e
  cases e2 : t.args[j]? with
  | none => rw [e2] at e; cases e
  | some u =>
    rw [e2] at e
    cases e
    exact ⟨u, rfl, List.mem_of_getElem? e2, q⟩
end
theorem Ext.over {H H1 H2 : Hp} {D : Addr} (a : Ext [] H H1) (n : H D = none) (b : Ext [D] H1 H2) : Ext [] H H2 := by
  refine ⟨fun c o e _ m => ?_, fun c o e => b.tup c o (a.tup c o e), fun c o u e => b.frz c o u (a.frz c o u e), fun P h => b.tab P (a.tab P h)⟩
  refine b.keep c o (a.keep c o e (fun z => nomatch z) m) (fun z => ?_) m
  have z' : c = D := by simpa using z
  rw [z', n] at e
  cases e
/-! ### lists of texts as keys -/
def addK (ks : List Str) (x : Str) : List Str := if x ∈ ks then ks else ks ++ [x]
theorem mem_addK {ks : List Str} {x y : Str} : y ∈ addK ks x ↔ y ∈ ks ∨ y = x := by
  unfold addK
  split
  · constructor
    · exact .inl
    · rintro (h | h)
      · exact h
      · subst h; assumption
  · simp
theorem nodup_addK {ks : List Str} {x : Str} (h : ks.Nodup) : (addK ks x).Nodup := by
  unfold addK
  split
  · exact h
  · rename_i n
    exact List.nodup_append.mpr ⟨h, by simp, fun a ha b hb e => by
      have : b = x := by simpa using hb
      subst this; subst e; exact n ha⟩
theorem nodup_sub : ∀ {l m : List Str}, l.Nodup → (∀ x ∈ l, x ∈ m) → l.length ≤ m.length
  | [], _, _, _ => Nat.zero_le _
  | x :: l, m, h, s => by
    have hx : x ∈ m := s x List.mem_cons_self
    have h' := List.nodup_cons.mp h
    have := nodup_sub (l := l) (m := m.erase x) h'.2 fun y hy => (List.mem_erase_of_ne (fun e => h'.1 (by rw [← e]; exact hy))).mpr (s y (List.mem_cons_of_mem _ hy))
    rw [List.length_erase_of_mem hx] at this
    have : 0 < m.length := List.length_pos_of_mem hx
    rw [List.length_cons]; omega
def trueK (ks : List Str) : List (Key × V) := ks.map fun x => (Sum.inr x, V.bl true)
theorem put_true (ks : List Str) (x : Str) : putK (trueK ks) (Sum.inr x) (V.bl true) = trueK (addK ks x) := by
  have e : ((trueK ks).any fun kv => decide (kv.1 = Sum.inr x)) = decide (x ∈ ks) := by
    unfold trueK
    rw [List.any_map]
    induction ks with
    | nil => rfl
    | cons y ys ih =>
      rw [List.any_cons, ih]
      by_cases h : y = x
      · subst h; simp
      · have h' : ¬ x = y := fun z => h z.symm
        simp [h, h']
  unfold putK addK
  rw [e]
  by_cases h : x ∈ ks
  · rw [decide_eq_true h, if_pos rfl, if_pos h]
    unfold trueK
    rw [List.map_map]
    refine List.map_congr_left fun y _ => ?_
    simp only [Function.comp]
    split <;> simp_all
  · rw [decide_eq_false h, if_neg Bool.false_ne_true, if_neg h]
    unfold trueK
    rw [List.map_append]; rfl
theorem trueK_keys (ks : List Str) : (trueK ks).map (·.1) = ks.map Sum.inr := by unfold trueK; rw [List.map_map]; rfl
end Sq
set_option Elab.async false
set_option linter.all false
set_option maxRecDepth 100000
set_option maxHeartbeats 2000000
namespace Sq
open PySem PySem.Spec PyProof.Rows L2 RZ
theorem take_snoc {α : Type} {ds : List α} {j : Nat} {d : α} (h : ds[j]? = some d) : ds.take (j + 1) = ds.take j ++ [d] := by
  rw [List.take_add_one, h]; rfl
section
variable {K : PySem.W.Frag}
/-- a list of data, one for each item of a tuple -/
theorem lc_map {p : Addr} {ws : List V} {ds : List PyData} {te : TE} {vs : List Nat} {σ : L2.St} {H1 : Hp} {Q : VK} {i : Nat} (hp : tupF K H1 p = some ws) (hlen : ds.length = ws.length) (hsz : ws.length ≤ 100000)
    (hσ : ∀ x, wipe ((wipe σ vs).set i (some x)) vs = wipe σ vs)
    (hte : ∀ (j : Nat) (x : V) (d : PyData) (H' : Hp) (R : VK), ws[j]? = some x → ds[j]? = some d → Ext [] H1 H' → (∀ y H'', Ext [] H' H'' → Td K H'' y d → R y H'') → te ((wipe σ vs).set i (some x)) H' R)
    (hd : ∀ D ys H', H1 D = none → Ext [] H1 H' → H' D = some (.lst ys) → TdAll K H' ys ds → Q (.ref D) H') : LcB (Itt K p) (gName i) tYes te vs σ H1 Q := by
  refine lc_go walk_tup (fun D j ys H' => ys.length = j ∧ Ext [] H1 H' ∧ TdAll K H' ys (ds.take j)) (fun D hD => ⟨rfl, Ext.new hD, by rw [List.take_zero]; exact .nil⟩) (fun D j ys H' ⟨_, e, _⟩ => tupF_sq (tupF_ext e hp)) (fun D j x ys H' H'' hD hj ⟨hl, e, t⟩ _ hys y => ?_) fun D ys H' hD ⟨hl, e, t⟩ hys _ => ?_
  · obtain ⟨rfl, hx⟩ := y
    have hj' : j < ds.length := by omega
    have hdj : ds[j]? = some (ds[j]) := List.getElem?_eq_getElem hj'
    have hs1 : (100000 : Nat) < sizeLine := by decide
    refine ⟨hσ x, ?_⟩
    simp only [tYes, if_true]
    refine hte j x _ _ _ hx hdj e fun y H4 e4 hy => ⟨ys, e4.lst0 hys, by omega, ys ++ [y], by rw [List.length_append, hl]; exact Nat.le_refl _, upd_same, by rw [List.length_append, hl]; rfl, (e.trans e4).over hD (Ext.setL List.mem_cons_self (e4.lst0 hys)), ?_⟩
    rw [take_snoc hdj]
    have es : Ext [D] H4 (upd H4 D (.lst (ys ++ [y]))) := Ext.setL List.mem_cons_self (e4.lst0 hys)
    exact ((t.ext e4).ext es).snoc (hy.ext es)
  · refine hd D ys H' hD e hys ?_
    rw [← hlen, List.take_length] at t
    exact t
/-- a sum of ints, one for each item of a tuple -/
theorem gsum_map {P p : Addr} {ws : List V} {ns : List Int} {te : TE} {vs : List Nat} {σ : L2.St} {H1 : Hp} {Fin : Int → Hp → Prop} {i : Nat} (ht : GxR.TabG H1 P) (hp : tupF K H1 p = some ws) (hlen : ns.length = ws.length)
    (hσ : ∀ x, wipe ((wipe σ vs).set i (some x)) vs = wipe σ vs)
    (hb : ∀ j n, ns[j]? = some n → InLong n ∧ InLong ((ns.take j).sum + n))
    (hte : ∀ (j : Nat) (x : V) (n : Int) (H' : Hp) (R : VK), ws[j]? = some x → ns[j]? = some n → Ext [] H1 H' → (∀ H'', Ext [] H' H'' → R (.int n) H'') → te ((wipe σ vs).set i (some x)) H' R)
    (hd : ∀ H', Ext [] H1 H' → Fin ns.sum H') : GB P (Itt K p) (gName i) tYes te vs (0 : Int) (fun t y H N => ∃ j, y = .int j ∧ (InLong j ∧ InLong (t + j)) ∧ N (t + j) H) Fin σ H1 := by
  refine gen_go walk_tup ht (fun j t H' => t = (ns.take j).sum ∧ Ext [] H1 H') (fun H2 e => ⟨by rw [List.take_zero]; rfl, e⟩) (fun j t H' _ ⟨_, e⟩ => tupF_sq (tupF_ext e hp)) (fun j x t H' H'' hj ⟨hs, e⟩ y => ?_) fun t H' ⟨hs, e⟩ => ?_
  · obtain ⟨rfl, hx⟩ := y
    have hj' : j < ns.length := by omega
    have hnj : ns[j]? = some (ns[j]) := List.getElem?_eq_getElem hj'
    refine ⟨hσ x, ?_⟩
    simp only [tYes, if_true]
    obtain ⟨b1, b2⟩ := hb j _ hnj
    refine hte j x _ _ _ hx hnj e fun H4 e4 => ⟨_, rfl, ⟨b1, by rw [hs]; exact b2⟩, ?_, e.trans e4⟩
    rw [take_snoc hnj, hs, List.sum_append]
    simp
  · rw [← hlen, List.take_length] at hs
    rw [hs]
    exact hd H' e
theorem two_long {ns : List Int} (hl : ns.length ≤ 2) (hb : ∀ n ∈ ns, 0 ≤ n ∧ n ≤ 4194304) : ∀ j n, ns[j]? = some n → InLong n ∧ InLong ((ns.take j).sum + n) := by
  intro j n h
  have lo : ∀ x : Int, 0 ≤ x → x ≤ 8388608 → InLong x := fun x h1 h2 => by unfold InLong; omega
  match ns, hl, hb, j, h with
  | [x], _, hb, 0, h => cases h; have := hb n (by simp); exact ⟨lo _ (by omega) (by omega), lo _ (by simp; omega) (by simp; omega)⟩
  | [x, y], _, hb, 0, h => cases h; have := hb n (by simp); exact ⟨lo _ (by omega) (by omega), lo _ (by simp; omega) (by simp; omega)⟩
  | [x, y], _, hb, 1, h => cases h; have := hb n (by simp); have := hb x (by simp); exact ⟨lo _ (by omega) (by omega), lo _ (by simp; omega) (by simp; omega)⟩
theorem td_ints {H : Hp} : ∀ {ys : List V} {ns : List Int}, TdAll K H ys (ns.map PyData.int) → ys = ns.map V.int
  | _, [], .nil => rfl
  | _, _ :: _, .cons (.int _) r => by rw [td_ints r]; rfl
/-- any over the keys of a locked dict -/
theorem gany_keys {P d : Addr} {o : Obj} {kvs : List (Key × V)} {te : TE} {vs : List Nat} {σ : L2.St} {H1 : Hp} {Qt Qf : Hp → Prop} {i : Nat} (r : Nat → Bool) (ht : GxR.TabG H1 P) (hd : H1 d = some (.frz o (.dK kvs)))
    (hσ : ∀ x, wipe ((wipe σ vs).set i (some x)) vs = wipe σ vs)
    (hte : ∀ (j : Nat) (k : Key) (v : V) (H' : Hp) (R : VK), kvs[j]? = some (k, v) → Ext [] H1 H' → (∀ H'', Ext [] H' H'' → R (.bl (r j)) H'') → te ((wipe σ vs).set i (some (kV k))) H' R)
    (hT : ∀ H' j, j < kvs.length → r j = true → Ext [] H1 H' → Qt H') (hF : ∀ H', (∀ j, j < kvs.length → r j = false) → Ext [] H1 H' → Qf H') :
    GB P (Itk d o kvs) (gName i) tYes te vs () (fun _ y H N => ∃ b, y = .bl b ∧ if b = true then Qt H else N () H) (fun _ H => Qf H) σ H1 := by
  refine gen_go walk_keys ht (fun j _ H' => (∀ m, m < j → r m = false) ∧ Ext [] H1 H') (fun H2 e => ⟨fun m hm => absurd hm (Nat.not_lt_zero _), e⟩) (fun j t H' _ ⟨_, e⟩ => e.frz _ _ _ hd) (fun j x t H' H'' hj ⟨hs, e⟩ y => ?_) fun t H' ⟨hs, e⟩ => hF H' hs e
  obtain ⟨rfl, k, v, hk, rfl⟩ := y
  refine ⟨hσ _, ?_⟩
  simp only [tYes, if_true]
  refine hte j k v _ _ hk e fun H4 e4 => ⟨_, rfl, ?_⟩
  cases hr : r j with
  | true => simp only [if_true]; exact hT H4 j hj hr (e.trans e4)
  | false =>
    simp only [Bool.false_eq_true, if_false]
    refine ⟨fun m hm => ?_, e.trans e4⟩
    by_cases q : m = j
    · rw [q]; exact hr
    · exact hs m (by omega)
theorem dctF_lock {H : Hp} {d p : Addr} {o : Obj} {k1 k2 : List (Key × V)} (h : dctF H p = some k1) (hd : H d = some (.dK k2)) : dctF (upd H d (.frz o (.dK k2))) p = some k1 := by
  by_cases e : p = d
  · subst e
    rw [dctF_dK hd] at h
    cases h
    exact dctF_frz upd_same
  · unfold dctF
    rw [upd_ne e]
    exact h
theorem valV_at : ∀ {kvs : List (Key × V)} {j : Nat} {k : Key} {v : V}, kvs[j]? = some (k, v) → ∃ v', valV kvs k = some v'
  | p :: r, 0, k, v, h => by cases h; exact ⟨v, valV_pos rfl⟩
  | p :: r, j + 1, k, v, h => by
    by_cases e : p.1 = k
    · exact ⟨_, valV_pos e⟩
    · rw [valV_neg e]; exact valV_at (by simpa using h)
theorem at_valV {kvs : List (Key × V)} {k : Key} {v : V} (h : valV kvs k = some v) : ∃ j : Nat, kvs[j]? = some (k, v) := by
  induction kvs with
  | nil => cases h
  | cons p r ih =>
    by_cases e : p.1 = k
    · rw [valV_pos e] at h
      cases h
      exact ⟨0, by rw [← e]; rfl⟩
    · rw [valV_neg e] at h
      obtain ⟨j, hj⟩ := ih h
      exact ⟨j + 1, by simpa using hj⟩
end
end Sq
namespace Sq
open PySem L2
def top (i : Nat) : Stmt := PySem.Challenge.pw_sequenthall_k28_trees_made_one.main.body.getD i (.Pass ⟨0, 0, 0, 0⟩)
end Sq
set_option Elab.async false
set_option linter.all false
set_option maxRecDepth 100000
set_option maxHeartbeats 2000000
namespace Sq
open PySem PySem.Spec PyProof.Rows L2
local macro_rules | `(tactic| walk_at "rd") => `(tactic| simp only [tCont, tDisp, tPairs, rIndexS, wipe, tNoPart, tDG2, tDGF, tDInF, tDNInF, sDPutF, tDNewF, rSortD, rInS, rInT, rEqLF, tDcF, tDc2F, tLcF, tForF, tAllF, tAnyF, tSumF, iEnumF, iZipF, iKeysF, iItems, tLZip, tYes, tSeq, tIfS, tNext, tRet, tRetN, tDrop, tTest, tB, tNot, tAnd, tOr, tChain, tOp, tUn, tCB, tCons, tNil, tC, tVar, tIf, tAndV, tOrV, tNotV, tAsg, tPar, tPar3, gName, gSub, gTupF, gCons, gNil, tTupF, tLstF, rI0, rI, rIxF, rIxG, rIxS, rSetF, rSlF, rCatF, rCatL, rTupL, rListT, rListL, rLenT, rLenL, iTupF, iLstF, rAppF, rExtF, rPopF, tBM, tBM0, tSl, tPart, rEq, rNe, tCall, L2.start,
  List.map_cons, List.map_nil, List.length_cons, List.length_nil, Nat.sub_self, List.replicate, List.append_nil, List.cons_append, List.nil_append, List.getElem?_cons_zero, List.getElem?_cons_succ, List.set_cons_zero, List.set_cons_succ,
  exSl, exI, exI2, exB, exS, exR, ex1, ex1', V.int.injEq, V.bl.injEq, V.ref.injEq, V.str.injEq, Option.some.injEq, List.cons.injEq, and_true, true_and, reduceCtorEq, false_and, and_false, or_false, false_or, exists_false, exists_and_left, exists_eq_left', decide_eq_true_eq, decide_true, decide_false, if_false, if_true, ite_true, ite_false, Bool.false_eq_true, Bool.not_true, Bool.not_false, Nat.reduceAdd, Nat.reduceSub, Nat.zero_add, atI_0, atI_1, atI_2, atI_3, ixN_0, ixN_1, ixN_2, cutV_1, cutV_2, Option.some.injEq, HO.lst.injEq, HO.dK.injEq, scal])
local macro_rules | `(tactic| walk_at "rdc") => `(tactic| simp (config := { contextual := true }) only [tCont, tDisp, tPairs, rIndexS, wipe, tNoPart, tDG2, tDGF, tDInF, tDNInF, sDPutF, tDNewF, rSortD, rInS, rInT, rEqLF, tDcF, tDc2F, tLcF, tForF, tAllF, tAnyF, tSumF, iEnumF, iZipF, iKeysF, iItems, tLZip, tYes, tSeq, tIfS, tNext, tRet, tRetN, tDrop, tTest, tB, tNot, tAnd, tOr, tChain, tOp, tUn, tCB, tCons, tNil, tC, tVar, tIf, tAndV, tOrV, tNotV, tAsg, tPar, tPar3, gName, gSub, gTupF, gCons, gNil, tTupF, tLstF, rI0, rI, rIxF, rIxG, rIxS, rSetF, rSlF, rCatF, rCatL, rTupL, rListT, rListL, rLenT, rLenL, iTupF, iLstF, rAppF, rExtF, rPopF, tBM, tBM0, tSl, tPart, rEq, rNe, tCall, L2.start,
  List.map_cons, List.map_nil, List.length_cons, List.length_nil, Nat.sub_self, List.replicate, List.append_nil, List.cons_append, List.nil_append, List.getElem?_cons_zero, List.getElem?_cons_succ, List.set_cons_zero, List.set_cons_succ,
  exSl, exI, exI2, exB, exS, exR, ex1, ex1', V.int.injEq, V.bl.injEq, V.ref.injEq, V.str.injEq, Option.some.injEq, List.cons.injEq, and_true, true_and, reduceCtorEq, false_and, and_false, or_false, false_or, exists_false, exists_and_left, exists_eq_left', decide_eq_true_eq, decide_true, decide_false, if_false, if_true, ite_true, ite_false, Bool.false_eq_true, Bool.not_true, Bool.not_false, Nat.reduceAdd, Nat.reduceSub, Nat.zero_add, atI_0, atI_1, atI_2, atI_3, ixN_0, ixN_1, ixN_2, cutV_1, cutV_2, Option.some.injEq, HO.lst.injEq, HO.dK.injEq, scal, *])
abbrev s__law_dice : Stmt := top 9
abbrev s__law_roll : Stmt := top 10
abbrev s__law_rounds : Stmt := top 11
/-- names that are still the built-in ones -/
structure Bl (mg : Str → Option Value) : Prop where
  b_len : mg "len" = none
  b_abs : mg "abs" = none
  b_int : mg "int" = none
  b_str : mg "str" = none
  b_tuple : mg "tuple" = none
  b_list : mg "list" = none
  b_dict : mg "dict" = none
  b_sorted : mg "sorted" = none
  b_sum : mg "sum" = none
  b_any : mg "any" = none
  b_all : mg "all" = none
  b_max : mg "max" = none
  b_min : mg "min" = none
  b_range : mg "range" = none
  b_zip : mg "zip" = none
  b_enumerate : mg "enumerate" = none
  b_reversed : mg "reversed" = none
  b_isinstance : mg "isinstance" = none
/-- three numbers in a list of their own -/
def DiceAt (H : Hp) (a : Addr) : Prop := ∃ x y z : Int, H a = some (.lst [.int x, .int y, .int z])
def spDice : Sp := fun vs H Q _ => ∃ c : Int, vs = [.int c] ∧ ∀ p H', H p = none → Ext [] H H' → DiceAt H' p → Q (.ref p) H'
def spRoll : Sp := fun vs H Q _ => ∃ (a : Addr) (m : Int), vs = [.ref a, .int m] ∧ DiceAt H a ∧ 0 < m ∧ m < 1000000 ∧ ∀ r H', 0 ≤ r → r < m → Ext [a] H H' → DiceAt H' a → Q (.int r) H'
section
variable {P : Program} {w : World} {K : PySem.W.Frag} {mg : Str → Option Value} {base : Heap} {f c : Addr} {fd : FuncData}
theorem sc__law_dice : FnScope ["cell"] ["cell"] (defScope s__law_dice) := ⟨rfl, rfl, rfl, by decide +kernel, rfl, by decide +kernel, by decide +kernel⟩
theorem ok_dice (F : Dn K mg "_law_dice" s__law_dice f fd c) (B : Bl mg) : Cal P w K mg base 1 "_law_dice" spDice := by
  refine F.cal (ps := ["cell"]) (fun _ _ _ _ _ _ us hl => match us, hl with | [_], _ => rfl) sc__law_dice (fun vs H Q E h => ?_) (fun A outer s H vs Q E hr h => ?_)
  · obtain ⟨_, rfl, _⟩ := h; rfl
  obtain ⟨n, rfl, q⟩ := h
  refine ⟨_, (pss_cons (ps_if (pt_chain op_lt op_lt (pe_op op_sub pe_int pe_int) (pv 0) pe_int) (pss_one (ps_ret (pe_lstF (pa_cons (pe_callB call_abs (by rfl) B.b_abs (by decide +kernel) (pa_cons (pv 0) pa_nil)) (pa_cons pe_int (pa_cons pe_int pa_nil)))))) pss_nil)
    (pss_one (ps_ret (pe_lstF (pa_cons (pv 0) (pa_cons (pe_op op_add pe_int (pe_op op_mod (pe_callTy call_int1 (by rfl) B.b_int (by decide +kernel) (pa_cons (pv 0) pa_nil)) pe_int)) (pa_cons (pe_callTy call_int1 (by rfl) B.b_int (by decide +kernel) (pa_cons (pe_cmpR op_ge (pv 0) (pe_op op_pow pe_int pe_int) (nomark _)) pa_nil)) pa_nil))))))), ?_⟩
  walk_at "rd"
  have z : 3 ≤ sizeLine := by decide
  have e : ∀ x y u : Int, 3 ≤ sizeLine ∧ ∀ p H2, H p = none → Ext [] H H2 → H2 p = some (.lst [.int x, .int y, .int u]) → Q (.ref p) H2 := fun x y u => ⟨z, fun p H2 hp e h => q p H2 hp e ⟨x, y, u, h⟩⟩
  have e2 : (0 : Int) < 1009 ∧ CPow 10 18 ∧ 3 ≤ sizeLine ∧ ∀ p H2, H p = none → Ext [] H H2 → H2 p = some (.lst [.int n, .int (1 + n % 1009), .int (if (10 : Int) ^ Int.toNat 18 ≤ n then 1 else 0)]) → Q (.ref p) H2 := ⟨by decide, ⟨by decide, by decide, by decide⟩, e _ _ _⟩
  refine ite2 (fun _ => ite2 (fun _ => e _ _ _) fun _ => e2) fun _ => e2

theorem sc__law_roll : FnScope ["dice", "many", "found"] ["dice", "many"] (defScope s__law_roll) := ⟨rfl, rfl, rfl, by decide +kernel, rfl, by decide +kernel, by decide +kernel⟩
theorem ok_roll (F : Dn K mg "_law_roll" s__law_roll f fd c) (B : Bl mg) : Cal P w K mg base 1 "_law_roll" spRoll := by
  refine F.cal (ps := ["dice", "many"]) (fun _ _ _ _ _ _ us hl => match us, hl with | [_, _], _ => rfl) sc__law_roll (fun vs H Q E h => ?_) (fun A outer s H vs Q E hr h => ?_)
  · obtain ⟨_, _, rfl, _⟩ := h; rfl
  obtain ⟨a, m, rfl, ⟨x, y, u, ha⟩, m0, m1, q⟩ := h
  refine ⟨_, (pss_cons (ps_if (PW.pt (pw_or (pt_cmpR op_eq (pe_ix ix_lstF (pv 0) pe_int (fun _ _ => rfl)) pe_int (nomark _)) (pw_or1 (PW.pt (pw_and (pt_cmpR op_eq (pe_ix ix_lstF (pv 0) pe_int (fun _ _ => rfl)) pe_int (nomark _)) (pw_and1 (pt_cmpR op_gt (pe_ix ix_lstF (pv 0) pe_int (fun _ _ => rfl)) pe_int (nomark _)))))))) (pss_cons (ps_set (i := 2) sc__law_roll.nd rfl (by first | exact Or.inl rfl | exact Or.inr rfl) (pe_op op_mod (pe_callTy call_int1 (by rfl) B.b_int (by decide +kernel) (pa_cons (pe_ix ix_lstF (pv 0) pe_int (fun _ _ => rfl)) pa_nil)) (pv 1)))
    (pss_cons (ps_asg (pe_op op_fdivN (pe_ix ix_lstF (pv 0) pe_int (fun _ _ => rfl)) (pv 1)) (pg_sub (pv 0) pe_int set_lstF))
    (pss_one (ps_ret (pv 2))))) pss_nil)
    (pss_cons (ps_asg pe_int (pg_sub (pv 0) pe_int set_lstF))
    (pss_cons (ps_asg (pe_op op_mod (pe_callTy call_int1 (by rfl) B.b_int (by decide +kernel) (pa_cons (pe_op op_add (pe_op op_add (pe_op op_mul (pe_ix ix_lstF (pv 0) pe_int (fun _ _ => rfl)) pe_int) (pe_op op_mul (pe_ix ix_lstF (pv 0) pe_int (fun _ _ => rfl)) pe_int)) pe_int) pa_nil)) pe_int) (pg_sub (pv 0) pe_int set_lstF))
    (pss_cons (ps_asg (pe_op op_add (pe_ix ix_lstF (pv 0) pe_int (fun _ _ => rfl)) pe_int) (pg_sub (pv 0) pe_int set_lstF))
    (pss_one (ps_ret (pe_op op_mod (pe_callTy call_int1 (by rfl) B.b_int (by decide +kernel) (pa_cons (pe_op op_add (pe_op op_fdivN (pe_ix ix_lstF (pv 0) pe_int (fun _ _ => rfl)) pe_int) (pe_ix ix_lstF (pv 0) pe_int (fun _ _ => rfl))) pa_nil)) (pv 1)))))))), ?_⟩
  walk_at "rd"
  have q' := q
  clear q
  walk_at "rdc"
  have q := q'
  have bot : ∀ {p : Prop}, (∀ H2, Ext [a] H H2 → H2 a = some (HO.lst [V.int x, V.int y, V.int 0]) → CMul x 48271 ∧ CMul y 69621 ∧ (0 : Int) < 2147483647 ∧ ∀ H3, Ext [a] H2 H3 → H3 a = some (HO.lst [V.int ((x * 48271 + y * 69621 + 11) % 2147483647), V.int y, V.int 0]) →
      ∀ H4, Ext [a] H3 H4 → H4 a = some (HO.lst [V.int ((x * 48271 + y * 69621 + 11) % 2147483647), V.int (y + 1), V.int 0]) → CDivN ((x * 48271 + y * 69621 + 11) % 2147483647) 7 ∧
        Q (V.int ((((x * 48271 + y * 69621 + 11) % 2147483647).fdiv 7 + (x * 48271 + y * 69621 + 11) % 2147483647) % m)) H4) := fun {p} H2 e2 _ =>
    ⟨.inr (by decide), .inr (by decide), by decide, fun H3 e3 _ H4 e4 h4 => ⟨⟨by decide, by decide⟩, q _ _ (Int.emod_nonneg _ (by omega)) (Int.emod_lt_of_pos _ m0) ((e2.trans e3).trans e4) ⟨_, _, _, h4⟩⟩⟩
  have top : 0 < m ∧ CDivN x m ∧ ∀ H2, Ext [a] H H2 → H2 a = some (HO.lst [V.int (x.fdiv m), V.int y, V.int u]) → Q (V.int (x % m)) H2 :=
    ⟨m0, ⟨by omega, by omega⟩, fun H2 e2 h2 => q _ _ (Int.emod_nonneg _ (by omega)) (Int.emod_lt_of_pos _ m0) e2 ⟨_, _, _, h2⟩⟩
  by_cases h2 : u = 2
  · subst h2
    rw [if_pos rfl]
    exact ⟨⟨by omega, by omega⟩, top.2.2⟩
  · rw [if_neg h2]
    by_cases h1 : u = 1
    · subst h1
      rw [if_pos rfl]
      by_cases h0 : 0 < x
      · rw [if_pos h0]
        exact ⟨⟨by omega, by omega⟩, top.2.2⟩
      · rw [if_neg h0]
        exact bot (p := True)
    · rw [if_neg h1]
      exact bot (p := True)
end
end Sq
set_option Elab.async false
set_option linter.all false
set_option maxRecDepth 100000
set_option maxHeartbeats 2000000
namespace Sq
open PySem PySem.Spec PyProof.Rows L2 RZ
local macro_rules | `(tactic| walk_at "rd") => `(tactic| simp only [tCont, tDisp, tPairs, rIndexS, wipe, tNoPart, tDG2, tDGF, tDInF, tDNInF, sDPutF, tDNewF, rSortD, rInS, rInT, rEqLF, tDcF, tDc2F, tLcF, tForF, tAllF, tAnyF, tSumF, iEnumF, iZipF, iKeysF, iItems, tLZip, tYes, tSeq, tIfS, tNext, tRet, tRetN, tDrop, tTest, tB, tNot, tAnd, tOr, tChain, tOp, tUn, tCB, tCons, tNil, tC, tVar, tIf, tAndV, tOrV, tNotV, tAsg, tPar, tPar3, gName, gSub, gTupF, gCons, gNil, tTupF, tLstF, rI0, rI, rIxF, rIxG, rIxS, rSetF, rSlF, rCatF, rCatL, rTupL, rListT, rListL, rLenT, rLenL, iTupF, iLstF, rAppF, rExtF, rPopF, tBM, tBM0, tSl, tPart, rEq, rNe, tCall, L2.start,
  List.map_cons, List.map_nil, List.length_cons, List.length_nil, Nat.sub_self, List.replicate, List.append_nil, List.cons_append, List.nil_append, List.getElem?_cons_zero, List.getElem?_cons_succ, List.set_cons_zero, List.set_cons_succ,
  exSl, exI, exI2, exB, exS, exR, ex1, ex1', V.int.injEq, V.bl.injEq, V.ref.injEq, V.str.injEq, Option.some.injEq, List.cons.injEq, and_true, true_and, reduceCtorEq, false_and, and_false, or_false, false_or, exists_false, exists_and_left, exists_eq_left', decide_eq_true_eq, decide_true, decide_false, if_false, if_true, ite_true, ite_false, Bool.false_eq_true, Bool.not_true, Bool.not_false, Nat.reduceAdd, Nat.reduceSub, Nat.zero_add, atI_0, atI_1, atI_2, atI_3, ixN_0, ixN_1, ixN_2, cutV_1, cutV_2, Option.some.injEq, HO.lst.injEq, HO.dK.injEq, scal])
local macro_rules | `(tactic| walk_at "rdc") => `(tactic| simp (config := { contextual := true }) only [tCont, tDisp, tPairs, rIndexS, wipe, tNoPart, tDG2, tDGF, tDInF, tDNInF, sDPutF, tDNewF, rSortD, rInS, rInT, rEqLF, tDcF, tDc2F, tLcF, tForF, tAllF, tAnyF, tSumF, iEnumF, iZipF, iKeysF, iItems, tLZip, tYes, tSeq, tIfS, tNext, tRet, tRetN, tDrop, tTest, tB, tNot, tAnd, tOr, tChain, tOp, tUn, tCB, tCons, tNil, tC, tVar, tIf, tAndV, tOrV, tNotV, tAsg, tPar, tPar3, gName, gSub, gTupF, gCons, gNil, tTupF, tLstF, rI0, rI, rIxF, rIxG, rIxS, rSetF, rSlF, rCatF, rCatL, rTupL, rListT, rListL, rLenT, rLenL, iTupF, iLstF, rAppF, rExtF, rPopF, tBM, tBM0, tSl, tPart, rEq, rNe, tCall, L2.start,
  List.map_cons, List.map_nil, List.length_cons, List.length_nil, Nat.sub_self, List.replicate, List.append_nil, List.cons_append, List.nil_append, List.getElem?_cons_zero, List.getElem?_cons_succ, List.set_cons_zero, List.set_cons_succ,
  exSl, exI, exI2, exB, exS, exR, ex1, ex1', V.int.injEq, V.bl.injEq, V.ref.injEq, V.str.injEq, Option.some.injEq, List.cons.injEq, and_true, true_and, reduceCtorEq, false_and, and_false, or_false, false_or, exists_false, exists_and_left, exists_eq_left', decide_eq_true_eq, decide_true, decide_false, if_false, if_true, ite_true, ite_false, Bool.false_eq_true, Bool.not_true, Bool.not_false, Nat.reduceAdd, Nat.reduceSub, Nat.zero_add, atI_0, atI_1, atI_2, atI_3, ixN_0, ixN_1, ixN_2, cutV_1, cutV_2, Option.some.injEq, HO.lst.injEq, HO.dK.injEq, scal, *])
section
variable {P : Program} {w : World} {K : PySem.W.Frag} {mg : Str → Option Value} {base : Heap} {f c : Addr} {fd : FuncData} {NS : List Str}
abbrev s_holes : Stmt := top 2
abbrev n_holes : List Str := ["tree", "part", "name"]
theorem sc_holes : FnScope n_holes ["tree"] (defScope s_holes) := ⟨rfl, rfl, rfl, by decide +kernel, rfl, by decide +kernel, by decide +kernel⟩
def spHoles (K : PySem.W.Frag) (NS : List Str) (k : Nat) : Sp := fun vs H Q _ => ∃ (v : V) (t : Tr), vs = [v] ∧ Td K H v t.data ∧ t.dep ≤ k ∧ (∀ x ∈ t.names, x ∈ NS) ∧ ∀ (p : Addr) (ns : List Str) (H' : Hp), Ext [] H H' → tupF K H' p = some (ns.map V.str) → (∀ x, x ∈ ns ↔ x ∈ t.names) → Q (.ref p) H'
/-- the same, and they rise -/
def spHolesS (K : PySem.W.Frag) (NS : List Str) (k : Nat) : Sp := fun vs H Q _ => ∃ (v : V) (t : Tr), vs = [v] ∧ Td K H v t.data ∧ t.dep ≤ k ∧ (∀ x ∈ t.names, x ∈ NS) ∧ ∀ (p : Addr) (ns : List Str) (H' : Hp), Ext [] H H' → tupF K H' p = some (ns.map V.str) → (∀ x, x ∈ ns ↔ x ∈ t.names) → ns.Nodup → sortedS ns = true → Q (.ref p) H'
theorem Cal.imp {P : Program} {w : World} {K : PySem.W.Frag} {mg : Str → Option Value} {base : Heap} {k : Nat} {x : Str} {sp sp' : Sp} (h : ∀ vs H Q E, sp' vs H Q E → sp vs H Q E) (C : Cal P w K mg base k x sp) : Cal P w K mg base k x sp' := by
  obtain ⟨f, fd, ps, ds, F, r⟩ := C
  exact ⟨f, fd, ps, ds, F.imp h, r⟩
theorem ok_holesS (F : Dn K mg "holes" s_holes f fd c) (B : Bl mg) (hN : NsOk NS) : ∀ k, Cal P w K mg base k "holes" (spHolesS K NS k) := by
  refine F.calRec (ps := ["tree"]) (fun _ _ _ _ _ _ us hl => match us, hl with | [_], _ => rfl) (fun vs H Q E ⟨v, t, _, _, h, _⟩ => by have := t.dep_pos; omega) fun k G_holes => ?_
  refine F.ok sc_holes (fun vs H Q E h => ?_) (fun A outer s H vs Q E hr h => ?_)
  · obtain ⟨_, _, rfl, _⟩ := h; rfl
  obtain ⟨v, t, rfl, ht, hd, hns, q⟩ := h
  refine ⟨_, (pss_cons (ps_if (pt_cmpR op_eq (pe_ix (ix_tupK K) (pv 0) pe_int (fun _ _ => rfl)) pe_str (nomark _)) (pss_one (ps_ret (pe_tupK K (pa_cons (pe_ix (ix_tupK K) (pv 0) pe_int (fun _ _ => rfl)) pa_nil)))) pss_nil)
    (pss_one (ps_ret (pe_callTy (call_tupleK K) (by rfl) B.b_tuple (by decide +kernel) (pa_cons (pe_callB (call_sortedF rfl) (by rfl) B.b_sorted (by decide +kernel) (pa_cons (pe_dc2F (own := [("part", 1), ("name", 2)]) (vs1 := [2]) rfl sc_holes.nd (pi_tupK K (pe_slice (sl_tupK K) (pv 0) (po_some pe_int) po_none)) (blkOk_by (own := [("part", 1), ("name", 2)]) (N := n_holes) (sc := defScope s_holes) (by decide +kernel)) (by decide) (fun _ _ _ _ _ => (pg_name (i := 1) sc_holes.nd rfl (by first | exact Or.inl rfl | exact Or.inr rfl))) (fun _ _ _ _ _ => pts_nil) (fun _ _ _ _ _ => (pi_tupK K (C8.pe_c G_holes hr (by omega) (by rfl) (pa_cons (pv 1) pa_nil)))) (fun _ _ _ _ _ => (pg_name (i := 2) sc_holes.nd rfl (by first | exact Or.inl rfl | exact Or.inr rfl))) (fun _ _ _ _ _ => pts_nil) (fun _ _ _ _ _ => (pv 2)) (fun _ _ _ _ _ => pe_bl)) pa_nil)) pa_nil))))), ?_⟩
  cases hv : t.isV with
  | true =>
    cases t with
    | v x =>
      obtain ⟨p, rfl, hp⟩ := td_v ht
      have q' := q
      clear q
      walk_at "rdc"
      refine ⟨by decide, fun p2 H2 e2 h2 => q' p2 [x] H2 e2 h2 (fun y => by simp [Tr.names]) (by simp) rfl⟩
    | a => cases hv
    | b => cases hv
    | i s => cases hv
    | m s r => cases hv
  | false =>
    obtain ⟨p, ws, rfl, hp, hws⟩ := td_f hv ht
    have hne := Tr.hd_v hv
    have q' := q
    clear q ht
    walk_at "rdc"
    intro p1 H1 e1 h1
    refine dc2_go walk_tup (fun D i H' => ∃ ks, H' D = some (.dK (trueK ks)) ∧ ks.Nodup ∧ Ext [] H1 H' ∧ ∀ x, x ∈ ks ↔ ∃ j u, j < i ∧ t.args[j]? = some u ∧ x ∈ u.names) (fun D hD => ⟨[], upd_same, List.nodup_nil, Ext.new hD, fun x => by simp⟩)
      (fun D i H' ⟨ks, _, _, e, _⟩ => tupF_sq (tupF_ext e h1)) (fun D i x H' H'' hD hi ⟨ks, hk, nd, e, mem⟩ y => ?_) fun D H' hD ⟨ks, hk, nd, e, mem⟩ => ?_
    · obtain ⟨rfl, hx⟩ := y
      obtain ⟨u, hu, hum, hud⟩ := td_arg hws hx
      have hsub : ∀ y ∈ u.names, y ∈ NS := fun y hy => hns y (Tr.names_arg hum hy)
      walk_at "rd"
      refine ⟨x, u, rfl, (hud.ext e1).ext e, by have := Tr.dep_arg hum; omega, hsub, fun p2 ns H3 e3 h3 hns3 _ _ => ⟨p2, rfl, _, h3, ?_⟩⟩
      refine dc2_in walk_tup (fun j H' => ∃ ks, H' D = some (.dK (trueK ks)) ∧ ks.Nodup ∧ Ext [] H1 H' ∧ tupF K H' p2 = some (ns.map V.str) ∧ ∀ x, x ∈ ks ↔ (∃ j u, j < i ∧ t.args[j]? = some u ∧ x ∈ u.names) ∨ ∃ m, m < j ∧ ns[m]? = some x)
        ⟨ks, e3.dK0 hk, nd, e.trans e3, h3, fun x => by simp [mem]⟩ (fun j H' ⟨_, _, _, _, h, _⟩ => tupF_sq h) (fun j z H4 H5 hj ⟨ks, hk, nd, e, h, mem⟩ y => ?_) fun H4 ⟨ks, hk, nd, e, h, mem⟩ => ⟨ks, hk, nd, e, fun x => ?_⟩
      · obtain ⟨rfl, hz⟩ := y
        rw [List.getElem?_map] at hz
        cases hn : ns[j]? with
        | none => rw [hn] at hz; cases hz
        | some n =>
          rw [hn] at hz
          cases hz
          walk_at "rd"
          refine ⟨trueK ks, Sum.inr n, rfl, hk, ?_, addK ks n, by rw [put_true]; exact upd_same, nodup_addK nd, e.over hD (Ext.setD List.mem_cons_self hk), tupF_ext (Ext.setD (S := [D]) List.mem_cons_self hk) h, fun x => ?_⟩
          · have := nodup_sub nd (m := NS) fun x hx => (mem x).mp hx |>.elim (fun ⟨j, u, _, h1, h2⟩ => hns x (Tr.names_arg (List.mem_of_getElem? h1) h2)) fun ⟨m, _, h1⟩ => hsub x ((hns3 x).mp (List.mem_of_getElem? h1))
            have := hN.few
            have q : (trueK ks).length = ks.length := by unfold trueK; rw [List.length_map]
            have : (64 : Nat) < sizeLine := by decide
            omega
          · rw [mem_addK, mem]
            constructor
            · rintro ((⟨j0, u0, a1, a2, a3⟩ | ⟨m, h1, h2⟩) | h)
              · exact .inl ⟨j0, a1, u0, a2, a3⟩
              · exact .inr ⟨m, by omega, h2⟩
              · subst h; exact .inr ⟨j, by omega, hn⟩
            · rintro (⟨j0, a1, u0, a2, a3⟩ | ⟨m, h1, h2⟩)
              · exact .inl (.inl ⟨j0, u0, a1, a2, a3⟩)
              · by_cases q : m = j
                · subst q; rw [hn] at h2; exact .inr (Option.some.inj h2).symm
                · exact .inl (.inr ⟨m, by omega, h2⟩)
      · rw [mem]
        constructor
        · rintro (⟨j, u, h1, h2, h3⟩ | ⟨m, h1, h2⟩)
          · exact ⟨j, by omega, u, h2, h3⟩
          · exact ⟨i, by omega, u, hu, (hns3 x).mp (List.mem_of_getElem? h2)⟩
        · rintro ⟨j, h1, u', h2, h3⟩
          by_cases q : j = i
          · subst q
            rw [hu] at h2
            cases h2
            obtain ⟨m, hm, h4⟩ := List.mem_iff_getElem.mp ((hns3 x).mpr h3)
            exact .inr ⟨m, by rw [List.length_map]; exact hm, by rw [List.getElem?_eq_getElem hm, h4]⟩
          · exact .inl ⟨j, u', by omega, h2, h3⟩
    · refine ⟨D, rfl, trueK ks, dctF_dK hk, ks, trueK_keys ks, ?_, fun ys p2 H2 pm sr hp2 e2 h2 p3 H3 e3 h3 => q' p3 ys H3 (((e1.trans e).trans e2).trans e3) h3 (fun x => ?_) (pm.nodup_iff.mpr nd) sr⟩
      · have := nodup_sub nd (m := NS) fun x hx => let ⟨j, u, _, h1, h2⟩ := (mem x).mp hx; hns x (Tr.names_arg (List.mem_of_getElem? h1) h2)
        have := hN.few
        omega
      · rw [pm.mem_iff, mem, Tr.names_args hv]
        constructor
        · rintro ⟨j, u, _, h1, h2⟩
          exact ⟨u, List.mem_of_getElem? h1, h2⟩
        · rintro ⟨u, h1, h2⟩
          obtain ⟨m, hm, h4⟩ := List.mem_iff_getElem.mp h1
          exact ⟨m, u, by have := hws.length; rw [List.length_map] at this; omega, by rw [List.getElem?_eq_getElem hm, h4], h2⟩
theorem ok_holes (F : Dn K mg "holes" s_holes f fd c) (B : Bl mg) (hN : NsOk NS) (k : Nat) : Cal P w K mg base k "holes" (spHoles K NS k) :=
  Cal.imp (fun vs H Q E ⟨v, t, e, h1, h2, h3, q⟩ => ⟨v, t, e, h1, h2, h3, fun p ns H' e' h4 h5 _ _ => q p ns H' e' h4 h5⟩) (ok_holesS F B hN k)
end
end Sq
set_option Elab.async false
set_option linter.all false
set_option maxRecDepth 100000
set_option maxHeartbeats 2000000
namespace Sq
open PySem PySem.Spec PyProof.Rows L2 RZ
local macro_rules | `(tactic| walk_at "rd") => `(tactic| simp only [tCont, tDisp, tPairs, rIndexS, wipe, tNoPart, tDG2, tDGF, tDInF, tDNInF, sDPutF, tDNewF, rSortD, rInS, rInT, rEqLF, tDcF, tDc2F, tLcF, tForF, tAllF, tAnyF, tSumF, iEnumF, iZipF, iKeysF, iItems, tLZip, tYes, tSeq, tIfS, tNext, tRet, tRetN, tDrop, tTest, tB, tNot, tAnd, tOr, tChain, tOp, tUn, tCB, tCons, tNil, tC, tVar, tIf, tAndV, tOrV, tNotV, tAsg, tPar, tPar3, gName, gSub, gTupF, gCons, gNil, tTupF, tLstF, rI0, rI, rIxF, rIxG, rIxS, rSetF, rSlF, rCatF, rCatL, rTupL, rListT, rListL, rLenT, rLenL, iTupF, iLstF, rAppF, rExtF, rPopF, tBM, tBM0, tSl, tPart, rEq, rNe, tCall, L2.start,
  List.map_cons, List.map_nil, List.length_cons, List.length_nil, Nat.sub_self, List.replicate, List.append_nil, List.cons_append, List.nil_append, List.getElem?_cons_zero, List.getElem?_cons_succ, List.set_cons_zero, List.set_cons_succ,
  exSl, exI, exI2, exB, exS, exR, ex1, ex1', V.int.injEq, V.bl.injEq, V.ref.injEq, V.str.injEq, Option.some.injEq, List.cons.injEq, and_true, true_and, reduceCtorEq, false_and, and_false, or_false, false_or, exists_false, exists_and_left, exists_eq_left', decide_eq_true_eq, decide_true, decide_false, if_false, if_true, ite_true, ite_false, Bool.false_eq_true, Bool.not_true, Bool.not_false, Nat.reduceAdd, Nat.reduceSub, Nat.zero_add, atI_0, atI_1, atI_2, atI_3, ixN_0, ixN_1, ixN_2, cutV_1, cutV_2, Option.some.injEq, HO.lst.injEq, HO.dK.injEq, scal])
local macro_rules | `(tactic| walk_at "rdc") => `(tactic| simp (config := { contextual := true }) only [tCont, tDisp, tPairs, rIndexS, wipe, tNoPart, tDG2, tDGF, tDInF, tDNInF, sDPutF, tDNewF, rSortD, rInS, rInT, rEqLF, tDcF, tDc2F, tLcF, tForF, tAllF, tAnyF, tSumF, iEnumF, iZipF, iKeysF, iItems, tLZip, tYes, tSeq, tIfS, tNext, tRet, tRetN, tDrop, tTest, tB, tNot, tAnd, tOr, tChain, tOp, tUn, tCB, tCons, tNil, tC, tVar, tIf, tAndV, tOrV, tNotV, tAsg, tPar, tPar3, gName, gSub, gTupF, gCons, gNil, tTupF, tLstF, rI0, rI, rIxF, rIxG, rIxS, rSetF, rSlF, rCatF, rCatL, rTupL, rListT, rListL, rLenT, rLenL, iTupF, iLstF, rAppF, rExtF, rPopF, tBM, tBM0, tSl, tPart, rEq, rNe, tCall, L2.start,
  List.map_cons, List.map_nil, List.length_cons, List.length_nil, Nat.sub_self, List.replicate, List.append_nil, List.cons_append, List.nil_append, List.getElem?_cons_zero, List.getElem?_cons_succ, List.set_cons_zero, List.set_cons_succ,
  exSl, exI, exI2, exB, exS, exR, ex1, ex1', V.int.injEq, V.bl.injEq, V.ref.injEq, V.str.injEq, Option.some.injEq, List.cons.injEq, and_true, true_and, reduceCtorEq, false_and, and_false, or_false, false_or, exists_false, exists_and_left, exists_eq_left', decide_eq_true_eq, decide_true, decide_false, if_false, if_true, ite_true, ite_false, Bool.false_eq_true, Bool.not_true, Bool.not_false, Nat.reduceAdd, Nat.reduceSub, Nat.zero_add, atI_0, atI_1, atI_2, atI_3, ixN_0, ixN_1, ixN_2, cutV_1, cutV_2, Option.some.injEq, HO.lst.injEq, HO.dK.injEq, scal, *])
/-! ### tables: names and their trees -/
def lk : List (Str × Tr) → Str → Option Tr
  | [], _ => none
  | (m, t) :: l, n => if m = n then some t else lk l n
def putL (l : List (Str × Tr)) (n : Str) (t : Tr) : List (Str × Tr) := if (lk l n).isSome then l.map (fun p => if p.1 = n then (p.1, t) else p) else l ++ [(n, t)]
inductive TabK (K : PySem.W.Frag) (H : Hp) : List (Key × V) → List (Str × Tr) → Prop
  | nil : TabK K H [] []
  | cons {n : Str} {v : V} {t : Tr} {kvs : List (Key × V)} {l : List (Str × Tr)} : Td K H v t.data → TabK K H kvs l → TabK K H ((Sum.inr n, v) :: kvs) ((n, t) :: l)
theorem TabK.ext {K : PySem.W.Frag} {S : List Addr} {H H' : Hp} (e : Ext S H H') : ∀ {kvs : List (Key × V)} {l : List (Str × Tr)}, TabK K H kvs l → TabK K H' kvs l
  | _, _, .nil => .nil
  | _, _, .cons h r => .cons (h.ext e) (r.ext e)
theorem TabK.length {K : PySem.W.Frag} {H : Hp} : ∀ {kvs : List (Key × V)} {l : List (Str × Tr)}, TabK K H kvs l → kvs.length = l.length
  | _, _, .nil => rfl
  | _, _, .cons _ r => congrArg Nat.succ r.length
theorem TabK.val {K : PySem.W.Frag} {H : Hp} (n : Str) : ∀ {kvs : List (Key × V)} {l : List (Str × Tr)}, TabK K H kvs l → (lk l n = none ∧ valV kvs (.inr n) = none) ∨ ∃ t v, lk l n = some t ∧ valV kvs (.inr n) = some v ∧ Td K H v t.data
  | _, _, .nil => .inl ⟨rfl, rfl⟩
  | _, _, .cons (n := m) (v := v) (t := t) h r => by
    by_cases e : m = n
    · exact .inr ⟨t, v, by simp [lk, e], by rw [valV_pos (by rw [e])], h⟩
    · rw [valV_neg (fun z => e (Sum.inr.inj z))]
      simp only [lk, if_neg e]
      exact r.val n
theorem TabK.get {K : PySem.W.Frag} {H : Hp} : ∀ {kvs : List (Key × V)} {l : List (Str × Tr)} {j : Nat} {k : Key} {v : V}, TabK K H kvs l → kvs[j]? = some (k, v) → ∃ n t, k = .inr n ∧ l[j]? = some (n, t) ∧ Td K H v t.data
  | _, _, 0, _, _, .cons h _, e => by cases e; exact ⟨_, _, rfl, rfl, h⟩
  | _, _, _ + 1, _, _, .cons _ r, e => r.get (by simpa using e)
theorem TabK.snoc {K : PySem.W.Frag} {H : Hp} {n : Str} {v : V} {t : Tr} (h : Td K H v t.data) : ∀ {kvs : List (Key × V)} {l : List (Str × Tr)}, TabK K H kvs l → TabK K H (kvs ++ [(.inr n, v)]) (l ++ [(n, t)])
  | _, _, .nil => .cons h .nil
  | _, _, .cons h' r => .cons h' (r.snoc h)
theorem TabK.over {K : PySem.W.Frag} {H : Hp} {n : Str} {v : V} {t : Tr} (h : Td K H v t.data) : ∀ {kvs : List (Key × V)} {l : List (Str × Tr)}, TabK K H kvs l → TabK K H (kvs.map fun kv => if kv.1 = Sum.inr n then (kv.1, v) else kv) (l.map fun p => if p.1 = n then (p.1, t) else p)
  | _, _, .nil => .nil
  | _, _, .cons (n := m) h' r => by
    rw [List.map_cons, List.map_cons]
    by_cases e : m = n
    · simp only [e, if_true]
      exact .cons h (r.over h)
    · simp only [if_neg e, if_neg (fun z => e (Sum.inr.inj z) : ¬ (Sum.inr m : Key) = Sum.inr n)]
      exact .cons h' (r.over h)
theorem TabK.put {K : PySem.W.Frag} {H : Hp} {n : Str} {v : V} {t : Tr} {kvs : List (Key × V)} {l : List (Str × Tr)} (r : TabK K H kvs l) (h : Td K H v t.data) : TabK K H (putK kvs (.inr n) v) (putL l n t) := by
  unfold putK putL
  rw [valV_any]
  rcases r.val n with ⟨h1, h2⟩ | ⟨t', v', h1, h2, _⟩
  · rw [h1, h2]
    exact r.snoc h
  · rw [h1, h2]
    exact r.over h
namespace Tr
/-- trees put in names' places -/
def fill (s : Str → Option Tr) : Tr → Tr
  | v x => (s x).getD (v x)
  | a => a
  | b => b
  | i t => i (t.fill s)
  | m t u => m (t.fill s) (u.fill s)
theorem fill_nv {s : Str → Option Tr} {t : Tr} (h : t.isV = false) : (t.fill s).isV = false ∧ (t.fill s).hd = t.hd ∧ (t.fill s).args = t.args.map (fill s) := by
  cases t with
  | v x => cases h
  | a => exact ⟨rfl, rfl, rfl⟩
  | b => exact ⟨rfl, rfl, rfl⟩
  | i t => exact ⟨rfl, rfl, rfl⟩
  | m t u => exact ⟨rfl, rfl, rfl⟩
end Tr
/-- a table's dict -/
def TabA (K : PySem.W.Frag) (H : Hp) (a : Addr) (l : List (Str × Tr)) : Prop := ∃ kvs, dctF H a = some kvs ∧ TabK K H kvs l
theorem TabA.ext {K : PySem.W.Frag} {S : List Addr} {H H' : Hp} {a : Addr} {l : List (Str × Tr)} (e : Ext S H H') (n : a ∉ S) : TabA K H a l → TabA K H' a l := fun ⟨kvs, h, r⟩ => ⟨kvs, dctF_ext e n h, r.ext e⟩
theorem TabA.ext0 {K : PySem.W.Frag} {H H' : Hp} {a : Addr} {l : List (Str × Tr)} (e : Ext [] H H') : TabA K H a l → TabA K H' a l := TabA.ext e (fun z => nomatch z)
section
variable {P : Program} {w : World} {K : PySem.W.Frag} {mg : Str → Option Value} {base : Heap} {f c : Addr} {fd : FuncData} {NS : List Str}
abbrev s_filled : Stmt := top 3
abbrev n_filled : List Str := ["tree", "table", "part"]
theorem sc_filled : FnScope n_filled ["tree", "table"] (defScope s_filled) := ⟨rfl, rfl, rfl, by decide +kernel, rfl, by decide +kernel, by decide +kernel⟩
def spFill (K : PySem.W.Frag) (k : Nat) : Sp := fun vs H Q _ => ∃ (v : V) (t : Tr) (a : Addr) (l : List (Str × Tr)), vs = [v, .ref a] ∧ Td K H v t.data ∧ t.dep ≤ k ∧ TabA K H a l ∧ ∀ (v' : V) (H' : Hp), Ext [] H H' → Td K H' v' (t.fill (lk l)).data → Q v' H'
theorem ok_filled (F : Dn K mg "filled" s_filled f fd c) (B : Bl mg) : ∀ k, Cal P w K mg base k "filled" (spFill K k) := by
  refine F.calRec (ps := ["tree", "table"]) (fun _ _ _ _ _ _ us hl => match us, hl with | [_, _], _ => rfl) (fun vs H Q E ⟨v, t, _, _, _, _, h, _⟩ => by have := t.dep_pos; omega) fun k G_filled => ?_
  refine F.ok sc_filled (fun vs H Q E h => ?_) (fun A outer s H vs Q E hr h => ?_)
  · obtain ⟨_, _, _, _, rfl, _⟩ := h; rfl
  obtain ⟨v, t, a, l, rfl, ht, hd, hl, q⟩ := h
  refine ⟨_, (pss_cons (ps_if (pt_cmpR op_eq (pe_ix (ix_tupK K) (pv 0) pe_int (fun _ _ => rfl)) pe_str (nomark _)) (pss_one (ps_ret (pe_dget2F (hu_of hr) (pv 1) (pe_ix (ix_tupK K) (pv 0) pe_int (fun _ _ => rfl)) (pv 0) ⟨rfl, rfl, rfl, rfl⟩))) pss_nil)
    (pss_one (ps_ret (pe_op (op_catK K) (pe_tupK K (pa_cons (pe_ix (ix_tupK K) (pv 0) pe_int (fun _ _ => rfl)) pa_nil)) (pe_callTy (call_tupleK K) (by rfl) B.b_tuple (by decide +kernel) (pa_cons (pe_lcF (own := [("part", 2)]) rfl sc_filled.nd (pi_tupK K (pe_slice (sl_tupK K) (pv 0) (po_some pe_int) po_none)) (blkOk_by (own := [("part", 2)]) (N := n_filled) (sc := defScope s_filled) (by decide +kernel)) (fun _ _ _ _ _ => (pg_name (i := 2) sc_filled.nd rfl (by first | exact Or.inl rfl | exact Or.inr rfl))) (fun _ _ _ _ _ => pts_nil) (fun _ _ _ _ _ => (C8.pe_c G_filled hr (by omega) (by rfl) (pa_cons (pv 2) (pa_cons (pv 1) pa_nil))))) pa_nil)))))), ?_⟩
  cases hv : t.isV with
  | true =>
    cases t with
    | v x =>
      have ht0 := ht
      obtain ⟨p, rfl, hp⟩ := td_v ht
      obtain ⟨kvs, hk, hr'⟩ := hl
      have q' := q
      clear q
      walk_at "rdc"
      rcases hr'.val x with ⟨h1, h2⟩ | ⟨t', v', h1, h2, h3⟩
      · rw [h2]
        exact q' _ _ (Ext.refl _ _) (by rw [Tr.fill, h1]; exact ht0)
      · rw [h2]
        exact q' _ _ (Ext.refl _ _) (by rw [Tr.fill, h1]; exact h3)
    | a => cases hv
    | b => cases hv
    | i s => cases hv
    | m s r => cases hv
  | false =>
    obtain ⟨p, ws, rfl, hp, hws⟩ := td_f hv ht
    have hne := Tr.hd_v hv
    have q' := q
    clear q ht
    walk_at "rdc"
    have hlen : ws.length = t.args.length := by have := hws.length; rw [List.length_map] at this; exact this
    have ha2 := t.args_len
    have hs1 : (100000 : Nat) < sizeLine := by decide
    obtain ⟨n1, n2, n3⟩ := Tr.fill_nv (s := lk l) hv
    refine ⟨by decide, fun p1 H1 e1 h1 => ⟨_, tupF_ext e1 hp, fun p2 H2 e2 h2 => ?_⟩⟩
    rw [cutV_1] at h2
    have e12 := e1.trans e2
    refine lc_map (ds := t.args.map fun u => (u.fill (lk l)).data) h2 (by rw [List.length_map]; exact hlen.symm) (by omega) (fun x => rfl) (fun j x d H' R hx hdj e hR => ?_) fun D ys H' hD e hys hall => ?_
    · obtain ⟨u, hu, hum, hud⟩ := td_arg hws hx
      rw [List.getElem?_map, hu] at hdj
      cases hdj
      walk_at "rd"
      exact ⟨x, u, a, l, rfl, (hud.ext e12).ext e, by have := Tr.dep_arg hum; omega, (hl.ext0 e12).ext0 e, fun v' H'' e' h' => hR v' H'' e' h'⟩
    · refine ⟨D, rfl, ys, hys, fun q H3 e3 h3 => ⟨_, tupF_ext e3 (tupF_ext e (tupF_ext e2 h1)), ?_, fun p4 H4 e4 h4 => q' _ H4 (((e12.trans e).trans e3).trans e4) ?_⟩⟩
      · have := hall.length
        rw [List.length_map] at this
        simp only [List.length_cons, List.length_nil]
        omega
      · refine td_mk n1 (by rw [n2]; exact h4) ?_
        rw [n3, List.map_map]
        exact (hall.ext e3).ext e4
end
end Sq
set_option Elab.async false
set_option linter.all false
set_option maxRecDepth 100000
set_option maxHeartbeats 4000000
namespace Sq
open PySem PySem.Spec PyProof.Rows L2 RZ
local macro_rules | `(tactic| walk_at "rd") => `(tactic| simp only [tCont, tDisp, tPairs, rIndexS, wipe, tNoPart, tDG2, tDGF, tDInF, tDNInF, sDPutF, tDNewF, rSortD, rInS, rInT, rEqLF, tDcF, tDc2F, tLcF, tForF, tAllF, tAnyF, tSumF, iStr, iEnumF, iZipF, iKeysF, iItems, tLZip, tYes, tSeq, tIfS, tNext, tRet, tRetN, tDrop, tTest, tB, tNot, tAnd, tOr, tChain, tOp, tUn, tCB, tCons, tNil, tC, tVar, tIf, tAndV, tOrV, tNotV, tAsg, tPar, tPar3, gName, gSub, gTupF, gCons, gNil, tTupF, tLstF, rI0, rI, rIxF, rIxG, rIxS, rSetF, rSlF, rCatF, rCatL, rTupL, rListT, rListL, rLenT, rLenL, iTupF, iLstF, rAppF, rExtF, rPopF, tBM, tBM0, tSl, tPart, rEq, rNe, tCall, L2.start,
  List.map_cons, List.map_nil, List.length_cons, List.length_nil, Nat.sub_self, List.replicate, List.append_nil, List.cons_append, List.nil_append, List.getElem?_cons_zero, List.getElem?_cons_succ, List.set_cons_zero, List.set_cons_succ,
  exSl, exI, exI2, exB, exS, exR, ex1, ex1', V.int.injEq, V.bl.injEq, V.ref.injEq, V.str.injEq, Option.some.injEq, List.cons.injEq, and_true, true_and, reduceCtorEq, false_and, and_false, or_false, false_or, exists_false, exists_and_left, exists_eq_left', decide_eq_true_eq, decide_true, decide_false, if_false, if_true, ite_true, ite_false, Bool.false_eq_true, Bool.not_true, Bool.not_false, Nat.reduceAdd, Nat.reduceSub, Nat.zero_add, atI_0, atI_1, atI_2, atI_3, ixN_0, ixN_1, ixN_2, cutV_1, cutV_2, Option.some.injEq, HO.lst.injEq, HO.dK.injEq, scal])
local macro_rules | `(tactic| walk_at "rdc") => `(tactic| simp (config := { contextual := true }) only [tCont, tDisp, tPairs, rIndexS, wipe, tNoPart, tDG2, tDGF, tDInF, tDNInF, sDPutF, tDNewF, rSortD, rInS, rInT, rEqLF, tDcF, tDc2F, tLcF, tForF, tAllF, tAnyF, tSumF, iStr, iEnumF, iZipF, iKeysF, iItems, tLZip, tYes, tSeq, tIfS, tNext, tRet, tRetN, tDrop, tTest, tB, tNot, tAnd, tOr, tChain, tOp, tUn, tCB, tCons, tNil, tC, tVar, tIf, tAndV, tOrV, tNotV, tAsg, tPar, tPar3, gName, gSub, gTupF, gCons, gNil, tTupF, tLstF, rI0, rI, rIxF, rIxG, rIxS, rSetF, rSlF, rCatF, rCatL, rTupL, rListT, rListL, rLenT, rLenL, iTupF, iLstF, rAppF, rExtF, rPopF, tBM, tBM0, tSl, tPart, rEq, rNe, tCall, L2.start,
  List.map_cons, List.map_nil, List.length_cons, List.length_nil, Nat.sub_self, List.replicate, List.append_nil, List.cons_append, List.nil_append, List.getElem?_cons_zero, List.getElem?_cons_succ, List.set_cons_zero, List.set_cons_succ,
  exSl, exI, exI2, exB, exS, exR, ex1, ex1', V.int.injEq, V.bl.injEq, V.ref.injEq, V.str.injEq, Option.some.injEq, List.cons.injEq, and_true, true_and, reduceCtorEq, false_and, and_false, or_false, false_or, exists_false, exists_and_left, exists_eq_left', decide_eq_true_eq, decide_true, decide_false, if_false, if_true, ite_true, ite_false, Bool.false_eq_true, Bool.not_true, Bool.not_false, Nat.reduceAdd, Nat.reduceSub, Nat.zero_add, atI_0, atI_1, atI_2, atI_3, ixN_0, ixN_1, ixN_2, cutV_1, cutV_2, Option.some.injEq, HO.lst.injEq, HO.dK.injEq, scal, *])
section
variable {P : Program} {w : World} {K : PySem.W.Frag} {mg : Str → Option Value} {base : Heap} {f c tb tw : Addr} {fd : FuncData} {NS : List Str}
abbrev s__law_tree : Stmt := top 12
abbrev n__law_tree : List Str := ["dice", "deep", "names", "kind"]
theorem sc__law_tree : FnScope n__law_tree ["dice", "deep", "names"] (defScope s__law_tree) := ⟨rfl, rfl, rfl, by decide +kernel, rfl, by decide +kernel, by decide +kernel⟩

def spLT (K : PySem.W.Frag) (k : Nat) : Sp := fun vs H Q _ => ∃ (a : Addr) (d : Nat) (nm : Str), vs = [.ref a, .int (d : Nat), .str nm] ∧ d + 1 < k ∧ (nm = "xy" ∨ nm = "") ∧ DiceAt H a ∧
  ∀ (v' : V) (t : Tr) (H' : Hp), Ext [a] H H' → DiceAt H' a → Td K H' v' t.data → t.dep ≤ d + 1 → (∀ x ∈ t.names, nm = "xy" ∧ (x = "x" ∨ x = "y")) → Q v' H'
theorem ok_tree (F : Dn K mg "_law_tree" s__law_tree f fd c) (B : Bl mg) (G__law_roll : Cal P w K mg base 1 "_law_roll" spRoll) : ∀ k, Cal P w K mg base k "_law_tree" (spLT K k) := by
  refine F.calRec (ps := ["dice", "deep", "names"]) (fun _ _ _ _ _ _ us hl => match us, hl with | [_, _, _], _ => rfl) (fun vs H Q E ⟨_, _, _, _, h, _⟩ => by omega) fun k G__law_tree => ?_
  refine F.ok sc__law_tree (fun vs H Q E h => ?_) (fun A outer s H vs Q E hr h => ?_)
  · obtain ⟨_, _, _, rfl, _⟩ := h; rfl
  obtain ⟨a, d, nm, rfl, hk, hnm, hdi, q⟩ := h
  refine ⟨_, (pss_cons (ps_set (i := 3) sc__law_tree.nd rfl (by first | exact Or.inl rfl | exact Or.inr rfl) (C8.pe_c G__law_roll hr (by omega) (by rfl) (pa_cons (pv 0) (pa_cons pe_int pa_nil))))
    (pss_cons (ps_if (PW.pt (pw_or (pt_cmpR op_eq (pv 1) pe_int (nomark _)) (pw_or1 (pt_cmpR op_lt (pv 3) pe_int (nomark _))))) (pss_one (ps_ret (pe_ifExp (PW.pt (pw_or (pt_cmpR op_eq (pv 2) pe_str (nomark _)) (pw_or1 (pt_cmpR op_eq (C8.pe_c G__law_roll hr (by omega) (by rfl) (pa_cons (pv 0) (pa_cons pe_int pa_nil))) pe_int (nomark _))))) (pe_ix ix_lstF (pe_lstF (pa_cons (pe_tupK K (pa_cons pe_str pa_nil)) (pa_cons (pe_tupK K (pa_cons pe_str pa_nil)) pa_nil))) (C8.pe_c G__law_roll hr (by omega) (by rfl) (pa_cons (pv 0) (pa_cons pe_int pa_nil))) (fun _ _ => rfl)) (pe_tupK K (pa_cons pe_str (pa_cons (pe_ix ix_str (pv 2) (C8.pe_c G__law_roll hr (by omega) (by rfl) (pa_cons (pv 0) (pa_cons (pe_callB call_len_str (by rfl) B.b_len (by decide +kernel) (pa_cons (pv 2) pa_nil)) pa_nil))) (fun _ _ => rfl)) pa_nil)))))) pss_nil)
    (pss_cons (ps_if (pt_cmpR op_eq (pv 3) pe_int (nomark _)) (pss_one (ps_ret (pe_tupK K (pa_cons pe_str (pa_cons (C8.pe_c G__law_tree hr (by omega) (by rfl) (pa_cons (pv 0) (pa_cons (pe_op op_sub (pv 1) pe_int) (pa_cons (pv 2) pa_nil)))) pa_nil))))) pss_nil)
    (pss_one (ps_ret (pe_tupK K (pa_cons pe_str (pa_cons (C8.pe_c G__law_tree hr (by omega) (by rfl) (pa_cons (pv 0) (pa_cons (pe_op op_sub (pv 1) pe_int) (pa_cons (pv 2) pa_nil)))) (pa_cons (C8.pe_c G__law_tree hr (by omega) (by rfl) (pa_cons (pv 0) (pa_cons (pe_op op_sub (pv 1) pe_int) (pa_cons (pv 2) pa_nil)))) pa_nil))))))))), ?_⟩
  have dext : ∀ {H1 H2 : Hp}, DiceAt H1 a → Ext [] H1 H2 → DiceAt H2 a := fun ⟨x, y, z, h⟩ e => ⟨x, y, z, e.lst0 h⟩
  have pick : ∀ (H1 : Hp), Ext [a] H H1 → DiceAt H1 a → (1 ≤ sizeLine ∧ ∀ (p : Addr) (H2 : Hp), Ext [] H1 H2 → tupF K H2 p = some [V.str (Str.ofString "a")] → 1 ≤ sizeLine ∧ ∀ (p_1 : Addr) (H2_1 : Hp), Ext [] H2 H2_1 → tupF K H2_1 p_1 = some [V.str (Str.ofString "b")] →
      2 ≤ sizeLine ∧ ∀ (p_2 : Addr) (H2 : Hp), H2_1 p_2 = none → Ext [] H2_1 H2 → H2 p_2 = some (HO.lst [V.ref p, V.ref p_1]) → spRoll [V.ref a, V.int 2] H2 (fun y H2 => ∃ x x_1, y = V.int x_1 ∧ H2 p_2 = some (HO.lst x) ∧ ∃ x_2, atI x x_1 = some x_2 ∧ Q x_2 H2) C8.E0) := fun H1 e1 hd1 => by
    refine ⟨by decide, fun p1 H2 e2 h2 => ⟨by decide, fun p2 H3 e3 h3 => ⟨by decide, fun p3 H4 n4 e4 h4 => ⟨a, 2, rfl, dext (dext (dext hd1 e2) e3) e4, by decide, by decide, fun r2 H5 r20 r21 e5 hd5 => ⟨_, r2, rfl, e5.lst h4 ?_, ?_⟩⟩⟩⟩⟩
    · intro hm
      have : p3 = a := by simpa using hm
      obtain ⟨x, y, z, hx⟩ := dext (dext hd1 e2) e3
      rw [this, hx] at n4
      cases n4
    · have eAll : Ext [a] H H5 := ((e1.trans (e2.trans (e3.trans e4)).any)).trans e5
      by_cases h0 : r2 = 0
      · subst h0
        exact ⟨_, atI_0, q _ .a _ eAll hd5 (.tup (tupF_ext e5 (tupF_ext (e3.trans e4) h2)) (.cons (.str _) .nil)) (Nat.le_add_left _ _) (fun x hx => by cases hx)⟩
      · have h1 : r2 = 1 := by omega
        subst h1
        exact ⟨_, atI_1, q _ .b _ eAll hd5 (.tup (tupF_ext e5 (tupF_ext e4 h3)) (.cons (.str _) .nil)) (Nat.le_add_left _ _) (fun x hx => by cases hx)⟩
  have letter : ∀ (H1 : Hp), Ext [a] H H1 → DiceAt H1 a → nm = "xy" → (nm.length ≤ sizeLine ∧ spRoll [V.ref a, V.int ↑nm.length] H1 (fun y H2 => ∃ x, y = V.int x ∧ nm.length ≤ sizeLine ∧ ∃ x_1, atI nm.cps.toList x = some x_1 ∧ 2 ≤ sizeLine ∧
      ∀ (p : Addr) (H2_1 : Hp), Ext [] H2 H2_1 → tupF K H2_1 p = some [V.str (Str.ofString "v"), V.str { cps := #[x_1] }] → Q (V.ref p) H2_1) C8.E0) := fun H1 e1 hd1 hxy => by
    subst hxy
    have hl : Str.length "xy" = 2 := by decide
    rw [hl]
    refine ⟨by decide, a, 2, rfl, hd1, by decide, by decide, fun r2 H5 r20 r21 e5 hd5 => ⟨r2, rfl, by decide, ?_⟩⟩
    by_cases h0 : r2 = 0
    · subst h0
      exact ⟨_, (by rfl : atI (Str.cps "xy").toList 0 = some 120), by decide, fun p H6 e6 h6 => q _ (.v "x") _ ((e1.trans e5).trans e6.any) (dext hd5 e6) (.tup h6 (.cons (.str _) (.cons (.str _) .nil))) (Nat.le_add_left _ _) (fun x hx => ⟨rfl, .inl (by simpa [Tr.names] using hx)⟩)⟩
    · have h1 : r2 = 1 := by omega
      subst h1
      exact ⟨_, (by rfl : atI (Str.cps "xy").toList 1 = some 121), by decide, fun p H6 e6 h6 => q _ (.v "y") _ ((e1.trans e5).trans e6.any) (dext hd5 e6) (.tup h6 (.cons (.str _) (.cons (.str _) .nil))) (Nat.le_add_left _ _) (fun x hx => ⟨rfl, .inr (by simpa [Tr.names] using hx)⟩)⟩
  walk_at "rd"
  refine ⟨a, 6, rfl, hdi, by decide, by decide, fun r H1 r0 r1 e1 hd1 => ?_⟩
  dsimp only
  by_cases h0 : (d : Int) = 0
  · rw [if_pos h0]
    · by_cases hn : nm = ""
      · rw [if_pos hn]
        exact pick H1 e1 hd1
      · rw [if_neg hn]
        have hxy : nm = "xy" := hnm.resolve_right hn
        refine ⟨a, 2, rfl, hd1, by decide, by decide, fun r2 H2 r20 r21 e2 hd2 => ⟨rfl, ?_⟩⟩
        by_cases hr2 : r2 = 0
        · rw [if_pos (by rw [hr2])]
          exact pick H2 (e1.trans e2) hd2
        · rw [if_neg (fun z => hr2 (V.int.inj z))]
          exact letter H2 (e1.trans e2) hd2 hxy
  · rw [if_neg h0]
    refine ⟨r, rfl, ?_⟩
    by_cases h2 : r < 2
    · rw [if_pos h2]
      by_cases hn : nm = ""
      · rw [if_pos hn]
        exact pick H1 e1 hd1
      · rw [if_neg hn]
        have hxy : nm = "xy" := hnm.resolve_right hn
        refine ⟨a, 2, rfl, hd1, by decide, by decide, fun r2 H2 r20 r21 e2 hd2 => ⟨rfl, ?_⟩⟩
        by_cases hr2 : r2 = 0
        · rw [if_pos (by rw [hr2])]
          exact pick H2 (e1.trans e2) hd2
        · rw [if_neg (fun z => hr2 (V.int.inj z))]
          exact letter H2 (e1.trans e2) hd2 hxy
    · rw [if_neg h2]
      refine ⟨rfl, ?_⟩
      obtain ⟨d', rfl⟩ : ∃ d', d = d' + 1 := ⟨d - 1, by omega⟩
      have ed : (((d' + 1 : Nat) : Int) - 1) = (d' : Nat) := by omega
      rw [ed]
      by_cases h3 : V.int r = V.int 2
      · rw [if_pos h3]
        refine ⟨a, d', nm, rfl, by omega, hnm, hd1, fun v' t H2 e2 hd2 ht htd hns => ⟨by decide, fun p H3 e3 h3 => q _ (.i t) _ ((e1.trans e2).trans e3.any) (dext hd2 e3) (.tup h3 (.cons (.str _) (.cons (ht.ext e3) .nil))) (by simp only [Tr.dep]; omega) hns⟩⟩
      · rw [if_neg h3]
        refine ⟨a, d', nm, rfl, by omega, hnm, hd1, fun v1 t1 H2 e2 hd2 ht1 htd1 hns1 => ⟨a, d', nm, rfl, by omega, hnm, hd2, fun v2 t2 H3 e3 hd3 ht2 htd2 hns2 => ⟨by decide, fun p H4 e4 h4 => q _ (.m t1 t2) _ (((e1.trans e2).trans e3).trans e4.any) (dext hd3 e4) (.tup h4 (.cons (.str _) (.cons ((ht1.ext e3).ext e4) (.cons (ht2.ext e4) .nil)))) (by simp only [Tr.dep]; omega) fun x hx => ?_⟩⟩⟩
        rcases List.mem_append.mp hx with z | z
        · exact hns1 x z
        · exact hns2 x z
end
end Sq
set_option Elab.async false
set_option linter.all false
set_option maxRecDepth 100000
set_option maxHeartbeats 2000000
namespace Sq
open PySem PySem.Spec PyProof.Rows L2
theorem Tr.fill_congr {s s' : Str → Option Tr} : ∀ {t : Tr}, (∀ x ∈ t.names, (s x).getD (.v x) = (s' x).getD (.v x)) → t.fill s = t.fill s'
  | v x, h => h x (by simp [names])
  | a, _ => rfl
  | b, _ => rfl
  | i t, h => congrArg i (fill_congr (t := t) h)
  | m t u, h => by
    show m _ _ = m _ _
    rw [fill_congr (t := t) fun x hx => h x (List.mem_append_left _ hx), fill_congr (t := u) fun x hx => h x (List.mem_append_right _ hx)]
theorem Tr.hd_iff {t : Tr} : t.hd = "v" ↔ t.isV = true := by
  cases e : t.isV with
  | true =>
    cases t with
    | v x => simp [Tr.hd]
    | a => cases e
    | b => cases e
    | i s => cases e
    | m s r => cases e
  | false => simpa using Tr.hd_v e
namespace Tr
theorem gnd_nv {t : Tr} (h : t.names = []) : t.isV = false := by
  cases t with
  | v x => simp [names] at h
  | _ => rfl
theorem gnd_arg {t u : Tr} (h : t.names = []) (hu : u ∈ t.args) : u.names = [] := by
  cases e : u.names with
  | nil => rfl
  | cons x xs =>
    have := names_arg hu (x := x) (by rw [e]; exact List.mem_cons_self)
    rw [h] at this
    cases this
end Tr
theorem Tr.eq_hd {s t : Tr} (hs : s.isV = false) (ht : t.isV = false) (h1 : s.hd = t.hd) (h2 : s.args = t.args) : s = t := by
  cases s <;> cases t <;> first | rfl | (cases hs; done) | (cases ht; done) | (exact absurd h1 (by first | decide | (simp only [Tr.hd]; done) | (simp only [Tr.hd]; decide))) | (simp [Tr.args] at h2; simp [h2])
theorem Tr.args_eq {s t : Tr} (hs : s.isV = false) (ht : t.isV = false) (h1 : s.hd = t.hd) : s.args.length = t.args.length := by
  cases s <;> cases t <;> first | rfl | (cases hs; done) | (cases ht; done) | (exact absurd h1 (by first | decide | (simp only [Tr.hd]; done) | (simp only [Tr.hd]; decide)))
end Sq
set_option Elab.async false
set_option linter.all false
set_option maxRecDepth 100000
set_option maxHeartbeats 2000000
namespace Sq
open PySem PySem.Spec PyProof.Rows L2
/-! ### made one: what the steps do, that they end, that nothing grows too deep -/
namespace Tr
def sz : Tr → Nat
  | v _ => 1
  | a => 1
  | b => 1
  | i t => t.sz + 1
  | m t u => t.sz + u.sz + 1
theorem sz_pos : ∀ t : Tr, 1 ≤ t.sz := fun t => by cases t <;> simp [sz]
theorem dep_fill_ge (s : Str → Option Tr) : ∀ t : Tr, t.dep ≤ (t.fill s).dep
  | v x => dep_pos _
  | a => Nat.le_refl _
  | b => Nat.le_refl _
  | i t => Nat.succ_le_succ (dep_fill_ge s t)
  | m t u => by
    have h1 := dep_fill_ge s t
    have h2 := dep_fill_ge s u
    simp only [fill, dep]; omega
theorem dep_fill_le {s : Str → Option Tr} {B : Nat} (hB : 1 ≤ B) : ∀ {t : Tr}, (∀ x u, x ∈ t.names → s x = some u → u.dep ≤ B) → (t.fill s).dep + 1 ≤ t.dep + B
  | v x, h => by
    simp only [fill, dep]
    cases e : s x with
    | none => simp [dep]; omega
    | some u => have := h x u (by simp [names]) e; simp; omega
  | a, _ => by simp only [fill, dep]; omega
  | b, _ => by simp only [fill, dep]; omega
  | i t, h => by have := dep_fill_le hB (t := t) h; simp only [fill, dep]; omega
  | m t u, h => by
    have h1 := dep_fill_le hB (t := t) fun x w hx => h x w (List.mem_append_left _ hx)
    have h2 := dep_fill_le hB (t := u) fun x w hx => h x w (List.mem_append_right _ hx)
    simp only [fill, dep]; omega
theorem names_fill {s : Str → Option Tr} {x : Str} : ∀ {t : Tr}, x ∈ (t.fill s).names ↔ ∃ y ∈ t.names, x ∈ ((s y).getD (v y)).names
  | v y => by simp [fill, names]
  | a => by simp [fill, names]
  | b => by simp [fill, names]
  | i t => names_fill (t := t)
  | m t u => by
    have h1 := names_fill (s := s) (x := x) (t := t)
    have h2 := names_fill (s := s) (x := x) (t := u)
    simp only [fill, names, List.mem_append, h1, h2]
    constructor
    · rintro (⟨y, a, b⟩ | ⟨y, a, b⟩)
      · exact ⟨y, .inl a, b⟩
      · exact ⟨y, .inr a, b⟩
    · rintro ⟨y, a | a, b⟩
      · exact .inl ⟨y, a, b⟩
      · exact .inr ⟨y, a, b⟩
theorem fill_fill (s1 s2 : Str → Option Tr) : ∀ t : Tr, (t.fill s1).fill s2 = t.fill fun y => some (((s1 y).getD (v y)).fill s2)
  | v x => rfl
  | a => rfl
  | b => rfl
  | i t => congrArg i (fill_fill s1 s2 t)
  | m t u => by show m _ _ = m _ _; rw [fill_fill s1 s2 t, fill_fill s1 s2 u]
theorem fill_id {s : Str → Option Tr} : ∀ {t : Tr}, (∀ x ∈ t.names, s x = none) → t.fill s = t
  | v x, h => by simp [fill, h x (by simp [names])]
  | a, _ => rfl
  | b, _ => rfl
  | i t, h => congrArg i (fill_id (t := t) h)
  | m t u, h => by
    show m _ _ = m _ _
    rw [fill_id (t := t) fun x hx => h x (List.mem_append_left _ hx), fill_id (t := u) fun x hx => h x (List.mem_append_right _ hx)]
/-- a name within a tree that is not the name is smaller, whatever is put in -/
theorem sz_in {s : Str → Option Tr} {x : Str} : ∀ {t : Tr}, x ∈ t.names → t ≠ v x → ((v x).fill s).sz < (t.fill s).sz
  | v y, h, n => by
    have e : x = y := by simpa [names] using h
    exact absurd (by rw [e]) n
  | i t, h, _ => by
    by_cases e : t = v x
    · subst e; exact Nat.lt_succ_self _
    · exact Nat.lt_succ_of_lt (sz_in (t := t) h e)
  | m t u, h, _ => by
    rcases List.mem_append.mp h with h | h
    · have : ((v x).fill s).sz ≤ (t.fill s).sz := by
        by_cases e : t = v x
        · subst e; exact Nat.le_refl _
        · exact Nat.le_of_lt (sz_in (t := t) h e)
      simp only [fill, sz] at this ⊢; omega
    · have : ((v x).fill s).sz ≤ (u.fill s).sz := by
        by_cases e : u = v x
        · subst e; exact Nat.le_refl _
        · exact Nat.le_of_lt (sz_in (t := u) h e)
      simp only [fill, sz] at this ⊢; omega
end Tr
abbrev Tab := List (Str × Tr)
theorem lk_map (g : Tr → Tr) (n : Str) : ∀ l : Tab, lk (l.map fun p => (p.1, g p.2)) n = (lk l n).map g
  | [] => rfl
  | (k, t) :: l => by
    show (if k = n then some (g t) else lk (l.map _) n) = (if k = n then some t else lk l n).map g
    by_cases e : k = n
    · simp [e]
    · simp only [if_neg e]; exact lk_map g n l
theorem lk_mem {l : Tab} {n : Str} {t : Tr} (h : lk l n = some t) : (n, t) ∈ l := by
  induction l with
  | nil => cases h
  | cons p l ih =>
    obtain ⟨k, u⟩ := p
    simp only [lk] at h
    split at h
    · rename_i e; cases h; subst e; exact List.mem_cons_self
    · exact List.mem_cons_of_mem _ (ih h)
theorem lk_none {l : Tab} {n : Str} : lk l n = none ↔ n ∉ l.map (·.1) := by
  induction l with
  | nil => simp [lk]
  | cons p l ih =>
    obtain ⟨k, u⟩ := p
    simp only [lk, List.map_cons, List.mem_cons, not_or]
    by_cases e : k = n
    · simp [e]
    · rw [if_neg e, ih]
      exact ⟨fun h => ⟨fun z => e z.symm, h⟩, fun h => h.2⟩
theorem lk_snoc {l : Tab} {n : Str} {t : Tr} (h : lk l n = none) (x : Str) : lk (l ++ [(n, t)]) x = if x = n then some t else lk l x := by
  induction l with
  | nil =>
    by_cases e : x = n
    · subst e; simp [lk]
    · have : ¬ n = x := fun z => e z.symm
      simp [lk, e, this]
  | cons p l ih =>
    obtain ⟨k, u⟩ := p
    simp only [lk] at h
    split at h
    · cases h
    · rename_i hk
      have ih := ih h
      simp only [List.cons_append, lk]
      by_cases e : k = x
      · have : ¬ x = n := fun z => hk (e.trans z)
        simp [e, this]
      · simp only [if_neg e]; exact ih
/-- one name's tree -/
def one1 (x : Str) (o : Tr) : Str → Option Tr := lk [(x, o)]
def bindT (l : Tab) (x : Str) (o : Tr) : Tab := putL (l.map fun p => (p.1, p.2.fill (one1 x o))) x o
inductive Stp
  | out (r : Option Tab)
  | go (l : Tab) (rl : List (Tr × Tr))
/-- a pair that is unlike, the name ahead -/
def stepQ (l : Tab) (rest : List (Tr × Tr)) (p o : Tr) : Stp := match p with
  | .v x => if x ∈ o.names then .out none else .go (bindT l x o) rest
  | p => if p.hd ≠ o.hd then .out none else .go l ((p.args.zip o.args).reverse ++ rest)
def stepP (l : Tab) (rest : List (Tr × Tr)) (t u : Tr) : Stp :=
  if t = u then .go l rest else if t.isV = true then stepQ l rest t u else stepQ l rest u t
/-- one turn; the pairs still left, the last first -/
def stepU (l : Tab) : List (Tr × Tr) → Stp
  | [] => .out (some l)
  | (t, u) :: rest => stepP l rest (t.fill (lk l)) (u.fill (lk l))
def runU : Nat → Tab → List (Tr × Tr) → Option (Option Tab)
  | 0, _, _ => none
  | n + 1, l, rl => match stepU l rl with
    | .out r => some r
    | .go l rl => runU n l rl
def EB (k : Nat) : Nat := 3 * 2 ^ k + 1
theorem EB_succ (k : Nat) : EB (k + 1) + 1 = 2 * EB k := by unfold EB; rw [Nat.pow_succ]; omega
theorem EB_le {k : Nat} (h : k ≤ 4) : EB k ≤ 49 := by
  unfold EB
  have : 2 ^ k ≤ 2 ^ 4 := Nat.pow_le_pow_right (by omega) h
  omega
structure UI (NV : List Str) (l : Tab) (rl : List (Tr × Tr)) : Prop where
  nd : (l.map (·.1)).Nodup
  keys : ∀ n ∈ l.map (·.1), n ∈ NV
  vals : ∀ n t, (n, t) ∈ l → (∀ x ∈ t.names, x ∈ NV ∧ lk l x = none) ∧ t.dep ≤ EB l.length
  prs : ∀ t u, (t, u) ∈ rl → ((∀ x ∈ t.names, x ∈ NV) ∧ (t.fill (lk l)).dep ≤ EB l.length) ∧ (∀ x ∈ u.names, x ∈ NV) ∧ (u.fill (lk l)).dep ≤ EB l.length
theorem UI.fresh {NV : List Str} {l : Tab} {rl : List (Tr × Tr)} (h : UI NV l rl) {t : Tr} (ht : ∀ x ∈ t.names, x ∈ NV) : ∀ x ∈ (t.fill (lk l)).names, x ∈ NV ∧ lk l x = none := fun x hx => by
  obtain ⟨y, hy, hxy⟩ := Tr.names_fill.mp hx
  cases e : lk l y with
  | none =>
    rw [e] at hxy
    have : x = y := by simpa [Tr.names] using hxy
    subst this
    exact ⟨ht x hy, e⟩
  | some w =>
    rw [e] at hxy
    exact (h.vals y w (lk_mem e)).1 x hxy
theorem UI.len {NV : List Str} {l : Tab} {rl : List (Tr × Tr)} (h : UI NV l rl) : l.length ≤ NV.length := by
  have := nodup_sub h.nd h.keys
  rwa [List.length_map] at this
theorem one1_at {x y : Str} {o : Tr} : one1 x o y = if x = y then some o else none := rfl
theorem bindT_eq {l : Tab} {x : Str} {o : Tr} (h : lk l x = none) : bindT l x o = (l.map fun p => (p.1, p.2.fill (one1 x o))) ++ [(x, o)] := by
  unfold bindT putL
  rw [lk_map (fun t => t.fill (one1 x o)), h]
  rfl
theorem lk_bind {l : Tab} {x : Str} {o : Tr} (h : lk l x = none) (y : Str) : lk (bindT l x o) y = if y = x then some o else (lk l y).map (Tr.fill (one1 x o)) := by
  rw [bindT_eq h, lk_snoc (by rw [lk_map (fun t => t.fill (one1 x o)), h]; rfl), lk_map (fun t => t.fill (one1 x o))]
theorem fill_bind {l : Tab} {x : Str} {o : Tr} (h : lk l x = none) (t : Tr) : t.fill (lk (bindT l x o)) = (t.fill (lk l)).fill (one1 x o) := by
  rw [Tr.fill_fill]
  refine Tr.fill_congr fun y _ => ?_
  rw [lk_bind h]
  by_cases e : y = x
  · subst e
    rw [if_pos rfl, h]
    simp [Tr.fill, one1_at]
  · rw [if_neg e]
    cases lk l y with
    | none =>
      have : ¬ x = y := fun z => e z.symm
      simp [Tr.fill, one1_at, this]
    | some w => rfl
theorem dep_one {x : Str} {o t : Tr} : (t.fill (one1 x o)).dep + 1 ≤ t.dep + o.dep := Tr.dep_fill_le o.dep_pos fun y u _ h => by
  rw [one1_at] at h
  split at h
  · cases h; exact Nat.le_refl _
  · cases h
theorem UI.bind {NV : List Str} {l : Tab} {rl : List (Tr × Tr)} (h : UI NV l rl) {x : Str} {o : Tr} (hx : x ∈ NV) (hl : lk l x = none) (ho : ∀ y ∈ o.names, y ∈ NV ∧ lk l y = none) (hxo : x ∉ o.names) (hd : o.dep ≤ EB l.length) : UI NV (bindT l x o) rl := by
  have hlen : (bindT l x o).length = l.length + 1 := by rw [bindT_eq hl]; simp
  have hE := EB_succ l.length
  have mapfst : (bindT l x o).map (·.1) = l.map (·.1) ++ [x] := by
    rw [bindT_eq hl]
    simp
  have fresh : ∀ y, y ∈ NV → lk l y = none → y ≠ x → lk (bindT l x o) y = none := fun y _ h1 h2 => by rw [lk_bind hl, if_neg h2, h1]; rfl
  refine ⟨?_, fun n hn => ?_, fun n t hm => ?_, fun t u hm => ?_⟩
  · rw [mapfst]
    exact List.nodup_append.mpr ⟨h.nd, by simp, fun a ha b hb e => by
      have e' : b = x := by simpa using hb
      subst e' e
      exact (lk_none.mp hl) ha⟩
  · rw [mapfst] at hn
    rcases List.mem_append.mp hn with z | z
    · exact h.keys n z
    · have : n = x := by simpa using z
      rw [this]; exact hx
  · rw [hlen]
    rw [bindT_eq hl] at hm
    rcases List.mem_append.mp hm with z | z
    · obtain ⟨⟨n', w⟩, hw, e⟩ := List.mem_map.mp z
      cases e
      obtain ⟨h1, h2⟩ := h.vals n' w hw
      refine ⟨fun y hy => ?_, by have := dep_one (x := x) (o := o) (t := w); show (Tr.fill (one1 x o) w).dep ≤ _; omega⟩
      obtain ⟨z, hz, hyz⟩ := Tr.names_fill.mp hy
      rw [one1_at] at hyz
      by_cases e : x = z
      · rw [if_pos e] at hyz
        have hy' : y ∈ o.names := hyz
        obtain ⟨a, b⟩ := ho y hy'
        exact ⟨a, fresh y a b fun e => hxo (e ▸ hy')⟩
      · rw [if_neg e] at hyz
        have e2 : y = z := by simpa [Tr.names] using hyz
        subst e2
        obtain ⟨a, b⟩ := h1 y hz
        exact ⟨a, fresh y a b fun z => e z.symm⟩
    · have e : n = x ∧ t = o := by simpa using z
      obtain ⟨rfl, rfl⟩ := e
      exact ⟨fun y hy => let ⟨a, b⟩ := ho y hy; ⟨a, fresh y a b fun e => hxo (e ▸ hy)⟩, by omega⟩
  · obtain ⟨⟨a1, a2⟩, b1, b2⟩ := h.prs t u hm
    rw [hlen, fill_bind hl, fill_bind hl]
    exact ⟨⟨a1, by have := dep_one (x := x) (o := o) (t := t.fill (lk l)); omega⟩, b1, by have := dep_one (x := x) (o := o) (t := u.fill (lk l)); omega⟩
def szP (l : Tab) (rl : List (Tr × Tr)) : Nat := (rl.map fun p => (p.1.fill (lk l)).sz + (p.2.fill (lk l)).sz).sum
theorem UI.tail {NV : List Str} {l : Tab} {p : Tr × Tr} {rl : List (Tr × Tr)} (h : UI NV l (p :: rl)) : UI NV l rl := ⟨h.nd, h.keys, h.vals, fun t u hm => h.prs t u (List.mem_cons_of_mem _ hm)⟩
theorem Tr.args_sz : ∀ t : Tr, (t.args.map sz).sum < t.sz
  | v _ => Nat.zero_lt_one
  | a => Nat.zero_lt_one
  | b => Nat.zero_lt_one
  | i t => by simp [args, sz]
  | m t u => by simp [args, sz]
theorem zip_sz : ∀ ts us : List Tr, ((ts.zip us).map fun p => p.1.sz + p.2.sz).sum ≤ (ts.map Tr.sz).sum + (us.map Tr.sz).sum
  | [], _ => Nat.zero_le _
  | _ :: _, [] => Nat.zero_le _
  | t :: ts, u :: us => by
    have := zip_sz ts us
    simp only [List.zip_cons_cons, List.map_cons, List.sum_cons]
    omega
theorem UI.split {NV : List Str} {l : Tab} {rl : List (Tr × Tr)} (h : UI NV l rl) {p o : Tr} (hp : ∀ y ∈ p.names, y ∈ NV ∧ lk l y = none) (ho : ∀ y ∈ o.names, y ∈ NV ∧ lk l y = none) (dp : p.dep ≤ EB l.length) (dO : o.dep ≤ EB l.length) : UI NV l ((p.args.zip o.args).reverse ++ rl) := by
  refine ⟨h.nd, h.keys, h.vals, fun t u hm => ?_⟩
  rcases List.mem_append.mp hm with z | z
  · obtain ⟨a, b⟩ := List.of_mem_zip (List.mem_reverse.mp z)
    have ft : t.fill (lk l) = t := Tr.fill_id fun x hx => (hp x (Tr.names_arg a hx)).2
    have fu : u.fill (lk l) = u := Tr.fill_id fun x hx => (ho x (Tr.names_arg b hx)).2
    rw [ft, fu]
    have := Tr.dep_arg a
    have := Tr.dep_arg b
    exact ⟨⟨fun x hx => (hp x (Tr.names_arg a hx)).1, by omega⟩, fun x hx => (ho x (Tr.names_arg b hx)).1, by omega⟩
  · exact h.prs t u z
theorem split_sz {l : Tab} {p o : Tr} {rl : List (Tr × Tr)} (hp : ∀ y ∈ p.names, lk l y = none) (ho : ∀ y ∈ o.names, lk l y = none) : szP l ((p.args.zip o.args).reverse ++ rl) < p.sz + o.sz + szP l rl := by
  have e : ∀ q ∈ p.args.zip o.args, (q.1.fill (lk l)).sz + (q.2.fill (lk l)).sz = q.1.sz + q.2.sz := fun q hq => by
    obtain ⟨a, b⟩ := List.of_mem_zip hq
    rw [Tr.fill_id fun x hx => hp x (Tr.names_arg a hx), Tr.fill_id fun x hx => ho x (Tr.names_arg b hx)]
  unfold szP
  rw [List.map_append, List.sum_append, List.map_reverse, List.sum_reverse, List.map_congr_left e]
  have h1 := zip_sz p.args o.args
  have h2 := p.args_sz
  have h3 := o.args_sz
  omega
/-- one turn keeps what holds, and goes down -/
theorem step_ok {NV : List Str} {l : Tab} {rl : List (Tr × Tr)} (h : UI NV l rl) : match stepU l rl with
    | .out r => r = some l → rl = []
    | .go l' rl' => UI NV l' rl' ∧ (l'.length = l.length + 1 ∨ (l' = l ∧ szP l rl' < szP l rl)) := by
  cases rl with
  | nil => exact fun _ => rfl
  | cons pr rest =>
    obtain ⟨t, u⟩ := pr
    obtain ⟨⟨a1, a2⟩, b1, b2⟩ := h.prs t u List.mem_cons_self
    have ft := h.fresh a1
    have fu := h.fresh b1
    have hs : szP l ((t, u) :: rest) = (t.fill (lk l)).sz + (u.fill (lk l)).sz + szP l rest := by simp [szP]
    show match stepP l rest (t.fill (lk l)) (u.fill (lk l)) with
      | .out r => r = some l → (t, u) :: rest = []
      | .go l' rl' => UI NV l' rl' ∧ (l'.length = l.length + 1 ∨ (l' = l ∧ szP l rl' < szP l ((t, u) :: rest)))
    revert ft fu a2 b2 hs
    generalize t.fill (lk l) = t'
    generalize u.fill (lk l) = u'
    intro a2 b2 ft fu hs
    unfold stepP
    by_cases e : t' = u'
    · rw [if_pos e]
      refine ⟨h.tail, .inr ⟨rfl, ?_⟩⟩
      have := t'.sz_pos
      omega
    · rw [if_neg e]
      have key : ∀ p o : Tr, (∀ y ∈ p.names, y ∈ NV ∧ lk l y = none) → (∀ y ∈ o.names, y ∈ NV ∧ lk l y = none) → p.dep ≤ EB l.length → o.dep ≤ EB l.length → p.sz + o.sz + szP l rest = szP l ((t, u) :: rest) →
          (match stepQ l rest p o with
          | .out r => r = some l → (t, u) :: rest = []
          | .go l' rl' => UI NV l' rl' ∧ (l'.length = l.length + 1 ∨ (l' = l ∧ szP l rl' < szP l ((t, u) :: rest)))) := by
        intro p o hp ho dp dO hsz
        have nv : ∀ q : Tr, q = p → q.isV = false → (match (if q.hd ≠ o.hd then Stp.out none else .go l ((q.args.zip o.args).reverse ++ rest)) with
          | .out r => r = some l → (t, u) :: rest = []
          | .go l' rl' => UI NV l' rl' ∧ (l'.length = l.length + 1 ∨ (l' = l ∧ szP l rl' < szP l ((t, u) :: rest)))) := fun q eq hq => by
          subst eq
          by_cases z : q.hd = o.hd
          · rw [if_neg (by simp [z])]
            exact ⟨h.tail.split hp ho dp dO, .inr ⟨rfl, by have := split_sz (rl := rest) (fun y hy => (hp y hy).2) (fun y hy => (ho y hy).2); omega⟩⟩
          · rw [if_pos z]
            exact fun z => by cases z
        cases p with
        | v x =>
          obtain ⟨x1, x2⟩ := hp x (by simp [Tr.names])
          unfold stepQ
          by_cases z : x ∈ o.names
          · simp only [if_pos z]
            exact fun z => by cases z
          · simp only [if_neg z]
            exact ⟨h.tail.bind x1 x2 ho z dO, .inl (by rw [bindT_eq x2]; simp)⟩
        | a => exact nv _ rfl rfl
        | b => exact nv _ rfl rfl
        | i s => exact nv _ rfl rfl
        | m s r => exact nv _ rfl rfl
      by_cases hv : t'.isV = true
      · rw [if_pos hv]
        exact key t' u' ft fu a2 b2 hs.symm
      · rw [if_neg hv]
        exact key u' t' fu ft b2 a2 (by omega)
theorem run_ends {NV : List Str} (h4 : NV.length ≤ 4) : ∀ (f m : Nat) (l : Tab) (rl : List (Tr × Tr)), UI NV l rl → 4 - l.length ≤ f → szP l rl ≤ m → ∃ n r, runU n l rl = some r := by
  intro f
  induction f with
  | zero =>
    intro m
    induction m with
    | zero =>
      intro l rl h hf hm
      have hs := step_ok h
      cases e : stepU l rl with
      | out r => exact ⟨1, r, by simp [runU, e]⟩
      | go l' rl' =>
        rw [e] at hs
        obtain ⟨h', hd⟩ := hs
        have := h'.len
        have := h.len
        rcases hd with z | ⟨_, z⟩ <;> omega
    | succ m ih =>
      intro l rl h hf hm
      have hs := step_ok h
      cases e : stepU l rl with
      | out r => exact ⟨1, r, by simp [runU, e]⟩
      | go l' rl' =>
        rw [e] at hs
        obtain ⟨h', hd⟩ := hs
        have := h'.len
        have := h.len
        rcases hd with z | ⟨z1, z⟩
        · omega
        · subst z1
          obtain ⟨n, r, hr⟩ := ih l' rl' h' hf (by omega)
          exact ⟨n + 1, r, by simp [runU, e, hr]⟩
  | succ f ihf =>
    intro m
    induction m with
    | zero =>
      intro l rl h hf hm
      have hs := step_ok h
      cases e : stepU l rl with
      | out r => exact ⟨1, r, by simp [runU, e]⟩
      | go l' rl' =>
        rw [e] at hs
        obtain ⟨h', hd⟩ := hs
        rcases hd with z | ⟨_, z⟩
        · obtain ⟨n, r, hr⟩ := ihf _ l' rl' h' (by omega) (Nat.le_refl _)
          exact ⟨n + 1, r, by simp [runU, e, hr]⟩
        · omega
    | succ m ih =>
      intro l rl h hf hm
      have hs := step_ok h
      cases e : stepU l rl with
      | out r => exact ⟨1, r, by simp [runU, e]⟩
      | go l' rl' =>
        rw [e] at hs
        obtain ⟨h', hd⟩ := hs
        rcases hd with z | ⟨z1, z⟩
        · obtain ⟨n, r, hr⟩ := ihf _ l' rl' h' (by omega) (Nat.le_refl _)
          exact ⟨n + 1, r, by simp [runU, e, hr]⟩
        · subst z1
          obtain ⟨n, r, hr⟩ := ih l' rl' h' hf (by omega)
          exact ⟨n + 1, r, by simp [runU, e, hr]⟩
end Sq
set_option Elab.async false
set_option linter.all false
set_option maxRecDepth 100000
set_option maxHeartbeats 2000000
namespace Sq
open PySem PySem.Spec PyProof.Rows L2
theorem fill_theta {th : Str → Option Tr} {l : Tab} (h : ∀ n t, (n, t) ∈ l → (Tr.v n).fill th = t.fill th) (t : Tr) : (t.fill (lk l)).fill th = t.fill th := by
  rw [Tr.fill_fill]
  refine Tr.fill_congr fun y _ => ?_
  show ((lk l y).getD (.v y)).fill th = (Tr.v y).fill th
  cases e : lk l y with
  | none => rfl
  | some w => exact (h y w (lk_mem e)).symm
theorem fill_one {th : Str → Option Tr} {x : Str} {o : Tr} (h : (Tr.v x).fill th = o.fill th) (t : Tr) : (t.fill (one1 x o)).fill th = t.fill th :=
  fill_theta (l := [(x, o)]) (fun n t hm => by
    have e : n = x ∧ t = o := by simpa using hm
    obtain ⟨rfl, rfl⟩ := e
    exact h) t
/-- what can be made one is made one -/
theorem no_none {NV : List Str} {th : Str → Option Tr} : ∀ (n : Nat) (l : Tab) (rl : List (Tr × Tr)), UI NV l rl → (∀ t u, (t, u) ∈ rl → t.fill th = u.fill th) → (∀ n t, (n, t) ∈ l → (Tr.v n).fill th = t.fill th) → runU n l rl ≠ some none
  | 0, _, _, _, _, _, h => by cases h
  | n + 1, l, [], hU, hp, hl, h => by
    have : runU (n + 1) l [] = some (some l) := rfl
    rw [this] at h
    cases h
  | n + 1, l, (t, u) :: rest, hU, hp, hl, h => by
    have hm : (match stepP l rest (t.fill (lk l)) (u.fill (lk l)) with | .out r => some r | .go l rl => runU n l rl) = some none := h
    obtain ⟨⟨a1, a2⟩, b1, b2⟩ := hU.prs t u List.mem_cons_self
    have ft := hU.fresh a1
    have fu := hU.fresh b1
    have eq : (t.fill (lk l)).fill th = (u.fill (lk l)).fill th := by rw [fill_theta hl, fill_theta hl]; exact hp t u List.mem_cons_self
    have hrest : ∀ t u, (t, u) ∈ rest → t.fill th = u.fill th := fun t u hm => hp t u (List.mem_cons_of_mem _ hm)
    revert hm ft fu a2 b2 eq
    generalize t.fill (lk l) = t'
    generalize u.fill (lk l) = u'
    intro hm a2 b2 ft fu eq
    unfold stepP at hm
    have key : ∀ p o : Tr, p ≠ o → (p.isV = false → o.isV = false) → (∀ y ∈ p.names, y ∈ NV ∧ lk l y = none) → (∀ y ∈ o.names, y ∈ NV ∧ lk l y = none) → p.dep ≤ EB l.length → o.dep ≤ EB l.length → p.fill th = o.fill th →
        (match stepQ l rest p o with | .out r => some r | .go l rl => runU n l rl) ≠ some none := by
      intro p o hne hno hpn hon dp dO hpo hmq
      have nv : ∀ q : Tr, q = p → q.isV = false → (match (if q.hd ≠ o.hd then Stp.out none else .go l ((q.args.zip o.args).reverse ++ rest)) with | .out r => some r | .go l rl => runU n l rl) ≠ some none := fun q eq hq hmr => by
        subst eq
        obtain ⟨_, n2, n3⟩ := Tr.fill_nv (s := th) hq
        obtain ⟨_, m2, m3⟩ := Tr.fill_nv (s := th) (hno hq)
        have hh : q.hd = o.hd := by rw [← n2, ← m2, hpo]
        have ha : q.args.map (Tr.fill th) = o.args.map (Tr.fill th) := by rw [← n3, ← m3, hpo]
        rw [if_neg (by simp [hh])] at hmr
        refine no_none n l _ (hU.tail.split hpn hon dp dO) (fun t u hm => ?_) hl hmr
        rcases List.mem_append.mp hm with z | z
        · obtain ⟨i, hi⟩ := List.getElem?_of_mem (List.mem_reverse.mp z)
          obtain ⟨h1, h2⟩ := List.getElem?_zip_eq_some.mp hi
          have := congrArg (fun l => l[i]?) ha
          simp only [List.getElem?_map, h1, h2, Option.map_some] at this
          exact Option.some.inj this
        · exact hrest t u z
      cases p with
      | v x =>
        obtain ⟨x1, x2⟩ := hpn x (by simp [Tr.names])
        unfold stepQ at hmq
        by_cases z : x ∈ o.names
        · have := Tr.sz_in (s := th) z (fun e => hne e.symm)
          rw [hpo] at this
          omega
        · simp only [if_neg z] at hmq
          refine no_none n _ rest (hU.tail.bind x1 x2 hon z dO) hrest (fun n' t' hm' => ?_) hmq
          rw [bindT_eq x2] at hm'
          rcases List.mem_append.mp hm' with w | w
          · obtain ⟨⟨n0, t0⟩, h0, e⟩ := List.mem_map.mp w
            cases e
            show _ = (t0.fill (one1 x o)).fill th
            rw [fill_one hpo]
            exact hl n0 t0 h0
          · have e : n' = x ∧ t' = o := by simpa using w
            obtain ⟨rfl, rfl⟩ := e
            exact hpo
      | a => exact nv _ rfl rfl hmq
      | b => exact nv _ rfl rfl hmq
      | i s => exact nv _ rfl rfl hmq
      | m s r => exact nv _ rfl rfl hmq
    by_cases e : t' = u'
    · rw [if_pos e] at hm
      exact no_none n l rest hU.tail hrest hl hm
    · rw [if_neg e] at hm
      by_cases hv : t'.isV = true
      · rw [if_pos hv] at hm
        exact key t' u' e (fun z => by rw [hv] at z; cases z) ft fu a2 b2 eq hm
      · rw [if_neg hv] at hm
        exact key u' t' (fun z => e z.symm) (fun _ => by cases hx : t'.isV with | false => rfl | true => exact absurd hx hv) fu ft b2 a2 eq.symm hm
end Sq
set_option Elab.async false
set_option linter.all false
set_option maxRecDepth 100000
set_option maxHeartbeats 2000000
namespace Sq
open PySem PySem.Spec PyProof.Rows L2
/-! ### what made_one tells: it makes one, and each way is a case of it -/
theorem fill_more {l l' : Tab} (h : ∀ t : Tr, (t.fill (lk l)).fill (lk l') = t.fill (lk l')) {t u : Tr} (e : (t.fill (lk l)).fill (lk l') = (u.fill (lk l)).fill (lk l')) : t.fill (lk l') = u.fill (lk l') := (h t).symm.trans (e.trans (h u))
theorem run_one {NV : List Str} {th : Str → Option Tr} : ∀ (n : Nat) (l : Tab) (rl : List (Tr × Tr)) (l' : Tab), UI NV l rl → runU n l rl = some (some l') →
    (∀ t : Tr, (t.fill (lk l)).fill (lk l') = t.fill (lk l')) ∧ (∀ t u, (t, u) ∈ rl → t.fill (lk l') = u.fill (lk l')) ∧
    ((∀ t u, (t, u) ∈ rl → t.fill th = u.fill th) → (∀ n t, (n, t) ∈ l → (Tr.v n).fill th = t.fill th) → ∀ n t, (n, t) ∈ l' → (Tr.v n).fill th = t.fill th)
  | 0, _, _, _, _, h => by cases h
  | n + 1, l, [], l', hU, h => by
    have e : runU (n + 1) l [] = some (some l) := rfl
    rw [e] at h
    cases h
    refine ⟨fun t => ?_, (fun t u z => by cases z), fun _ h => h⟩
    refine Tr.fill_id fun x hx => ?_
    obtain ⟨y, hy, hxy⟩ := Tr.names_fill.mp hx
    cases e : lk l y with
    | none =>
      rw [e] at hxy
      have : x = y := by simpa [Tr.names] using hxy
      subst this
      exact e
    | some w =>
      rw [e] at hxy
      exact ((hU.vals y w (lk_mem e)).1 x hxy).2
  | n + 1, l, (t, u) :: rest, l', hU, h => by
    have hm : (match stepP l rest (t.fill (lk l)) (u.fill (lk l)) with | .out r => some r | .go l rl => runU n l rl) = some (some l') := h
    obtain ⟨⟨a1, a2⟩, b1, b2⟩ := hU.prs t u List.mem_cons_self
    have ft := hU.fresh a1
    have fu := hU.fresh b1
    -- from what is shown of the filled pair to the pair itself
    suffices key : (∀ t : Tr, (t.fill (lk l)).fill (lk l') = t.fill (lk l')) ∧ ((t.fill (lk l)).fill (lk l') = (u.fill (lk l)).fill (lk l')) ∧ (∀ t u, (t, u) ∈ rest → t.fill (lk l') = u.fill (lk l')) ∧
        (((t.fill (lk l)).fill th = (u.fill (lk l)).fill th) → (∀ t u, (t, u) ∈ rest → t.fill th = u.fill th) → (∀ n t, (n, t) ∈ l → (Tr.v n).fill th = t.fill th) → ∀ n t, (n, t) ∈ l' → (Tr.v n).fill th = t.fill th) by
      obtain ⟨k1, k2, k3, k4⟩ := key
      refine ⟨k1, fun t' u' hm' => ?_, fun hp hl => k4 (by rw [fill_theta hl, fill_theta hl]; exact hp t u List.mem_cons_self) (fun t' u' z => hp t' u' (List.mem_cons_of_mem _ z)) hl⟩
      rcases List.mem_cons.mp hm' with z | z
      · cases z; exact fill_more k1 k2
      · exact k3 t' u' z
    revert hm ft fu a2 b2
    generalize t.fill (lk l) = t'
    generalize u.fill (lk l) = u'
    intro hm a2 b2 ft fu
    unfold stepP at hm
    have key : ∀ p o : Tr, p ≠ o → (p.isV = false → o.isV = false) → (∀ y ∈ p.names, y ∈ NV ∧ lk l y = none) → (∀ y ∈ o.names, y ∈ NV ∧ lk l y = none) → p.dep ≤ EB l.length → o.dep ≤ EB l.length →
        (match stepQ l rest p o with | .out r => some r | .go l rl => runU n l rl) = some (some l') →
        (∀ t : Tr, (t.fill (lk l)).fill (lk l') = t.fill (lk l')) ∧ (p.fill (lk l') = o.fill (lk l')) ∧ (∀ t u, (t, u) ∈ rest → t.fill (lk l') = u.fill (lk l')) ∧
        ((p.fill th = o.fill th) → (∀ t u, (t, u) ∈ rest → t.fill th = u.fill th) → (∀ n t, (n, t) ∈ l → (Tr.v n).fill th = t.fill th) → ∀ n t, (n, t) ∈ l' → (Tr.v n).fill th = t.fill th) := by
      intro p o hne hno hpn hon dp dO hmq
      have nv : ∀ q : Tr, q = p → q.isV = false → (match (if q.hd ≠ o.hd then Stp.out none else .go l ((q.args.zip o.args).reverse ++ rest)) with | .out r => some r | .go l rl => runU n l rl) = some (some l') →
          (∀ t : Tr, (t.fill (lk l)).fill (lk l') = t.fill (lk l')) ∧ (p.fill (lk l') = o.fill (lk l')) ∧ (∀ t u, (t, u) ∈ rest → t.fill (lk l') = u.fill (lk l')) ∧
          ((p.fill th = o.fill th) → (∀ t u, (t, u) ∈ rest → t.fill th = u.fill th) → (∀ n t, (n, t) ∈ l → (Tr.v n).fill th = t.fill th) → ∀ n t, (n, t) ∈ l' → (Tr.v n).fill th = t.fill th) := fun q eq hq hmr => by
        subst eq
        by_cases hh : q.hd = o.hd
        · rw [if_neg (by simp [hh])] at hmr
          obtain ⟨r1, r2, r3⟩ := run_one (th := th) n l _ l' (hU.tail.split hpn hon dp dO) hmr
          have hlen := Tr.args_eq hq (hno hq) hh
          refine ⟨r1, ?_, fun t u z => r2 t u (List.mem_append_right _ z), fun hpo hrest hl => r3 (fun t u z => ?_) hl⟩
          · obtain ⟨n1, n2, n3⟩ := Tr.fill_nv (s := lk l') hq
            obtain ⟨m1, m2, m3⟩ := Tr.fill_nv (s := lk l') (hno hq)
            refine Tr.eq_hd n1 m1 (by rw [n2, m2, hh]) ?_
            rw [n3, m3]
            refine List.ext_getElem? fun i => ?_
            rw [List.getElem?_map, List.getElem?_map]
            cases e1 : q.args[i]? with
            | none =>
              have : o.args[i]? = none := List.getElem?_eq_none (by have := List.getElem?_eq_none_iff.mp e1; omega)
              rw [this]
            | some y =>
              obtain ⟨hi, _⟩ := List.getElem?_eq_some_iff.mp e1
              have e2 : o.args[i]? = some (o.args[i]'(by omega)) := List.getElem?_eq_getElem (by omega)
              rw [e2]
              exact congrArg some (r2 _ _ (List.mem_append_left _ (List.mem_reverse.mpr (List.mem_of_getElem? (i := i) (List.getElem?_zip_eq_some.mpr ⟨e1, e2⟩)))))
          · rcases List.mem_append.mp z with z | z
            · obtain ⟨i, hi⟩ := List.getElem?_of_mem (List.mem_reverse.mp z)
              obtain ⟨h1, h2⟩ := List.getElem?_zip_eq_some.mp hi
              have ha : q.args.map (Tr.fill th) = o.args.map (Tr.fill th) := by rw [← (Tr.fill_nv (s := th) hq).2.2, ← (Tr.fill_nv (s := th) (hno hq)).2.2, hpo]
              have := congrArg (fun l => l[i]?) ha
              simp only [List.getElem?_map, h1, h2, Option.map_some] at this
              exact Option.some.inj this
            · exact hrest t u z
        · rw [if_pos hh] at hmr
          cases hmr
      cases p with
      | v x =>
        obtain ⟨x1, x2⟩ := hpn x (by simp [Tr.names])
        unfold stepQ at hmq
        by_cases z : x ∈ o.names
        · simp only [if_pos z] at hmq
          cases hmq
        · simp only [if_neg z] at hmq
          obtain ⟨r1, r2, r3⟩ := run_one (th := th) n _ rest l' (hU.tail.bind x1 x2 hon z dO) hmq
          have ox : o.fill (one1 x o) = o := Tr.fill_id fun y hy => by
            rw [one1_at, if_neg (fun e : x = y => z (by rw [e]; exact hy))]
          have one : ∀ w : Tr, (w.fill (one1 x o)).fill (lk l') = w.fill (lk l') := fun w => by
            refine fill_one ?_ w
            have h1 := r1 (.v x)
            rw [fill_bind x2] at h1
            have h2 : ((Tr.v x).fill (lk l)) = .v x := Tr.fill_id fun y hy => by
              have : y = x := by simpa [Tr.names] using hy
              rw [this]; exact x2
            rw [h2] at h1
            have h3 : (Tr.v x).fill (one1 x o) = o := by show (one1 x o x).getD _ = o; rw [one1_at, if_pos rfl]; rfl
            rw [h3] at h1
            exact h1.symm
          refine ⟨fun w => ?_, ?_, r2, fun hpo hrest hl => r3 hrest fun n' t' hm' => ?_⟩
          · have h1 := r1 w
            rw [fill_bind x2, one] at h1
            exact h1
          · have := one (.v x)
            have h3 : (Tr.v x).fill (one1 x o) = o := by show (one1 x o x).getD _ = o; rw [one1_at, if_pos rfl]; rfl
            rw [h3] at this
            exact this.symm
          · rw [bindT_eq x2] at hm'
            rcases List.mem_append.mp hm' with w | w
            · obtain ⟨⟨n0, t0⟩, h0, e⟩ := List.mem_map.mp w
              cases e
              show _ = (t0.fill (one1 x o)).fill th
              rw [fill_one hpo]
              exact hl n0 t0 h0
            · have e : n' = x ∧ t' = o := by simpa using w
              obtain ⟨rfl, rfl⟩ := e
              exact hpo
      | a => exact nv _ rfl rfl hmq
      | b => exact nv _ rfl rfl hmq
      | i s => exact nv _ rfl rfl hmq
      | m s r => exact nv _ rfl rfl hmq
    by_cases e : t' = u'
    · rw [if_pos e] at hm
      obtain ⟨r1, r2, r3⟩ := run_one (th := th) n l rest l' hU.tail hm
      exact ⟨r1, by rw [e], r2, fun _ hrest hl => r3 hrest hl⟩
    · rw [if_neg e] at hm
      by_cases hv : t'.isV = true
      · rw [if_pos hv] at hm
        exact key t' u' e (fun z => by rw [hv] at z; cases z) ft fu a2 b2 hm
      · rw [if_neg hv] at hm
        obtain ⟨k1, k2, k3, k4⟩ := key u' t' (fun z => e z.symm) (fun _ => by cases hx : t'.isV with | false => rfl | true => exact absurd hx hv) fu ft b2 a2 hm
        exact ⟨k1, k2.symm, k3, fun hpo => k4 hpo.symm⟩
end Sq
set_option Elab.async false
set_option linter.all false
set_option maxRecDepth 100000
set_option maxHeartbeats 4000000
namespace Sq
open PySem PySem.Spec PyProof.Rows L2 RZ
local macro_rules | `(tactic| walk_at "rd") => `(tactic| simp only [tCont, tDisp, tPairs, rIndexS, wipe, tNoPart, tDG2, tDGF, tDInF, tDNInF, sDPutF, tDNewF, rSortD, rInS, rInT, rEqLF, tDcF, tDc2F, tLcF, tForF, tAllF, tAnyF, tSumF, iEnumF, iZipF, iKeysF, iItems, tLZip, tYes, tSeq, tIfS, tNext, tRet, tRetN, tDrop, tTest, tB, tNot, tAnd, tOr, tChain, tOp, tUn, tCB, tCons, tNil, tC, tVar, tIf, tAndV, tOrV, tNotV, tAsg, tPar, tPar3, gName, gSub, gTupF, gCons, gNil, tTupF, tLstF, rI0, rI, rIxF, rIxG, rIxS, rSetF, rSlF, rCatF, rCatL, rTupL, rListT, rListL, rLenT, rLenL, iTupF, iLstF, rAppF, rExtF, rPopF, tBM, tBM0, tSl, tPart, rEq, rNe, tCall, L2.start,
  List.map_cons, List.map_nil, List.length_cons, List.length_nil, Nat.sub_self, List.replicate, List.append_nil, List.cons_append, List.nil_append, List.getElem?_cons_zero, List.getElem?_cons_succ, List.set_cons_zero, List.set_cons_succ,
  exSl, exI, exI2, exB, exS, exR, ex1, ex1', V.int.injEq, V.bl.injEq, V.ref.injEq, V.str.injEq, Option.some.injEq, List.cons.injEq, and_true, true_and, reduceCtorEq, false_and, and_false, or_false, false_or, exists_false, exists_and_left, exists_eq_left', decide_eq_true_eq, decide_true, decide_false, if_false, if_true, ite_true, ite_false, Bool.false_eq_true, Bool.not_true, Bool.not_false, Nat.reduceAdd, Nat.reduceSub, Nat.zero_add, atI_0, atI_1, atI_2, atI_3, ixN_0, ixN_1, ixN_2, cutV_1, cutV_2, Option.some.injEq, HO.lst.injEq, HO.dK.injEq, scal])
local macro_rules | `(tactic| walk_at "rdc") => `(tactic| simp (config := { contextual := true }) only [tCont, tDisp, tPairs, rIndexS, wipe, tNoPart, tDG2, tDGF, tDInF, tDNInF, sDPutF, tDNewF, rSortD, rInS, rInT, rEqLF, tDcF, tDc2F, tLcF, tForF, tAllF, tAnyF, tSumF, iEnumF, iZipF, iKeysF, iItems, tLZip, tYes, tSeq, tIfS, tNext, tRet, tRetN, tDrop, tTest, tB, tNot, tAnd, tOr, tChain, tOp, tUn, tCB, tCons, tNil, tC, tVar, tIf, tAndV, tOrV, tNotV, tAsg, tPar, tPar3, gName, gSub, gTupF, gCons, gNil, tTupF, tLstF, rI0, rI, rIxF, rIxG, rIxS, rSetF, rSlF, rCatF, rCatL, rTupL, rListT, rListL, rLenT, rLenL, iTupF, iLstF, rAppF, rExtF, rPopF, tBM, tBM0, tSl, tPart, rEq, rNe, tCall, L2.start,
  List.map_cons, List.map_nil, List.length_cons, List.length_nil, Nat.sub_self, List.replicate, List.append_nil, List.cons_append, List.nil_append, List.getElem?_cons_zero, List.getElem?_cons_succ, List.set_cons_zero, List.set_cons_succ,
  exSl, exI, exI2, exB, exS, exR, ex1, ex1', V.int.injEq, V.bl.injEq, V.ref.injEq, V.str.injEq, Option.some.injEq, List.cons.injEq, and_true, true_and, reduceCtorEq, false_and, and_false, or_false, false_or, exists_false, exists_and_left, exists_eq_left', decide_eq_true_eq, decide_true, decide_false, if_false, if_true, ite_true, ite_false, Bool.false_eq_true, Bool.not_true, Bool.not_false, Nat.reduceAdd, Nat.reduceSub, Nat.zero_add, atI_0, atI_1, atI_2, atI_3, ixN_0, ixN_1, ixN_2, cutV_1, cutV_2, Option.some.injEq, HO.lst.injEq, HO.dK.injEq, scal, *])
section
variable {P : Program} {w : World} {K : PySem.W.Frag} {mg : Str → Option Value} {base : Heap} {f c tb tw : Addr} {fd : FuncData} {NS NV : List Str}
abbrev s_made_one : Stmt := top 5
abbrev n_made_one : List Str := ["one", "other", "table", "left", "name", "tree"]
theorem sc_made_one : FnScope n_made_one ["one", "other"] (defScope s_made_one) := ⟨rfl, rfl, rfl, by decide +kernel, rfl, by decide +kernel, by decide +kernel⟩
def pairD (p : Tr × Tr) : PyData := .tuple [p.1.data, p.2.data]
def spMade (K : PySem.W.Frag) (NV : List Str) : Sp := fun vs H Q _ => ∃ (v u : V) (s t : Tr), vs = [v, u] ∧ Td K H v s.data ∧ Td K H u t.data ∧ UI NV [] [(s, t)] ∧
  (∀ n, runU n [] [(s, t)] = some none → ∀ H', Ext [] H H' → Q .non H') ∧ ∀ n l, runU n [] [(s, t)] = some (some l) → UI NV l [] → ∀ (a : Addr) (H' : Hp), Ext [] H H' → TabA K H' a l → Q (.ref a) H'
/-- how many pairs are left at most -/
def SB : Nat → Nat
  | 0 => 1
  | k + 1 => SB k + EB k
def Stair (l : Tab) (D : Nat) : List (Tr × Tr) → Prop
  | [] => True
  | p :: A => ((p.1.fill (lk l)).dep + A.length ≤ D ∧ (p.2.fill (lk l)).dep + A.length ≤ D) ∧ Stair l D A
def LenI (l : Tab) (rl : List (Tr × Tr)) : Prop := ∃ A B, rl = A ++ B ∧ B.length ≤ SB l.length ∧ Stair l (EB l.length) A
theorem Stair.len {l : Tab} {D : Nat} : ∀ {A : List (Tr × Tr)}, Stair l D A → A.length ≤ D
  | [], _ => Nat.zero_le _
  | p :: A, ⟨⟨h, _⟩, _⟩ => by have := (p.1.fill (lk l)).dep_pos; rw [List.length_cons]; omega
theorem LenI.le {l : Tab} {rl : List (Tr × Tr)} (h : LenI l rl) (hl : l.length ≤ 4) : rl.length ≤ 200 := by
  obtain ⟨A, B, rfl, h1, h2⟩ := h
  have h3 := h2.len
  have h4 := EB_le hl
  have h5 : SB l.length ≤ SB 4 := by
    match l.length, hl with
    | 0, _ => decide
    | 1, _ => decide
    | 2, _ => decide
    | 3, _ => decide
    | 4, _ => decide
  have h6 : SB 4 = 50 := by decide
  rw [List.length_append]; omega
theorem LenI.tail {l : Tab} {p : Tr × Tr} {rest : List (Tr × Tr)} (h : LenI l (p :: rest)) : LenI l rest := by
  obtain ⟨A, B, e, h1, h2⟩ := h
  cases A with
  | nil =>
    rw [List.nil_append] at e
    subst e
    exact ⟨[], rest, rfl, by rw [List.length_cons] at h1; omega, trivial⟩
  | cons a A =>
    cases e
    exact ⟨A, B, rfl, h1, h2.2⟩
theorem LenI.bind {l l' : Tab} {rest : List (Tr × Tr)} (h : LenI l rest) (hl : l'.length = l.length + 1) : LenI l' rest := by
  obtain ⟨A, B, e, h1, h2⟩ := h
  refine ⟨[], rest, rfl, ?_, trivial⟩
  have := h2.len
  rw [hl, e, List.length_append]
  show _ ≤ SB l.length + EB l.length
  omega
theorem stair_push {l : Tab} {D : Nat} {A : List (Tr × Tr)} (h : Stair l D A) : ∀ {zs : List (Tr × Tr)}, zs.length ≤ 2 → (∀ z ∈ zs, (z.1.fill (lk l)).dep + A.length + 1 ≤ D ∧ (z.2.fill (lk l)).dep + A.length + 1 ≤ D) → Stair l D (zs ++ A)
  | [], _, _ => h
  | [z], _, f => by
    obtain ⟨a, b⟩ := f z (by simp)
    exact ⟨⟨by show _ + A.length ≤ D; omega, by show _ + A.length ≤ D; omega⟩, h⟩
  | [z, z'], _, f => by
    obtain ⟨a, b⟩ := f z (by simp)
    obtain ⟨a', b'⟩ := f z' (by simp)
    refine ⟨⟨?_, ?_⟩, ⟨by show _ + A.length ≤ D; omega, by show _ + A.length ≤ D; omega⟩, h⟩
    · show _ + (A.length + 1) ≤ D; omega
    · show _ + (A.length + 1) ≤ D; omega
theorem LenI.split {l : Tab} {t u : Tr} {rest zs : List (Tr × Tr)} {d : Nat} (h : LenI l ((t, u) :: rest)) (hz : zs.length ≤ 2) (ht : (t.fill (lk l)).dep ≤ EB l.length) (hu : (u.fill (lk l)).dep ≤ EB l.length)
    (hd : d = max (t.fill (lk l)).dep (u.fill (lk l)).dep) (f : ∀ z ∈ zs, (z.1.fill (lk l)).dep + 1 ≤ d ∧ (z.2.fill (lk l)).dep + 1 ≤ d) : LenI l (zs ++ rest) := by
  obtain ⟨A, B, e, h1, h2⟩ := h
  cases A with
  | nil =>
    rw [List.nil_append] at e
    subst e
    exact ⟨zs, rest, rfl, by rw [List.length_cons] at h1; omega, by
      have := stair_push (l := l) (D := EB l.length) (A := []) trivial hz fun z hz' => by
        obtain ⟨a, b⟩ := f z hz'
        simp only [List.length_nil]; omega
      rwa [List.append_nil] at this⟩
  | cons a A =>
    cases e
    obtain ⟨⟨a1, a2⟩, h3⟩ := h2
    refine ⟨zs ++ A, B, (List.append_assoc _ _ _).symm, h1, stair_push h3 hz fun z hz' => ?_⟩
    obtain ⟨a, b⟩ := f z hz'
    simp only at a1 a2
    omega
theorem LenI.args {l : Tab} {t u p o : Tr} {rest : List (Tr × Tr)} (h : LenI l ((t, u) :: rest)) (ht : (t.fill (lk l)).dep ≤ EB l.length) (hu : (u.fill (lk l)).dep ≤ EB l.length) (hp : ∀ y ∈ p.names, lk l y = none) (ho : ∀ y ∈ o.names, lk l y = none)
    (hpd : p.dep ≤ max (t.fill (lk l)).dep (u.fill (lk l)).dep) (hod : o.dep ≤ max (t.fill (lk l)).dep (u.fill (lk l)).dep) : LenI l ((p.args.zip o.args).reverse ++ rest) := by
  refine h.split (by rw [List.length_reverse, List.length_zip]; have := p.args_len; omega) ht hu rfl fun z hz => ?_
  obtain ⟨a, b⟩ := List.of_mem_zip (List.mem_reverse.mp hz)
  rw [Tr.fill_id fun x hx => hp x (Tr.names_arg a hx), Tr.fill_id fun x hx => ho x (Tr.names_arg b hx)]
  have := Tr.dep_arg a
  have := Tr.dep_arg b
  omega
theorem stepQ_ok {NV : List Str} {l : Tab} {t u p o : Tr} {rest : List (Tr × Tr)} {m : Nat} {r : Option Tab} (hU : UI NV l ((t, u) :: rest)) (h : LenI l ((t, u) :: rest)) (hp : ∀ y ∈ p.names, y ∈ NV ∧ lk l y = none) (ho : ∀ y ∈ o.names, y ∈ NV ∧ lk l y = none)
    (hpd : p.dep ≤ max (t.fill (lk l)).dep (u.fill (lk l)).dep) (hod : o.dep ≤ max (t.fill (lk l)).dep (u.fill (lk l)).dep) (hm : (match stepQ l rest p o with | .out r => some r | .go l rl => runU m l rl) = some r) :
    match stepQ l rest p o with | .out r' => r = r' | .go l' rl' => runU m l' rl' = some r ∧ UI NV l' rl' ∧ LenI l' rl' := by
  obtain ⟨⟨a1, a2⟩, b1, b2⟩ := hU.prs t u List.mem_cons_self
  have dO : o.dep ≤ EB l.length := by omega
  have dp : p.dep ≤ EB l.length := by omega
  have nv : ∀ q : Tr, q = p → q.isV = false → (match (if q.hd ≠ o.hd then Stp.out none else .go l ((q.args.zip o.args).reverse ++ rest)) with | .out r => some r | .go l rl => runU m l rl) = some r →
      (match (if q.hd ≠ o.hd then Stp.out none else .go l ((q.args.zip o.args).reverse ++ rest)) with | .out r' => r = r' | .go l' rl' => runU m l' rl' = some r ∧ UI NV l' rl' ∧ LenI l' rl') := fun q eq hq hmq => by
    subst eq
    by_cases z : q.hd = o.hd
    · rw [if_neg (by simp [z])] at hmq ⊢
      exact ⟨hmq, hU.tail.split hp ho dp dO, h.args a2 b2 (fun y hy => (hp y hy).2) (fun y hy => (ho y hy).2) hpd hod⟩
    · rw [if_pos z] at hmq ⊢
      exact (Option.some.inj hmq).symm
  cases p with
  | v x =>
    obtain ⟨x1, x2⟩ := hp x (by simp [Tr.names])
    unfold stepQ at hm ⊢
    by_cases z : x ∈ o.names
    · simp only [if_pos z] at hm ⊢
      exact (Option.some.inj hm).symm
    · simp only [if_neg z] at hm ⊢
      exact ⟨hm, hU.tail.bind x1 x2 ho z dO, h.tail.bind (by rw [bindT_eq x2]; simp)⟩
  | a => exact nv _ rfl rfl hm
  | b => exact nv _ rfl rfl hm
  | i s => exact nv _ rfl rfl hm
  | m s r => exact nv _ rfl rfl hm
/-- the loop's state: turns that are left, the pairs, the table -/
def MW (K : PySem.W.Frag) (NV : List Str) (r : Option Tab) (q : Addr) (H2 : Hp) (m : Nat) (σ : L2.St) (H : Hp) : Prop := ∃ l rl x0 x1 x4 x5 a kvs ys, σ = [x0, x1, some (V.ref a), some (V.ref q), x4, x5] ∧ runU m l rl = some r ∧ UI NV l rl ∧ LenI l rl ∧ H a = some (.dK kvs) ∧ TabK K H kvs l ∧ H q = some (.lst ys) ∧ TdAll K H ys (rl.reverse.map pairD) ∧ Ext [] H2 H
theorem TdAll.unsnoc {K : PySem.W.Frag} {H : Hp} {d : PyData} : ∀ {ds : List PyData} {vs : List V}, TdAll K H vs (ds ++ [d]) → ∃ vs' v, vs = vs' ++ [v] ∧ TdAll K H vs' ds ∧ Td K H v d
  | [], _, .cons h .nil => ⟨[], _, rfl, .nil, h⟩
  | _ :: _, _, .cons h r => by
    obtain ⟨vs', v, rfl, r', h'⟩ := r.unsnoc
    exact ⟨_ :: vs', v, rfl, .cons h r', h'⟩
theorem pair_shaped {NS : List Str} (n : NsOk NS) : ∀ {ps : List (Tr × Tr)}, (∀ p ∈ ps, (∀ x ∈ p.1.names, x ∈ NS) ∧ (∀ x ∈ p.2.names, x ∈ NS) ∧ p.1.dep ≤ 60 ∧ p.2.dep ≤ 60) → PyData.canLayAll0 (ps.map pairD) = true ∧ PyData.depthAll (ps.map pairD) ≤ 61
  | [], _ => ⟨by rw [List.map_nil, PyData.canLayAll0], by rw [List.map_nil, PyData.depthAll]; omega⟩
  | p :: ps, h => by
    obtain ⟨h1, h2, h3, h4⟩ := h p List.mem_cons_self
    obtain ⟨i1, i2⟩ := pair_shaped n (ps := ps) fun q hq => h q (List.mem_cons_of_mem _ hq)
    constructor
    · rw [List.map_cons, PyData.canLayAll0, i1]
      simp only [pairD, Tr.lay_tup, Tr.lay_cons, Tr.lay_nil, Tr.lay_data p.1 fun x q => n.ok x (h1 x q), Tr.lay_data p.2 fun x q => n.ok x (h2 x q), Bool.and_self]
    · rw [List.map_cons, PyData.depthAll]
      have : (pairD p).depth = max p.1.dep p.2.dep + 1 := by simp [pairD, PyData.depth, PyData.depthAll, Tr.depth_data]
      omega
theorem TdAll.ofGet {K : PySem.W.Frag} {H : Hp} : ∀ {vs : List V} {ds : List PyData}, vs.length = ds.length → (∀ (j : Nat) (d : PyData), ds[j]? = some d → ∃ v, vs[j]? = some v ∧ Td K H v d) → TdAll K H vs ds
  | [], [], _, _ => .nil
  | v :: vs, d :: ds, h, f => by
    obtain ⟨v', e, h'⟩ := f 0 d rfl
    cases e
    exact .cons h' (TdAll.ofGet (by simpa using h) fun j d' e => f (j + 1) d' (by simpa using e))
theorem prs_td {K : PySem.W.Frag} {H : Hp} {wp wo ws : List V} {ps os : List Tr} (h : PrsF K H wp wo ws (min wp.length wo.length)) (hp : TdAll K H wp (ps.map Tr.data)) (ho : TdAll K H wo (os.map Tr.data)) : TdAll K H ws ((ps.zip os).map pairD) := by
  have l1 := hp.length
  have l2 := ho.length
  rw [List.length_map] at l1 l2
  refine TdAll.ofGet (by rw [List.length_map, List.length_zip, h.1, l1, l2]) fun j d hd => ?_
  rw [List.getElem?_map] at hd
  cases hz : (ps.zip os)[j]? with
  | none => rw [hz] at hd; cases hd
  | some z =>
    rw [hz] at hd
    cases hd
    obtain ⟨p, o⟩ := z
    obtain ⟨h1, h2⟩ := List.getElem?_zip_eq_some.mp hz
    have j1 := (List.getElem?_eq_some_iff.mp h1).1
    have j2 := (List.getElem?_eq_some_iff.mp h2).1
    obtain ⟨T, x, y, e1, e2, e3, e4⟩ := h.2 j (by omega)
    obtain ⟨d1, f1, g1⟩ := hp.get e3
    obtain ⟨d2, f2, g2⟩ := ho.get e4
    rw [List.getElem?_map, h1] at f1
    rw [List.getElem?_map, h2] at f2
    cases f1
    cases f2
    exact ⟨_, e1, .tup e2 (.cons g1 (.cons g2 .nil))⟩
theorem stepQ_nv {l : Tab} {rest : List (Tr × Tr)} {p o : Tr} (h : p.isV = false) : stepQ l rest p o = if p.hd ≠ o.hd then .out none else .go l ((p.args.zip o.args).reverse ++ rest) := by
  cases p with
  | v x => cases h
  | _ => rfl
theorem args_hd {p o : Tr} (h1 : p.isV = false) (h2 : o.isV = false) (h : p.hd = o.hd) : p.args.length = o.args.length := by
  have k : ∀ x y : Str, x ≠ y → x = y → False := fun x y n e => n e
  cases p <;> cases o <;> first | rfl | (cases h1; done) | (cases h2; done) | exact absurd h (by show (_ : Str) ≠ _; simp only [Tr.hd]; decide)
theorem putL_fresh {l : Tab} {n : Str} {t : Tr} (h : lk l n = none) : putL l n t = l ++ [(n, t)] := by unfold putL; rw [h]; rfl
theorem lk_take {l : Tab} (nd : (l.map (·.1)).Nodup) (g : Tr → Tr) {j : Nat} {n : Str} {t : Tr} (h : l[j]? = some (n, t)) : lk ((l.take j).map fun p => (p.1, g p.2)) n = none := by
  refine lk_none.mpr fun hm => ?_
  rw [List.map_map] at hm
  obtain ⟨⟨n', t'⟩, hm', e⟩ := List.mem_map.mp hm
  have e' : n' = n := e
  subst e'
  obtain ⟨i, hi, hit⟩ := List.mem_iff_getElem.mp hm'
  rw [List.length_take] at hi
  rw [List.getElem_take] at hit
  obtain ⟨hj, hjt⟩ := List.getElem?_eq_some_iff.mp h
  have := List.pairwise_iff_getElem.mp nd i j (by rw [List.length_map]; omega) (by rw [List.length_map]; exact hj) (by omega)
  rw [List.getElem_map, List.getElem_map, hit, hjt] at this
  exact this rfl
mutual
theorem Td.mapH {K : PySem.W.Frag} {H H' : Hp} (f : ∀ b xs, tupF K H b = some xs → tupF K H' b = some xs) {v : V} {d : PyData} : Td K H v d → Td K H' v d
  | .non => .non
  | .bl b => .bl b
  | .int i => .int i
  | .str x => .str x
  | .tup h r => .tup (f _ _ h) (TdAll.mapH f r)
theorem TdAll.mapH {K : PySem.W.Frag} {H H' : Hp} (f : ∀ b xs, tupF K H b = some xs → tupF K H' b = some xs) {vs : List V} {ds : List PyData} : TdAll K H vs ds → TdAll K H' vs ds
  | .nil => .nil
  | .cons h r => .cons (Td.mapH f h) (TdAll.mapH f r)
end
theorem TabK.mapH {K : PySem.W.Frag} {H H' : Hp} (f : ∀ b xs, tupF K H b = some xs → tupF K H' b = some xs) : ∀ {kvs : List (Key × V)} {l : Tab}, TabK K H kvs l → TabK K H' kvs l
  | _, _, .nil => .nil
  | _, _, .cons h r => .cons (Td.mapH f h) (r.mapH f)
theorem tupF_unlock {K : PySem.W.Frag} {H : Hp} {d : Addr} {o : Obj} {kvs ks : List (Key × V)} (hd : H d = some (.frz o (.dK kvs))) (b : Addr) (xs : List V) (h : tupF K H b = some xs) : tupF K (upd H d (.dK ks)) b = some xs := by
  unfold tupF at h ⊢
  split at h
  · rename_i hx; rw [dif_pos hx]; exact h
  · rename_i hx
    rw [dif_neg hx]
    by_cases e : b = d
    · subst e
      rw [hd] at h
      cases h
    · rw [upd_ne e]; exact h
def tailT (K KC : PySem.W.Frag) (NS : List Str) : TS :=
  tIfS (tTest (tOp rEq (tOp (rIxF K) (tVar 0) (tC (V.int 0))) (tC (V.str "v"))))
    (tSeq (tIfS (tTest (tOp (rInS K false) (tOp (rIxF K) (tVar 0) (tC (V.int 1))) (tCall (spHoles K NS 64) [] C8.E0 (tCons (tVar 1) tNil)))) (tRet (tC V.non)) tNext)
      (tSeq (tLockS (tAsg (tDcF (iItems (tVar 2)) (gTup K 2 (gCons (gName 4) (gCons (gName 5) gNil))) tYes (tVar 4) (tCall (spFill K 64) [] C8.E0 (tCons (tVar 5) (tCons (tDisp [(tOp (rIxF K) (tVar 0) (tC (V.int 1)), tVar 1)]) tNil))) [4, 5]) (gName 2)))
        (sDPutF (tVar 2) (tOp (rIxF K) (tVar 0) (tC (V.int 1))) (tVar 1))))
    (tIfS (tOr (tTest (tOp rNe (tOp (rIxF K) (tVar 0) (tC (V.int 0))) (tOp (rIxF K) (tVar 1) (tC (V.int 0))))) (tTest (tOp rNe (tCB (rLenT K) (tCons (tVar 0) tNil)) (tCB (rLenT K) (tCons (tVar 1) tNil)))))
      (tRet (tC V.non))
      (tDrop (tBM KC "list" rExtF (tVar 3) (tCons (tLZip K (tCons (tSl (rSlF K) (tVar 0) (tPart (tC (V.int 1))) tNoPart) (tCons (tSl (rSlF K) (tVar 1) (tPart (tC (V.int 1))) tNoPart) tNil))) tNil))))
theorem made_tail {KC : PySem.W.Frag} {r : Option Tab} {q : Addr} {H2 Hx : Hp} {m : Nat} {l : Tab} {rest : List (Tr × Tr)} {p o : Tr} {vp vo : V} {a : Addr} {kvs : List (Key × V)} {ys : List V} {x4 x5 : Option V} {D : Ends} (hsub : ∀ x ∈ NV, x ∈ NS) (hNV : NV.length ≤ 4) (hK : KC = K)
    (hnx : ∀ σ' H', MW K NV r q H2 m σ' H' → D.nx σ' H') (hrt : r = none → ∀ H', Ext [] H2 H' → D.rt .non H') (hq : match stepQ l rest p o with | .out r' => r = r' | .go l' rl' => runU m l' rl' = some r ∧ UI NV l' rl' ∧ LenI l' rl') (hR : rest.length ≤ 200)
    (hp : Td K Hx vp p.data) (ho : Td K Hx vo o.data) (hpn : ∀ y ∈ p.names, y ∈ NV ∧ lk l y = none) (hon : ∀ y ∈ o.names, y ∈ NV ∧ lk l y = none) (hpd : p.dep ≤ 49) (hod : o.dep ≤ 49) (hno : p.isV = false → o.isV = false) (hU : UI NV l rest) (hk : Hx a = some (.dK kvs)) (htk : TabK K Hx kvs l) (hys : Hx q = some (.lst ys)) (hall : TdAll K Hx ys (rest.reverse.map pairD)) (e2 : Ext [] H2 Hx) (hq2 : H2 q = none) :
    hideS (tailT K KC NS) D [some vp, some vo, some (V.ref a), some (V.ref q), x4, x5] Hx := by
  show tailT K KC NS D _ Hx
  unfold tailT
  cases hv : p.isV with
  | true =>
    cases p with
    | v x =>
      obtain ⟨ap, rfl, hap⟩ := td_v hp
      obtain ⟨x1, x2⟩ := hpn x (by simp [Tr.names])
      walk_at "rd"
      refine ⟨_, hap, _, atI_0, rfl, ?_⟩
      rw [if_pos rfl]
      refine ⟨_, hap, _, atI_1, vo, o, rfl, ho, by omega, fun y hy => hsub y (hon y hy).1, fun p1 ns H1 e1 h1 hns => ⟨x, rfl, p1, rfl, ns, h1, ?_⟩⟩
      unfold stepQ at hq
      by_cases hx : x ∈ o.names
      · rw [if_pos ((hns x).mpr hx)]
        refine hrt ?_ H1 (e2.trans e1)
        simpa [hx] using hq
      · rw [if_neg fun z => hx ((hns x).mp z)]
        simp only [if_neg hx] at hq
        refine ⟨a, kvs, e1.dK0 hk, fun od => ?_⟩
        have hk1 := e1.dK0 hk
        have h1a : Hx a = some (.dK kvs) := hk
        walk_at "rd"
        refine ⟨od, kvs, upd_same, ?_⟩
        have hloc := Ext.lockD (o := od) hk1
        have hlen := htk.length
        have hlen4 := hU.len
        refine dc_go walk_items (fun D j ks H' => Ext [] (upd H1 a (.frz od (.dK kvs))) H' ∧ TabK K H' ks ((l.take j).map fun p => (p.1, p.2.fill (one1 x o)))) (fun D' hD => ⟨Ext.new hD, .nil⟩) (fun D' j ks H' ⟨e, _⟩ => e.frz _ _ _ upd_same) (fun D' j z ks H' H'' hD hj ⟨e, htab⟩ hl2 hks y => ?_) fun D' ks H' hD ⟨e, htab⟩ hks hl2 => ?_
        · refine pair_tgt y fun k v hk' hv' eT => ?_
          cases hkv : kvs[j]? with
          | none => rw [hkv] at hk'; cases hk'
          | some kv =>
            obtain ⟨key, val⟩ := kv
            rw [hkv] at hk' hv'
            cases hk'
            cases hv'
            obtain ⟨n, t, rfl, hlt, htd⟩ := htk.get hkv
            have hvals := hU.vals n t (List.mem_of_getElem? hlt)
            have hE : EB l.length ≤ 49 := EB_le (Nat.le_trans hU.len hNV)
            have eL := e.trans eT
            have hapL := tupF_ext eL (tupF_ext hloc (tupF_ext e1 hap))
            walk_at "rd"
            refine ⟨_, [val], ⟨rfl, rfl⟩, val, [], rfl, rfl, fun pd hpd => ?_⟩
            have en : Ext [] H'' (upd H'' pd (.dK [])) := Ext.new hpd
            have em : Ext [] H'' (upd (upd H'' pd (.dK [])) pd (.dK (mergeK [] [((Sum.inr x : Key), vo)]))) := en.over hpd (Ext.setD List.mem_cons_self upd_same)
            refine ⟨_, tupF_ext en hapL, _, atI_1, upd_same, [(Sum.inr x, vo)], rfl, by simp, val, t, pd, [(x, o)], rfl, (((htd.ext e1).ext hloc).ext eL).ext em, by have := hvals.2; omega, ⟨_, dctF_dK upd_same, .cons ((((ho.ext e1).ext hloc).ext eL).ext em) .nil⟩, fun v' H5 e5 h5 => ?_⟩
            have hks5 := e5.dK0 (em.dK0 (eT.dK0 hks))
            have hs1 : (100 : Nat) < sizeLine := by decide
            have eAll : Ext [] (upd H1 a (.frz od (.dK kvs))) H5 := eL.trans (em.trans e5)
            have eS : Ext [D'] H5 (upd H5 D' (.dK (putK ks (Sum.inr n) v'))) := Ext.setD List.mem_cons_self hks5
            refine ⟨ks, Sum.inr n, rfl, hks5, by omega, putK ks (Sum.inr n) v', by have := length_putK ks (Sum.inr n) v'; omega, upd_same, eAll.over hD eS, ?_⟩
            rw [take_snoc hlt, List.map_append, List.map_singleton, ← putL_fresh (lk_take hU.nd (Tr.fill (one1 x o)) hlt)]
            exact ((((htab.ext eT).ext em).ext e5).put h5).ext eS
        · have hfr : H' a = some (.frz od (.dK kvs)) := e.frz _ _ _ upd_same
          have eU := Ext.unlockD hk1 e
          have hDa : D' ≠ a := fun z => by rw [z, upd_same] at hD; cases hD
          have hD1 : H1 D' = none := by rw [upd_ne hDa] at hD; exact hD
          have hs1 : (100 : Nat) < sizeLine := by decide
          refine ⟨hfr, _, tupF_ext eU (tupF_ext e1 hap), _, atI_1, D', rfl, x, rfl, ks, by rw [upd_ne hDa]; exact hks, by omega, fun H4 e4 h4 => hnx _ _ ?_⟩
          have e14 : Ext [] H1 H4 := eU.over hD1 e4
          rw [hlen, List.take_length] at htab
          exact ⟨bindT l x o, rest, _, _, _, _, D', _, ys, rfl, hq.1, hq.2.1, hq.2.2, h4, (((htab.mapH (tupF_unlock hfr)).put ((ho.ext e1).ext eU))).ext e4, e14.lst0 (e1.lst0 hys), (hall.ext e1).ext e14, (e2.trans e1).trans e14⟩
    | a => cases hv
    | b => cases hv
    | i s => cases hv
    | m s r => cases hv
  | false =>
    obtain ⟨ap, wp, rfl, hap, hwp⟩ := td_f hv hp
    obtain ⟨ao, wo, rfl, hao, hwo⟩ := td_f (hno hv) ho
    have hne := Tr.hd_v hv
    walk_at "rd"
    refine ⟨_, hap, _, atI_0, rfl, ?_⟩
    rw [if_neg fun z => hne (V.str.inj z)]
    rw [stepQ_nv hv] at hq
    refine ⟨_, hap, _, atI_0, _, hao, _, atI_0, rfl, ?_⟩
    by_cases hh : p.hd = o.hd
    · rw [if_neg (by simp [hh])]
      rw [if_neg (by simp [hh])] at hq
      have l1 := hwp.length
      have l2 := hwo.length
      rw [List.length_map] at l1 l2
      have l3 := args_hd hv (hno hv) hh
      refine ⟨_, hap, _, hao, ?_⟩
      have el : ((V.str p.hd :: wp).length : Int) = ((V.str o.hd :: wo).length : Int) := by rw [List.length_cons, List.length_cons]; omega
      rw [if_neg (by rw [el]; simp)]
      subst hK
      refine ⟨tyV_lst hys, _, hap, fun p1 H1 e1 h1 => ⟨_, tupF_ext e1 hao, fun p3 H3 e3 h3 => ?_⟩⟩
      rw [cutV_1] at h1 h3
      have e13 := e1.trans e3
      have la := p.args_len
      refine ⟨p1, p3, ⟨rfl, rfl⟩, wp, tupF_ext e3 h1, wo, h3, by omega, fun S H5 ws hS e5 h5 hprs => ⟨ys, (e13.trans e5).lst0 hys, ws, h5, ?_, fun H6 e6 h6 => hnx _ _ ?_⟩⟩
      · have hs1 : (1000 : Nat) < sizeLine := by decide
        have l4 := hall.length
        rw [List.length_map, List.length_reverse] at l4
        have := hprs.1
        omega
      · have e15 := e13.trans e5
        have qa : a ∉ [q] := fun z => by
          have z' : a = q := by simpa using z
          rw [z', hys] at hk
          cases hk
        refine ⟨l, _, _, _, _, _, a, kvs, _, rfl, hq.1, hq.2.1, hq.2.2, e6.dK (e15.dK0 hk) qa, (htk.ext e15).ext e6, h6, ?_, ?_⟩
        · rw [List.reverse_append, List.reverse_reverse, List.map_append]
          exact ((hall.ext e15).ext e6).append ((prs_td hprs (hwp.ext e15) (hwo.ext e15)).ext e6)
        · exact Ext.over (e2.trans e15) hq2 e6
    · rw [if_pos (by simp [hh])]
      rw [if_pos hh] at hq
      exact hrt hq _ e2
theorem ok_made (F : Dn K mg "made_one" s_made_one f fd c) (B : Bl mg) (hN : NsOk NS) (hNV : NV.length ≤ 4) (hsub : ∀ x ∈ NV, x ∈ NS) (G_holes : Cal P w K mg base 64 "holes" (spHoles K NS 64)) (G_filled : Cal P w K mg base 64 "filled" (spFill K 64)) : Cal P w K mg base 65 "made_one" (spMade K NV) := by
  refine F.cal (ps := ["one", "other"]) (fun _ _ _ _ _ _ us hl => match us, hl with | [_, _], _ => rfl) sc_made_one (fun vs H Q E h => ?_) (fun A outer s H vs Q E hr h => ?_)
  · obtain ⟨_, _, _, _, rfl, _⟩ := h; rfl
  obtain ⟨v, u, s1, t1, rfl, hs, ht, hUI, q0, q1⟩ := h
  refine ⟨_, (pss_cons (ps_par (i := 2) (j := 3) (by rfl) sc_made_one.nd rfl rfl (by decide) rfl rfl (pa_cons pe_dnewF (pa_cons (pe_lstF (pa_cons (pe_tupK K (pa_cons (pv 0) (pa_cons (pv 1) pa_nil))) pa_nil)) pa_nil)) (by rfl))
    (pss_cons (ps_while PassesOwn.never (pt_cmpR (op_neLK K hr.units) (pv 3) (pe_lstF pa_nil) (nomark _)) (pss_cons (ps_asg (pe_bm0 PySem.F.plainAttrs_list PySem.F.slot_list_pop PySem.F.type_list_pop mt_popF (pv 3)) (pg_tupK K (n := 2) (by rfl) (pgs_cons (pg_name (i := 0) sc_made_one.nd rfl (by first | exact Or.inl rfl | exact Or.inr rfl)) (pgs_cons (pg_name (i := 1) sc_made_one.nd rfl (by first | exact Or.inl rfl | exact Or.inr rfl)) pgs_nil))))
    (pss_cons (ps_asg (pe_tupK K (pa_cons (C8.pe_c G_filled hr (by omega) (by rfl) (pa_cons (pv 0) (pa_cons (pv 2) pa_nil))) (pa_cons (C8.pe_c G_filled hr (by omega) (by rfl) (pa_cons (pv 1) (pa_cons (pv 2) pa_nil))) pa_nil))) (pg_tupK K (n := 2) (by rfl) (pgs_cons (pg_name (i := 0) sc_made_one.nd rfl (by first | exact Or.inl rfl | exact Or.inr rfl)) (pgs_cons (pg_name (i := 1) sc_made_one.nd rfl (by first | exact Or.inl rfl | exact Or.inr rfl)) pgs_nil))))
    (pss_cons (ps_if (pt_cmpR (op_eqK K hr.units) (pv 0) (pv 1) (nomark _)) (pss_one ps_continue) pss_nil)
    (pss_cons (ps_if (pt_cmpR op_ne (pe_ix (ix_tupK K) (pv 0) pe_int (fun _ _ => rfl)) pe_str (nomark _)) (pss_one (ps_asg (pe_tupK K (pa_cons (pv 1) (pa_cons (pv 0) pa_nil))) (pg_tupK K (n := 2) (by rfl) (pgs_cons (pg_name (i := 0) sc_made_one.nd rfl (by first | exact Or.inl rfl | exact Or.inr rfl)) (pgs_cons (pg_name (i := 1) sc_made_one.nd rfl (by first | exact Or.inl rfl | exact Or.inr rfl)) pgs_nil))))) pss_nil)
    (PSs.hide (pss_one (ps_if (pt_cmpR op_eq (pe_ix (ix_tupK K) (pv 0) pe_int (fun _ _ => rfl)) pe_str (nomark _)) (pss_cons (ps_if (pt_cmpR (op_inSK K) (pe_ix (ix_tupK K) (pv 0) pe_int (fun _ _ => rfl)) (C8.pe_c G_holes hr (by omega) (by rfl) (pa_cons (pv 1) pa_nil)) (by rfl)) (pss_one (ps_ret pe_non)) pss_nil)
    (pss_cons (ps_lockD (ps_setDcF (i := 2) (own := [("name", 4), ("tree", 5)]) rfl sc_made_one.nd rfl rfl (sw_trueD rfl rfl rfl (by decide +kernel)) (pi_items (pv 2)) (blkOk_by (own := [("name", 4), ("tree", 5)]) (N := n_made_one) (sc := defScope s_made_one) (by decide +kernel)) (fun _ _ _ _ _ => (pg_tupZ K (n := 2) (by rfl) (pgs_cons (pg_name (i := 4) sc_made_one.nd rfl (by first | exact Or.inl rfl | exact Or.inr rfl)) (pgs_cons (pg_name (i := 5) sc_made_one.nd rfl (by first | exact Or.inl rfl | exact Or.inr rfl)) pgs_nil)))) (fun _ _ _ _ _ => pts_nil) (fun _ _ _ _ _ => (pv 4)) (fun _ _ _ _ _ => (C8.pe_c G_filled hr (by omega) (by rfl) (pa_cons (pv 5) (pa_cons (pe_disp (pps_cons (pe_ix (ix_tupK K) (pv 0) pe_int (fun _ _ => rfl)) (pv 1) pps_nil) (by rfl) (by rfl) (fun z => by cases z) (by decide)) pa_nil))))))
    (pss_one (ps_dputF (hu_of hr) (pv 2) (pe_ix (ix_tupK K) (pv 0) pe_int (fun _ _ => rfl)) (pv 1) rfl)))) (pss_one (ps_if (PW.pt (pw_or (pt_cmpR op_ne (pe_ix (ix_tupK K) (pv 0) pe_int (fun _ _ => rfl)) (pe_ix (ix_tupK K) (pv 1) pe_int (fun _ _ => rfl)) (nomark _)) (pw_or1 (pt_cmpR op_ne (pe_callB (call_lenK K) (by rfl) B.b_len (by decide +kernel) (pa_cons (pv 0) pa_nil)) (pe_callB (call_lenK K) (by rfl) B.b_len (by decide +kernel) (pa_cons (pv 1) pa_nil)) (nomark _))))) (pss_one (ps_ret pe_non)) (pss_one (ps_expr (pe_bm PySem.F.plainAttrs_list PySem.F.slot_list_extend PySem.F.type_list_extend mt_extF (pv 3) (pa_cons (pe_lzipK K rfl (by rfl) B.b_zip (by rfl) B.b_list (pa_cons (pe_slice (sl_tupK K) (pv 0) (po_some pe_int) po_none) (pa_cons (pe_slice (sl_tupK K) (pv 1) (po_some pe_int) po_none) pa_nil))) pa_nil))))))))))))))
    (pss_one (ps_ret (pv 2))))), ?_⟩
  walk_at "rd"
  intro p1 H1 n1 e1 h1
  refine ⟨by decide, fun p2 H2 e2 h2 => ⟨by decide, fun p3 H3 n3 e3 h3 => ⟨_, _, ⟨rfl, rfl⟩, ?_⟩⟩⟩
  obtain ⟨N, r, hrun⟩ := run_ends hNV _ _ [] [(s1, t1)] hUI (Nat.le_refl _) (Nat.le_refl _)
  have e03 := (e1.trans e2).trans e3
  have hne0 : Ext [] H H2 := e1.trans e2
  have hp3 : H2 p3 = none := n3
  refine ⟨MW K NV r p3 H2, ⟨N, [], [(s1, t1)], _, _, _, _, p1, [], [.ref p2], rfl, hrun, hUI, ⟨[], [(s1, t1)], rfl, Nat.le_refl _, trivial⟩, (e2.trans e3).dK0 h1, .nil, h3, .cons (.tup (tupF_ext e3 (by exact h2)) (.cons (hs.ext e03) (.cons (ht.ext e03) .nil))) .nil, (Ext.refl [] H2).over n3 (by exact e3.any)⟩, ?_⟩
  rintro m σ' H4 ⟨l, rl, x0, x1, x4, x5, a, kvs, ys, rfl, hm, hU, hLen, hk, htk, hys, hall, e4⟩
  have hE : EB l.length ≤ 49 := EB_le (Nat.le_trans hU.len hNV)
  have hpr : ∀ p ∈ rl.reverse, (∀ x ∈ p.1.names, x ∈ NS) ∧ (∀ x ∈ p.2.names, x ∈ NS) ∧ p.1.dep ≤ 60 ∧ p.2.dep ≤ 60 := fun p hp => by
    obtain ⟨⟨a1, a2⟩, b1, b2⟩ := hU.prs p.1 p.2 (List.mem_reverse.mp hp)
    have := Tr.dep_fill_ge (lk l) p.1
    have := Tr.dep_fill_ge (lk l) p.2
    exact ⟨fun x hx => hsub x (a1 x hx), fun x hx => hsub x (b1 x hx), by omega, by omega⟩
  obtain ⟨sh1, sh2⟩ := pair_shaped hN hpr
  have shl : SeqAt.shaped (.list (rl.reverse.map pairD)) = true := by
    unfold SeqAt.shaped
    rw [PyData.canLay0, sh1, PyData.depth, decide_eq_true (by omega)]
    rfl
  have she : SeqAt.shaped (.list []) = true := by decide +kernel
  have q1' := q1
  have q0' := q0
  clear q0 q1
  walk_at "rd"
  refine ⟨by decide, fun p5 H5 n5 e5 h5 => ⟨ys, e5.lst0 hys, _, h5, _, hall.ext e5, _, .nil, shl, she, ?_⟩⟩
  have e25 := e4.trans e5
  have e05 := hne0.trans e25
  obtain ⟨m', rfl⟩ : ∃ m', m = m' + 1 := by
    cases m with
    | zero => cases hm
    | succ m' => exact ⟨m', rfl⟩
  cases rl with
  | nil =>
    have er : r = some l := by
      have : runU (m' + 1) l [] = some (some l) := rfl
      rw [this] at hm
      exact (Option.some.inj hm).symm
    subst er
    rw [List.reverse_nil, List.map_nil, Tr.eqvAll_nil, if_neg (by decide)]
    exact q1' N l hrun hU a H5 e05 ⟨kvs, dctF_dK (e5.dK0 hk), htk.ext e5⟩
  | cons pr rest =>
    obtain ⟨t, u⟩ := pr
    have hne : PyData.eqvAll (((t, u) :: rest).reverse.map pairD) [] = false := by
      rw [List.reverse_cons, List.map_append]
      cases (rest.reverse.map pairD) with
      | nil => exact Tr.eqvAll_cn _ _
      | cons z zs => exact Tr.eqvAll_cn _ _
    rw [hne, if_pos (by decide)]
    rw [List.reverse_cons, List.map_append] at hall
    obtain ⟨ys', y, rfl, hall', hy⟩ := hall.unsnoc
    refine ⟨fun σ' H' => ∃ m2, m2 < m' + 1 ∧ MW K NV r p3 H2 m2 σ' H', fun σ' H' h => h, tyV_lst (e5.lst0 hys), _, e5.lst0 hys, y, by simp, fun H6 e6 h6 => ?_⟩
    rw [List.dropLast_concat] at h6
    cases hy with
    | tup hy1 hy2 =>
      cases hy2 with
      | cons ht1 hy2 =>
        cases hy2 with
        | cons hu1 hy2 =>
          cases hy2
          obtain ⟨⟨a1, a2⟩, b1, b2⟩ := hU.prs t u List.mem_cons_self
          have dt := Tr.dep_fill_ge (lk l) t
          have du := Tr.dep_fill_ge (lk l) u
          have e56 := e5.any.trans e6
          have hka : H6 a = some (.dK kvs) := by
            refine e6.dK (e5.dK0 hk) fun z => ?_
            have z' : a = p3 := by simpa using z
            rw [z', hys] at hk
            cases hk
          have hT6 : TabA K H6 a l := ⟨kvs, dctF_dK hka, (htk.ext e5).ext e6⟩
          refine ⟨_, rfl, _, tupF_ext e56 hy1, rfl, _, _, rfl, _, _, rfl, rfl, _, t, a, l, rfl, ht1.ext e56, by omega, hT6, fun v1 H7 e7 h7 => ⟨_, u, a, l, rfl, (hu1.ext e56).ext e7, by omega, hT6.ext0 e7, fun v2 H8 e8 h8 => ⟨by decide, fun p9 H9 e9 h9 => ⟨_, h9, rfl, _, _, rfl, _, _, rfl, rfl, ?_⟩⟩⟩⟩
          have fv1 : Td K H9 v1 (t.fill (lk l)).data := (h7.ext e8).ext e9
          have fv2 : Td K H9 v2 (u.fill (lk l)).data := h8.ext e9
          refine ⟨_, _, fv1, fv2, Tr.shaped hN (fun x hx => hsub x (hU.fresh a1 x hx).1) (by omega), Tr.shaped hN (fun x hx => hsub x (hU.fresh b1 x hx).1) (by omega), ?_⟩
          refine ⟨_, rfl, ?_⟩
          rw [if_neg Bool.false_ne_true, Tr.eqv_data]
          by_cases heq : t.fill (lk l) = u.fill (lk l)
          · rw [if_pos (by simp [heq])]
            refine ⟨m', Nat.lt_succ_self _, l, rest, _, _, _, _, a, kvs, ys', rfl, ?_, hU.tail, ?_, ?_, ?_, ?_, ?_, ?_⟩
            · have hm2 : (match stepP l rest (t.fill (lk l)) (u.fill (lk l)) with | .out r => some r | .go l rl => runU m' l rl) = some r := hm
              unfold stepP at hm2
              rw [if_pos heq] at hm2
              exact hm2
            · exact hLen.tail
            · exact ((e7.trans e8).trans e9).dK0 hka
            · exact (((htk.ext e5).ext e6).ext (e7.trans e8)).ext e9
            · exact ((e7.trans e8).trans e9).lst0 h6
            · exact (((hall'.ext e5).ext e6).ext (e7.trans e8)).ext e9
            · exact (Ext.over e25 hp3 e6).trans ((e7.trans e8).trans e9)
          · rw [if_neg (by simp [heq])]
            have hk9 := ((e7.trans e8).trans e9).dK0 hka
            have htk9 := (((htk.ext e5).ext e6).ext (e7.trans e8)).ext e9
            have hys9 := ((e7.trans e8).trans e9).lst0 h6
            have hall9 := (((hall'.ext e5).ext e6).ext (e7.trans e8)).ext e9
            have e29 := (Ext.over e25 hp3 e6).trans ((e7.trans e8).trans e9)
            have hm2 : (match stepP l rest (t.fill (lk l)) (u.fill (lk l)) with | .out r => some r | .go l rl => runU m' l rl) = some r := hm
            unfold stepP at hm2
            rw [if_neg heq] at hm2
            obtain ⟨g1, w1, ev1, hg1⟩ := td_hd fv1
            subst ev1
            refine ⟨g1, rfl, _, hg1, _, atI_0, rfl, ?_⟩
            by_cases hv : (t.fill (lk l)).isV = true
            · rw [if_neg (by rw [Tr.hd_iff.mpr hv]; simp)]
              rw [if_pos hv] at hm2
              refine made_tail (KC := K) hsub hNV rfl (fun σ' H' h => ⟨m', Nat.lt_succ_self _, h⟩) (fun hr0 H' e' => ?_) (stepQ_ok hU hLen (hU.fresh a1) (hU.fresh b1) (Nat.le_max_left _ _) (Nat.le_max_right _ _) hm2) (hLen.tail.le (Nat.le_trans hU.len hNV)) fv1 fv2 (hU.fresh a1) (hU.fresh b1) (by omega) (by omega) (fun z => by rw [hv] at z; cases z) hU.tail hk9 htk9 hys9 hall9 e29 hp3
              subst hr0
              exact q0' N hrun _ (hne0.trans e')
            · rw [if_pos (by simp; exact fun z => hv (Tr.hd_iff.mp z))]
              rw [if_neg hv] at hm2
              refine ⟨by decide, fun p10 H10 e10 h10 => ⟨_, h10, rfl, _, _, rfl, _, _, rfl, rfl, ?_⟩⟩
              refine made_tail (KC := K) hsub hNV rfl (fun σ' H' h => ⟨m', Nat.lt_succ_self _, h⟩) (fun hr0 H' e' => ?_) (stepQ_ok hU hLen (hU.fresh b1) (hU.fresh a1) (Nat.le_max_right _ _) (Nat.le_max_left _ _) hm2) (hLen.tail.le (Nat.le_trans hU.len hNV)) (fv2.ext e10) (fv1.ext e10) (hU.fresh b1) (hU.fresh a1) (by omega) (by omega) (fun z => by cases hx : (t.fill (lk l)).isV with | false => rfl | true => exact absurd hx hv) hU.tail (e10.dK0 hk9) (htk9.ext e10) (e10.lst0 hys9) (hall9.ext e10) (e29.trans e10) hp3
              subst hr0
              exact q0' N hrun _ (hne0.trans e')
end
end Sq
set_option Elab.async false
set_option linter.all false
set_option maxRecDepth 100000
set_option maxHeartbeats 2000000
namespace Sq
open PySem PySem.Spec PyProof.Rows L2
theorem units65 {k : Nat} {A : Around} (r : Room k A) : A.units + 65 < cLine := by have := r.un; omega
theorem Ext.overS {S : List Addr} {H H1 H2 : Hp} {D : Addr} (a : Ext S H H1) (n : H D = none) (b : Ext [D] H1 H2) : Ext S H H2 := by
  refine ⟨fun c o e h m => ?_, fun c o e => b.tup c o (a.tup c o e), fun c o u e => b.frz c o u (a.frz c o u e), fun P h => b.tab P (a.tab P h)⟩
  refine b.keep c o (a.keep c o e h m) (fun z => ?_) m
  have z' : c = D := by simpa using z
  rw [z', n] at e
  cases e
theorem DiceAt.ext0 {H H' : Hp} {a : Addr} (e : Ext [] H H') : DiceAt H a → DiceAt H' a := fun ⟨x, y, z, h⟩ => ⟨x, y, z, e.lst0 h⟩
theorem hideS_eq {t : TS} : hideS t = t := rfl
end Sq
set_option Elab.async false
set_option linter.all false
set_option maxRecDepth 100000
set_option maxHeartbeats 2000000
namespace Sq
open PySem PySem.Spec PyProof.Rows L2 RZ
/-! ### the text of a tuple of data, where nothing is being told -/
def rStrT (K : PySem.W.Frag) : List V → Hp → VK → Prop := fun xs H Q => ∃ (v : V) (ds : List PyData), xs = [v] ∧ Td K H v (.tuple ds) ∧ SeqAt.shaped (.tuple ds) = true ∧ (PyData.tuple ds).showable = true ∧ (PyData.tuple ds).shown.length ≤ sizeLine ∧ Q (.str (PyData.tuple ds).shown) H
theorem call_strT {X : Cx} (K : PySem.W.Frag) (hg : X.A.guards = some []) (hu : X.A.units + 90 < cLine) (hK : X.K = K := by rfl) : CallR X (.type "str") (rStrT K) := by
  subst hK
  intro pins s σ H xs us Q I r h
  obtain ⟨v, ds, rfl, hd, sh, sw, sz, q⟩ := h
  obtain ⟨u, rfl, rx⟩ := vals1 r
  obtain ⟨as, r1⟩ := Dp.reads I _ v u hd.dp rx
  cases hd with
  | tup h1 h2 =>
    cases rx
    have hdep := SeqAt.depth_of_shaped sh
    have hlay := SeqAt.canLay_of_shaped sh
    refine str_of_reads r1 sw (PyData.noDict_hsm (PyData.hasDict_of_canLay _ hlay)) hg (by omega) (fun b o e => e) (fun h' u tk hk => ⟨.str _, H, I.kept hk, ⟨_, rfl⟩, q⟩) sz
/-! ### isinstance -/
def isTupD : PyData → Bool | .tuple _ => true | _ => false
def isStrD : PyData → Bool | .str _ => true | _ => false
theorem td_tyx {K : PySem.W.Frag} {H : Hp} {v : V} {d : PyData} (h : Td K H v d) : ∃ n, TyX K H v (.type n) ∧ PySem.W.kitOne K (.type n) (.type "tuple") = some (isTupD d) ∧ PySem.W.kitOne K (.type n) (.type "str") = some (isStrD d) := by
  cases h with
  | non => exact ⟨_, .base .non, kit_ty (by decide +kernel), kit_ty (by decide +kernel)⟩
  | bl b => exact ⟨_, .base (.bl b), kit_ty (by show kitB "bool" "tuple" = some false; decide +kernel), kit_ty (by show kitB "bool" "str" = some false; decide +kernel)⟩
  | int i => exact ⟨_, .base (.int i), kit_ty (by show kitB "int" "tuple" = some false; decide +kernel), kit_ty (by show kitB "int" "str" = some false; decide +kernel)⟩
  | str x => exact ⟨_, .base (.str x), kit_ty (by show kitB "str" "tuple" = some false; decide +kernel), kit_ty (by show kitB "str" "str" = some true; decide +kernel)⟩
  | tup e r =>
    refine ⟨"tuple", ?_, kit_ty (by show kitB "tuple" "tuple" = some true; decide +kernel), kit_ty (by show kitB "tuple" "str" = some false; decide +kernel)⟩
    rcases tupF_sq e with (e | ⟨o, e⟩) | ⟨o, its, n, e, c, _⟩
    · exact .base (.tup e)
    · exact .fTuple e
    · exact .kTuple e c
/-- isinstance(x, tuple): data of tuples, or a list -/
def rIsTup (K : PySem.W.Frag) : List V → Hp → VK → Prop := fun xs H Q => ∃ v : V, xs = [v, .ty "tuple"] ∧ ((∃ d, Td K H v d ∧ Q (.bl (isTupD d)) H) ∨ ∃ a ys, v = .ref a ∧ H a = some (.lst ys) ∧ Q (.bl false) H)
def rIsStr (K : PySem.W.Frag) : List V → Hp → VK → Prop := fun xs H Q => ∃ (v : V) (d : PyData), xs = [v, .ty "str"] ∧ Td K H v d ∧ Q (.bl (isStrD d)) H
theorem call_isTup {X : Cx} (K : PySem.W.Frag) (hK : X.K = K := by rfl) : CallR X (.builtin "isinstance") (rIsTup K) := by
  subst hK
  intro pins s σ H xs us Q I r ⟨v, e, h⟩
  subst e
  rcases h with ⟨d, hd, q⟩ | ⟨a, ys, rfl, ha, q⟩
  · obtain ⟨n, ty, k1, _⟩ := td_tyx hd
    exact call_isi pins s σ H _ us Q I r ⟨v, _, _, _, _, rfl, .ty "tuple", ty, k1, q⟩
  · exact call_isi pins s σ H _ us Q I r ⟨.ref a, _, .type "list", _, _, rfl, .ty "tuple", .base (.lst ha), kit_ty (by decide +kernel), q⟩
theorem call_isStr {X : Cx} (K : PySem.W.Frag) (hK : X.K = K := by rfl) : CallR X (.builtin "isinstance") (rIsStr K) := by
  subst hK
  intro pins s σ H xs us Q I r ⟨v, d, e, hd, q⟩
  subst e
  obtain ⟨n, ty, _, k1⟩ := td_tyx hd
  exact call_isi pins s σ H _ us Q I r ⟨v, _, _, _, _, rfl, .ty "str", ty, k1, q⟩
/-! ### lists of data: in, not in, index -/
def rInL (K : PySem.W.Frag) (neg : Bool) : R2 := fun x y H Q => ∃ d a ws ds, Td K H x d ∧ y = .ref a ∧ H a = some (.lst ws) ∧ TdAll K H ws ds ∧ SeqAt.shaped d = true ∧ SeqAt.shaped (.list ds) = true ∧ Q (.bl (if neg then !ds.any fun z => PyData.eqv z d else ds.any fun z => PyData.eqv z d)) H
theorem op_inLK {X : Cx} (K : PySem.W.Frag) (hu : X.A.units + 65 < cLine) (hK : X.K = K := by rfl) : OpR X (compareOp .In) (rInL K false) := by
  subst hK
  intro pins s σ H x y v u Q I rx ry ⟨d, a, ws, ds, hd, e, ha, t, s1, s2, q⟩
  subst e
  exact op_inD hu pins s σ H x _ v u Q I rx ry ⟨d, ds, hd.dp, .lst (SqL.of ha) t.dp, s1, s2, q⟩
theorem op_ninLK {X : Cx} (K : PySem.W.Frag) (hu : X.A.units + 65 < cLine) (hK : X.K = K := by rfl) : OpR X (compareOp .NotIn) (rInL K true) := by
  subst hK
  intro pins s σ H x y v u Q I rx ry ⟨d, a, ws, ds, hd, e, ha, t, s1, s2, q⟩
  subst e
  exact op_notInD hu pins s σ H x _ v u Q I rx ry ⟨d, ds, hd.dp, .lst (SqL.of ha) t.dp, s1, s2, q⟩
def rIndexL (K : PySem.W.Frag) : V → List V → Hp → VK → Prop := fun x xs H Q => ∃ (a : Addr) (y : V) (d : PyData) (ws : List V) (ds : List PyData) (j : Nat) (z : PyData), x = .ref a ∧ xs = [y] ∧ H a = some (.lst ws) ∧ TdAll K H ws ds ∧ Td K H y d ∧ SeqAt.shaped (.list ds) = true ∧ SeqAt.shaped d = true ∧ ds[j]? = some z ∧ PyData.eqv z d = true ∧
  (∀ (m : Nat) (z' : PyData), m < j → ds[m]? = some z' → PyData.eqv z' d = false) ∧ Q (.int (j : Nat)) H
theorem mt_indexLK {X : Cx} (K : PySem.W.Frag) (hu : X.A.units + 65 < cLine) (hK : X.K = K := by rfl) : MtR X "list.index" (rIndexL K) := by
  subst hK
  intro pins s σ H x xs v us Q I rx rv ⟨a, y, d, ws, ds, j, z, e1, e2, ha, t, hy, s1, s2, hz, h1, h2, q⟩
  subst e1 e2
  exact mt_indexD hu pins s σ H _ _ v us Q I rx rv ⟨a, y, d, ds, j, z, rfl, rfl, .lst (SqL.of ha) t.dp, hy.dp, s1, s2, hz, h1, h2, q⟩
end Sq
set_option Elab.async false
set_option linter.all false
set_option maxRecDepth 100000
set_option maxHeartbeats 2000000
namespace Sq
open PySem PySem.Spec PyProof.Rows L2
/-! ### what stands in a tree's text -/
def Occ (p l : List Nat) : Prop := ∃ u v, l = u ++ (p ++ v)
theorem occ_in (x y : Str) : (!(Builtin.Str.occurrences x y 0 x.length 1).isEmpty) = true ↔ Occ y.cps.toList x.cps.toList := by
  rw [StrLaws.found_iff]
  have hx : x.length = x.cps.toList.length := by simp [Str.length]
  have hy : y.length = y.cps.toList.length := by simp [Str.length]
  constructor
  · rintro ⟨i, hi, h⟩
    rw [StrLaws.subAt_eq, beq_iff_eq] at h
    exact ⟨x.cps.toList.take i, (x.cps.toList.drop i).drop y.length, by rw [← h, List.take_append_drop, List.take_append_drop]⟩
  · rintro ⟨u, v, e⟩
    refine ⟨u.length, by rw [hx, hy, e]; simp, ?_⟩
    rw [StrLaws.subAt_eq, beq_iff_eq, e, List.drop_left, hy, List.take_left]
theorem occ_cons {p l : List Nat} {c : Nat} (h : Occ p (c :: l)) : p <+: (c :: l) ∨ Occ p l := by
  obtain ⟨u, v, e⟩ := h
  cases u with
  | nil => exact .inl ⟨v, e.symm⟩
  | cons d u =>
    simp only [List.cons_append, List.cons.injEq] at e
    exact .inr ⟨u, v, e.2⟩
theorem occ_mid {p l : List Nat} (a b : List Nat) (h : Occ p l) : Occ p (a ++ (l ++ b)) := by
  obtain ⟨u, v, e⟩ := h
  exact ⟨a ++ u, v ++ b, by rw [e]; simp⟩
/-- a text whose last sign is c, a pattern that has c at its end alone -/
theorem occ_split {p t s : List Nat} {c : Nat} (hp : c ∉ p.dropLast) (ht : ∃ t', t = t' ++ [c]) (h : Occ p (t ++ s)) : Occ p t ∨ Occ p s := by
  obtain ⟨u, v, e⟩ := h
  rcases List.append_eq_append_iff.mp e with ⟨a, h1, h2⟩ | ⟨a, h1, h2⟩
  · exact .inr ⟨a, v, h2⟩
  · rcases List.append_eq_append_iff.mp h2 with ⟨b, h3, h4⟩ | ⟨b, h3, h4⟩
    · exact .inl ⟨u, b, by rw [h1, h3]⟩
    · cases b with
      | nil => exact .inl ⟨u, [], by rw [h1, h3]; simp⟩
      | cons d b =>
        cases ha : a with
        | nil => rw [ha] at h3; exact .inr ⟨[], v, by rw [h4, h3]; simp⟩
        | cons x a' =>
          exfalso
          obtain ⟨t', rfl⟩ := ht
          have : c ∈ a := by
            have hl : (t' ++ [c]).getLast? = (u ++ a).getLast? := by rw [h1]
            rw [List.getLast?_append, List.getLast?_append] at hl
            have ha2 : a.getLast? = some (a.getLast (by rw [ha]; simp)) := List.getLast?_eq_getLast _
            rw [ha2] at hl
            have e2 : a.getLast (by rw [ha]; simp) = c := by simpa using hl.symm
            rw [← e2]; exact List.getLast_mem _
          apply hp
          rw [h3, List.dropLast_append_of_ne_nil (by simp)]
          exact List.mem_append_left _ this
/-- the signs of a tree's text -/
def txt (t : Tr) : List Nat := t.data.shown.cps.toList
def L (s : String) : List Nat := (Str.ofString s).cps.toList
theorem tup2 (x y : Str) : (tupleText [x, y]).cps.toList = L "(" ++ (x.cps.toList ++ (L ", " ++ (y.cps.toList ++ L ")"))) := by
  show ((("(" : Str) ++ (x ++ ", " ++ y)) ++ (")" : Str)).cps.toList = _
  simp only [Str.cps_append, Array.toList_append, List.append_assoc]
  rfl
theorem tup3 (x y z : Str) : (tupleText [x, y, z]).cps.toList = L "(" ++ (x.cps.toList ++ (L ", " ++ (y.cps.toList ++ (L ", " ++ (z.cps.toList ++ L ")"))))) := by
  show ((("(" : Str) ++ (x ++ ", " ++ (y ++ ", " ++ z))) ++ (")" : Str)).cps.toList = _
  simp only [Str.cps_append, Array.toList_append, List.append_assoc]
  rfl
theorem rep_i : (reprText "i").cps.toList = L "'i'" := by decide +kernel
theorem rep_m : (reprText "m").cps.toList = L "'m'" := by decide +kernel
theorem txt_i (t : Tr) : txt (.i t) = L "('i', " ++ (txt t ++ L ")") := by
  show (tupleText [reprText "i", t.data.shown]).cps.toList = _
  rw [tup2, rep_i]; rfl
theorem txt_m (t u : Tr) : txt (.m t u) = L "('m', " ++ (txt t ++ (L ", " ++ (txt u ++ L ")"))) := by
  show (tupleText [reprText "m", t.data.shown, u.data.shown]).cps.toList = _
  rw [tup3, rep_m]; rfl
theorem txt_x : txt (.v "x") = L "('v', 'x')" := by decide +kernel
theorem txt_y : txt (.v "y") = L "('v', 'y')" := by decide +kernel
theorem txt_a : txt .a = L "('a',)" := by decide +kernel
theorem txt_b : txt .b = L "('b',)" := by decide +kernel
def XY (t : Tr) : Prop := ∀ x ∈ t.names, x = "x" ∨ x = "y"
theorem txt_end : ∀ t : Tr, XY t → ∃ l, txt t = l ++ L ")"
  | .v x, h => by
    rcases h x (by simp [Tr.names]) with e | e <;> subst e
    · exact ⟨L "('v', 'x'", by rw [txt_x]; decide +kernel⟩
    · exact ⟨L "('v', 'y'", by rw [txt_y]; decide +kernel⟩
  | .a, _ => ⟨L "('a',", by rw [txt_a]; decide +kernel⟩
  | .b, _ => ⟨L "('b',", by rw [txt_b]; decide +kernel⟩
  | .i t, _ => ⟨L "('i', " ++ txt t, by rw [txt_i]; simp⟩
  | .m t u, _ => ⟨L "('m', " ++ (txt t ++ (L ", " ++ txt u)), by rw [txt_m]; simp⟩
theorem txt_len : ∀ t : Tr, XY t → (txt t).length ≤ 10 * t.sz
  | .v x, h => by
    rcases h x (by simp [Tr.names]) with e | e <;> subst e
    · rw [txt_x]; decide +kernel
    · rw [txt_y]; decide +kernel
  | .a, _ => by rw [txt_a]; decide +kernel
  | .b, _ => by rw [txt_b]; decide +kernel
  | .i t, h => by
    have := txt_len t h
    have h1 : (L "('i', ").length = 6 := by decide +kernel
    have h2 : (L ")").length = 1 := by decide +kernel
    rw [txt_i]; simp only [List.length_append, Tr.sz]; omega
  | .m t u, h => by
    have := txt_len t fun x hx => h x (List.mem_append_left _ hx)
    have := txt_len u fun x hx => h x (List.mem_append_right _ hx)
    have h1 : (L "('m', ").length = 6 := by decide +kernel
    have h2 : (L ")").length = 1 := by decide +kernel
    have h3 : (L ", ").length = 2 := by decide +kernel
    rw [txt_m]; simp only [List.length_append, Tr.sz]; omega
theorem occ_head {p l : List Nat} : ∀ (h : List Nat), (∀ k, k < h.length → ¬ p <+: (h.drop k ++ l)) → Occ p (h ++ l) → Occ p l
  | [], _, o => o
  | c :: h, n, o => by
    rcases occ_cons o with z | z
    · exact absurd z (n 0 (by simp))
    · exact occ_head h (fun k hk => n (k + 1) (by simpa using hk)) z
/-- a pattern of three or more signs is no prefix where the first three differ -/
theorem no_pre {p h l : List Nat} {a b c x y z : Nat} {q h' : List Nat} (hp : p = a :: b :: c :: q) (hh : h = x :: y :: z :: h') (n : a ≠ x ∨ b ≠ y ∨ c ≠ z) : ¬ p <+: (h ++ l) := by
  rintro ⟨v, e⟩
  rw [hp, hh] at e
  simp only [List.cons_append, List.cons.injEq] at e
  rcases n with n | n | n
  · exact n e.1
  · exact n e.2.1
  · exact n e.2.2.1
theorem no_pre1 {p h l : List Nat} {a x : Nat} {q h' : List Nat} (hp : p = a :: q) (hh : h = x :: h') (n : a ≠ x) : ¬ p <+: (h ++ l) := by
  rintro ⟨v, e⟩
  rw [hp, hh] at e
  simp only [List.cons_append, List.cons.injEq] at e
  exact n e.1
def pat (n : Str) : List Nat := L "('v', '" ++ (n.cps.toList ++ L "')")
/-- 40, 39, 118 open the pattern -/
theorem pat_eq (n : Str) : ∃ q, pat n = 40 :: 39 :: 118 :: q := ⟨_, rfl⟩
theorem head_i {n : Str} {l : List Nat} (h : Occ (pat n) (L "('i', " ++ l)) : Occ (pat n) l := by
  obtain ⟨q, hq⟩ := pat_eq n
  refine occ_head _ (fun k hk => ?_) h
  have hk : k < 6 := hk
  match k, hk with
  | 0, _ => exact no_pre hq (by rfl : (L "('i', ").drop 0 = 40 :: 39 :: 105 :: L "', ") (by decide)
  | 1, _ => exact no_pre1 hq (by rfl : (L "('i', ").drop 1 = 39 :: L "i', ") (by decide)
  | 2, _ => exact no_pre1 hq (by rfl : (L "('i', ").drop 2 = 105 :: L "', ") (by decide)
  | 3, _ => exact no_pre1 hq (by rfl : (L "('i', ").drop 3 = 39 :: L ", ") (by decide)
  | 4, _ => exact no_pre1 hq (by rfl : (L "('i', ").drop 4 = 44 :: L " ") (by decide)
  | 5, _ => exact no_pre1 hq (by rfl : (L "('i', ").drop 5 = 32 :: L "") (by decide)
theorem head_m {n : Str} {l : List Nat} (h : Occ (pat n) (L "('m', " ++ l)) : Occ (pat n) l := by
  obtain ⟨q, hq⟩ := pat_eq n
  refine occ_head _ (fun k hk => ?_) h
  have hk : k < 6 := hk
  match k, hk with
  | 0, _ => exact no_pre hq (by rfl : (L "('m', ").drop 0 = 40 :: 39 :: 109 :: L "', ") (by decide)
  | 1, _ => exact no_pre1 hq (by rfl : (L "('m', ").drop 1 = 39 :: L "m', ") (by decide)
  | 2, _ => exact no_pre1 hq (by rfl : (L "('m', ").drop 2 = 109 :: L "', ") (by decide)
  | 3, _ => exact no_pre1 hq (by rfl : (L "('m', ").drop 3 = 39 :: L ", ") (by decide)
  | 4, _ => exact no_pre1 hq (by rfl : (L "('m', ").drop 4 = 44 :: L " ") (by decide)
  | 5, _ => exact no_pre1 hq (by rfl : (L "('m', ").drop 5 = 32 :: L "") (by decide)
theorem head_c {n : Str} {l : List Nat} (h : Occ (pat n) (L ", " ++ l)) : Occ (pat n) l := by
  obtain ⟨q, hq⟩ := pat_eq n
  refine occ_head _ (fun k hk => ?_) h
  have hk : k < 2 := hk
  match k, hk with
  | 0, _ => exact no_pre1 hq (by rfl : (L ", ").drop 0 = 44 :: L " ") (by decide)
  | 1, _ => exact no_pre1 hq (by rfl : (L ", ").drop 1 = 32 :: L "") (by decide)
theorem no_end {n : Str} : ¬ Occ (pat n) (L ")") := by
  rintro ⟨u, v, e⟩
  have := congrArg List.length e
  have h1 : (L ")").length = 1 := by decide +kernel
  obtain ⟨q, hq⟩ := pat_eq n
  rw [hq, h1] at this
  simp at this
  omega
/-- the pattern stands in the text just if the name stands in the tree -/
theorem occ_txt {n : Str} (hn : n = "x" ∨ n = "y") : ∀ t : Tr, XY t → (Occ (pat n) (txt t) ↔ n ∈ t.names) := by
  have hlast : 41 ∉ (pat n).dropLast := by rcases hn with e | e <;> subst e <;> decide +kernel
  have le : L ")" = [41] := by decide +kernel
  have small : ∀ l : List Nat, l.length ≤ 10 → (Occ (pat n) l ↔ pat n = l) := fun l hl => by
    have hp : (pat n).length = 10 := by rcases hn with e | e <;> subst e <;> decide +kernel
    constructor
    · rintro ⟨u, v, e⟩
      have := congrArg List.length e
      simp only [List.length_append, hp] at this
      have hu : u = [] := List.eq_nil_of_length_eq_zero (by omega)
      have hv : v = [] := List.eq_nil_of_length_eq_zero (by omega)
      rw [e, hu, hv]; simp
    · rintro e
      exact ⟨[], [], by rw [← e]; simp⟩
  intro t
  induction t with
  | v x =>
    intro h
    rw [Tr.names, List.mem_singleton]
    rcases h x (by simp [Tr.names]) with e | e <;> subst e
    · rw [txt_x, small _ (by decide +kernel)]
      rcases hn with e | e <;> subst e
      · exact ⟨fun _ => rfl, fun _ => by decide +kernel⟩
      · exact ⟨fun z => absurd z (by decide +kernel), fun z => absurd z (by decide)⟩
    · rw [txt_y, small _ (by decide +kernel)]
      rcases hn with e | e <;> subst e
      · exact ⟨fun z => absurd z (by decide +kernel), fun z => absurd z (by decide)⟩
      · exact ⟨fun _ => rfl, fun _ => by decide +kernel⟩
  | a =>
    intro _
    rw [txt_a, small _ (by decide +kernel)]
    constructor
    · intro z; rcases hn with e | e <;> subst e <;> exact absurd z (by decide +kernel)
    · intro z; cases z
  | b =>
    intro _
    rw [txt_b, small _ (by decide +kernel)]
    constructor
    · intro z; rcases hn with e | e <;> subst e <;> exact absurd z (by decide +kernel)
    · intro z; cases z
  | i t ih =>
    intro h
    rw [txt_i]
    obtain ⟨l, hl⟩ := txt_end t h
    rw [le] at hl
    constructor
    · intro o
      rcases occ_split hlast ⟨l, hl⟩ (head_i o) with z | z
      · exact (ih h).mp z
      · exact absurd z no_end
    · intro z
      exact occ_mid _ _ ((ih h).mpr z)
  | m t u ih ih' =>
    intro h
    have ht : XY t := fun x hx => h x (List.mem_append_left _ hx)
    have hu : XY u := fun x hx => h x (List.mem_append_right _ hx)
    rw [txt_m]
    obtain ⟨l, hl⟩ := txt_end t ht
    obtain ⟨l', hl'⟩ := txt_end u hu
    rw [le] at hl hl'
    rw [Tr.names, List.mem_append]
    constructor
    · intro o
      rcases occ_split hlast ⟨l, hl⟩ (head_m o) with z | z
      · exact .inl ((ih ht).mp z)
      · rcases occ_split hlast ⟨l', hl'⟩ (head_c z) with z | z
        · exact .inr ((ih' hu).mp z)
        · exact absurd z no_end
    · rintro (z | z)
      · exact occ_mid _ _ ((ih ht).mpr z)
      · have := occ_mid (L "('m', " ++ (txt t ++ L ", ")) (L ")") ((ih' hu).mpr z)
        simpa using this
theorem show_ok : ∀ t : Tr, t.data.showable = true
  | .v x => by simp [Tr.data, PyData.showable, PyData.showableAll]
  | .a => by simp [Tr.data, PyData.showable, PyData.showableAll]
  | .b => by simp [Tr.data, PyData.showable, PyData.showableAll]
  | .i t => by simp [Tr.data, PyData.showable, PyData.showableAll, show_ok t]
  | .m t u => by simp [Tr.data, PyData.showable, PyData.showableAll, show_ok t, show_ok u]
end Sq
set_option Elab.async false
set_option linter.all false
set_option maxRecDepth 100000
set_option maxHeartbeats 2000000
namespace Sq
open PySem PySem.Spec PyProof.Rows L2
/-! ### the written part without the tables -/
def dropT (ts : List Addr) (K : PySem.W.Frag) : PySem.W.Frag := K.filter fun p => !ts.contains p.1
section
variable {ts : List Addr} {K : PySem.W.Frag} {a : Addr}
theorem dropT_out (h : a ∉ ts) : (dropT ts K).lookup a = K.lookup a := by
  unfold dropT
  induction K with
  | nil => rfl
  | cons p r ih =>
    obtain ⟨b, o⟩ := p
    by_cases hb : a = b
    · subst hb
      have : ts.contains a = false := by simpa using h
      rw [List.filter_cons, this]
      simp [List.lookup]
    · have hb' : (a == b) = false := by simpa using hb
      rw [List.filter_cons]
      split
      · simp only [List.lookup, hb', ih]
      · simp only [List.lookup, hb', ih]
theorem dropT_in (h : a ∈ ts) : (dropT ts K).lookup a = none := by
  unfold dropT
  induction K with
  | nil => rfl
  | cons p r ih =>
    obtain ⟨b, o⟩ := p
    rw [List.filter_cons]
    split
    · rename_i hc
      have hb : (a == b) = false := by
        cases e : a == b with
        | false => rfl
        | true =>
          have : a = b := by simpa using e
          subst this
          simp [h] at hc
      simp only [List.lookup, hb, ih]
    · exact ih
theorem dropT_In {h : Heap} (X : K.In h) : (dropT ts K).In h := fun a o e => by
  by_cases q : a ∈ ts
  · rw [dropT_in q] at e; cases e
  · rw [dropT_out q] at e; exact X a o e
end
section
variable {K : PySem.W.Frag} {mg : Str → Option Value} {x : Str} {st : Stmt} {f c : Addr} {fd : FuncData} {h : Heap} {ts : List Addr}
theorem Dn.drop (F : Dn K mg x st f fd c) (hf : f ∉ ts) (hc : c ∉ ts) : Dn (dropT ts K) mg x st f fd c := by
  obtain ⟨⟨oc, od, kV, doc, pm, an, ct, osl, e, l, cd⟩, m, kp⟩ := F
  refine ⟨⟨oc, od, kV, doc, pm, an, ct, osl, e, by rw [dropT_out hf]; exact l, ?_⟩, m, ?_⟩
  · unfold PySem.W.codeIn at cd ⊢
    simp only [dropT_out hc] at cd ⊢
    exact cd
  · unfold PySem.W.keepIn
    simp only [dropT_out hf, l]
/-- a def that the top has left: what is known of it goes on -/
theorem dn_go {R : Prop} (x : Str) (st : Stmt) {od an : Option Addr} {sl : Array (Option Value)} {oc kV dc pm ct : Value} (X : K.In h) (G : h.Ns mainGlobals mg)
    (a : PySem.W.nsIn K mainGlobals x = some (some (.ref f))) (l : K.lookup f = some ⟨oc, od, .func (PySem.W.fnOf x x (defArgs st) (defBody st) (defScope st) .none kV dc pm an (.ref c) ct), sl⟩) (q : PySem.W.codeIn K (.ref c) x = true) (k : PySem.W.keepIn K (.ref f) = true)
    (r : Dn K mg x st f (PySem.W.fnOf x x (defArgs st) (defBody st) (defScope st) .none kV dc pm an (.ref c) ct) c → R) : R :=
  r ⟨⟨oc, od, kV, dc, pm, an, ct, sl, rfl, l, q⟩, PySem.W.mg_of X G a, k⟩
/-- the table of a code object -/
def tabOf (o : Obj) : Option Addr := match o.data with
  | .fields vs => (vs[11]?).bind fun | .ref P => some P | _ => none
  | _ => none
theorem tabOf_at {o : Obj} {P : Addr} (h : tabOf o = some P) : ∃ vs, o.data = .fields vs ∧ vs[11]? = some (.ref P) := by
  unfold tabOf at h
  split at h
  · rename_i vs e
    refine ⟨vs, e, ?_⟩
    cases q : vs[11]? with
    | none => rw [q] at h; cases h
    | some v =>
      rw [q] at h
      cases v <;> first | (cases h; rfl) | cases h
  · cases h
/-- the tables of all defs of the top are empty -/
def OwnAll (q : Program) (mg : Str → Option Value) (K : PySem.W.Frag) (h : Heap) : Prop := ∀ (x : Str) (a : Addr), ((recsOf q).any fun e => e.name == x) = true → mg x = some (.ref a) → LamX.OwnTab K a h
theorem dn_goT {R : Prop} (x : Str) (st : Stmt) {od an : Option Addr} {sl : Array (Option Value)} {oc kV dc pm ct : Value} {P : Addr} {oo : Obj} (X : K.In h) (G : h.Ns mainGlobals mg)
    (a : PySem.W.nsIn K mainGlobals x = some (some (.ref f))) (l : K.lookup f = some ⟨oc, od, .func (PySem.W.fnOf x x (defArgs st) (defBody st) (defScope st) .none kV dc pm an (.ref c) ct), sl⟩) (q : PySem.W.codeIn K (.ref c) x = true) (k : PySem.W.keepIn K (.ref f) = true)
    (lc : K.lookup c = some oo) (t : tabOf oo = some P) (u : PySem.W.codeHdIn [(c, oo)] c P = true) {q' : Program} (O : OwnAll q' mg K h) (rc : ((recsOf q').any fun e => e.name == x) = true)
    (r : Dn K mg x st f (PySem.W.fnOf x x (defArgs st) (defBody st) (defScope st) .none kV dc pm an (.ref c) ct) c → PySem.W.CodeHd h c P ∧ h.get? P = some { cls := .none, data := .fields #[] } → R) : R :=
  dn_go x st X G a l q k fun D => by
    refine r D ⟨PySem.W.codeHd_of_K X ?_, ?_⟩
    · have e : ([(c, oo)] : PySem.W.Frag).lookup c = K.lookup c := by rw [lc]; simp [List.lookup]
      unfold PySem.W.codeHdIn at u ⊢
      rw [← e]
      exact u
    · obtain ⟨vs, e1, e2⟩ := tabOf_at t
      obtain ⟨e, dd, da, sls⟩ := oo
      simp only at e1
      subst e1
      exact O x f rc D.mgf c P _ _ e dd vs sls l rfl rfl lc e2
theorem own_all {q : Program} {mg : Str → Option Value} {K : PySem.W.Frag} {h : Heap} (KX : K.In h) (T : ∀ d ∈ recsOf q, ∃ (a : Addr) (o : Obj) (fd : FuncData) (c P : Addr), mg d.name = some (.ref a) ∧ h.get? a = some o ∧ o.data = .func fd ∧ fd.code = .ref c ∧ h.IsCode c P #[] ∧ h.TableAt c P #[]) : OwnAll q mg K h := fun y fy hrec hy c P o1 fd1 e dd vs1 sl k1 k2 k3 k4 k5 => by
  obtain ⟨dL, hm, hn1⟩ := List.any_eq_true.mp hrec
  have hn2 : dL.name = y := beq_iff_eq.mp hn1
  obtain ⟨a', o', fd', c', P', h1, h2, h3, h4, _, h5⟩ := T dL hm
  rw [hn2, hy] at h1
  cases h1
  rw [KX _ _ k1] at h2
  cases h2
  rw [k2] at h3
  cases h3
  rw [k3] at h4
  cases h4
  obtain ⟨⟨oc, vc, e1, _, e3, e4⟩, hP⟩ := h5
  rw [KX _ _ k4] at e1
  cases e1
  cases e3
  rw [k5] at e4
  cases e4
  exact hP
theorem walk_drop {l : PySem.W.OpenLaw} {n k : Nat} {q : Program} {loose : List Str} {XP : (Str → Option Value) → Heap → Prop} {d : DefRec} {K0 : PySem.Params → PySem.W.Frag} {as : List Addr} {e : ∀ P, as = (K0 P).map (·.1)} {x : Str} {ts : List Addr}
    (hn : l.most = some n) (hn2 : n ≤ sizeLine) (hdf : d.params.defaults = []) (hr : Room k callerA)
    (F : ∀ (w : World) (mg : Str → Option Value) (fa : Addr) (h : Heap), (K0 w.params).In h → h.Ns mainGlobals mg → mg d.name = some (.ref fa) → OwnAll q mg (K0 w.params) h → LamX.LawAtS l w (dropT ts (K0 w.params)) CX0 k n x mg fa h) :
    PySem.W.WalkO q loose XP (PySem.W.kHook K0 as e).says l.row.toRowW d [] (fun f vs => PySem.call f vs) := by
  refine Att.attach_callB hn hdf fun w s₀ s₁ mg mb fa o pm cd doc a vs ns G Y ho hd hcd hmg hobj hints hlen hbits hg => ?_
  have KX : (K0 w.params).In s₁.heap := PySem.W.kIn_of Y
  have own : OwnAll q mg (K0 w.params) s₁.heap := fun y fy hrec hy c P o1 fd1 e dd vs1 sl k1 k2 k3 k4 k5 => by
    obtain ⟨dL, hm, hn1⟩ := List.any_eq_true.mp hrec
    have hn2 : dL.name = y := beq_iff_eq.mp hn1
    obtain ⟨a', o', fd', c', P', h1, h2, h3, h4, h5, h6⟩ := G.T.tab dL hm
    rw [hn2, hy] at h1
    cases h1
    rw [KX _ _ k1] at h2
    cases h2
    rw [k2] at h3
    cases h3
    rw [k3] at h4
    cases h4
    obtain ⟨⟨oc, vc, e1, _, e3, e4⟩, hP⟩ := h6
    rw [KX _ _ k4] at e1
    cases e1
    cases e3
    rw [k5] at e4
    cases e4
    exact hP
  obtain ⟨fd, cs, sp, hT, nT, C, hb, hsp, hF⟩ := F w mg fa _ KX G.T.g hmg own
  exact LamX.law_callTs (dropT_In KX) G.T.g G.T.b G.T.builtins G.T.nolimit hg hT nT C G.T.bmain hobj hints (Nat.le_trans hlen hn2) hr hF hb (fun H hH hS => hsp H a ns hlen hbits hH hS) fun _ _ _ h => h
theorem tabB_of {base : Heap} {P : Addr} (T : LamX.TabB base mg c P) : GxR.TabB base mg c P := ⟨T.code, T.bm, T.gP⟩
end
end Sq
set_option Elab.async false
set_option linter.all false
set_option maxRecDepth 100000
set_option maxHeartbeats 2000000
namespace Sq
open PySem PySem.Spec PyProof.Rows L2
/-! ### a def's run at one place, whatever is known there of what runs around -/
theorem run_here {P : Program} {w : World} {K : PySem.W.Frag} {mg : Str → Option Value} {base : Heap} {k : Nat} {x : Str} {st : Stmt} {f c : Addr} {fd : FuncData} {N ps : List Str}
    (F : Dn K mg x st f fd c) (S : FnScope N ps (defScope st)) {A : Around} {outer : List Env} {s : Shared} {H : Hp} {args : Args} {us : List Value} {vs : List V} {Q : VK} {E : XK}
    (hr : Room (k + 1) A) (en : Env0 P w K mg base A outer s H) (bd : BindsTo s fd args (ps.zip us)) (vu : Vals vs us) (hl : vs.length = ps.length)
    (body : ∃ t, PSs (CxD P w K mg base N x st f c A outer s H E) (defBody st) t ∧ t { nx := fun _ H' => Q .non H', rt := Q } (start N vs) H) : codeAny (model P w) A (.call (.ref f) args) (CR CX0 outer P w H s Q E) s := by
  obtain ⟨⟨oc, od, kV, doc, pm, an, ct, osl, rfl, lk, hcd⟩, _, _⟩ := F
  have kin : K.In s.heap := en.mod.kin.keeps fun b o q => (en.bs b o q).1
  have nol : s.heap.NoLimit := en.mod.nolimit.keeps fun b o q => (en.bs b o q).1
  refine codeAny_call_function hr.depth (kin _ _ lk) rfl S.co S.gen rfl (PySem.W.codeRec_of kin hcd) (bd _ _ _ _ ?_)
  refine wpAny_newFunctionEnv_cells S.kind (fun y hy => ?_) fun env henv s1 inC => ?_
  · rcases S.par y.1 (List.of_mem_zip hy).1 with z | z
    · exact .inl z
    · exact .inr ⟨z, PySem.W.cellsFrom_some _ _ _ (.inl z)⟩
  subst henv
  refine ⟨nol.keeps inC.toInCall.keep, codeAny_func ?_⟩
  obtain ⟨t, ht, hq⟩ := body
  have J0 := inv_start (CX := CX0) (E := E) S hr.hd en hl vu inC
  refine wpAny_mono (ht.nox.run [] s1 (start N vs) H _ J0 hq) (fun fl s2 out => ?_) fun e s2 out => out
  cases fl with
  | brk => exact (out.choose_spec.choose_spec.2).elim
  | cont => exact (out.choose_spec.choose_spec.2).elim
  | next =>
    obtain ⟨_, H2, J, q⟩ := out
    exact ⟨V.non, H2, J.os, J.bare, J.base, J.hok, rfl, q⟩
  | ret u =>
    obtain ⟨v, _, H2, J, rv, q⟩ := out
    exact ⟨v, H2, J.os, J.bare, J.base, J.hok, rv, q⟩
/-! ### the law's call, where it is known that nothing of the interpreter's own is under way -/
def LawRun (l : PySem.W.OpenLaw) (w : World) (K : PySem.W.Frag) (mg : Str → Option Value) (fa : Addr) (cs : List (Addr × Addr)) : Prop :=
  ∀ (base : Heap) (s : Shared) (H : Hp) (a : Addr) (ns : List Int), K.In base → base.Ns mainGlobals mg → (∀ p ∈ cs, LamX.TabB base mg p.1 p.2) → Env0 l.prog w K mg base callerA [] s H → (∀ p ∈ cs, H p.2 = some (.tbl #[])) → SqL K H a (ns.map V.int) → ns.length ≤ 63 →
    codeAny (model l.prog w) callerA (.call (.ref fa) ⟨[.ref a], []⟩) (CR CX0 [] l.prog w H s (fun v _ => v = .bl true) fun _ _ _ => False) s
section
variable {l : PySem.W.OpenLaw} {w : World} {K : PySem.W.Frag} {mg mb : Str → Option Value} {fa a : Addr} {cs : List (Addr × Addr)} {s : Shared} {vs : List Value} {ns : List Int}
open Classical in
/-- what is tracked at the law's call: the script, if it is not written; the tables -/
noncomputable def at0 (K : PySem.W.Frag) (cs : List (Addr × Addr)) (a : Addr) (vs : List Value) (ns : List Int) : Hp := fun b =>
  if b ∈ cs.map (·.2) then some (.tbl #[]) else if b = a ∧ K.lookup a = none then some (.frz { cls := .type "list", data := .seq vs.toArray } (.lst (ns.map V.int))) else none
theorem law_callG (kin : K.In s.heap) (gns : s.heap.Ns mainGlobals mg) (bns : s.heap.Ns builtinsNs mb) (bb : ∀ x : Str, x ≠ "__name__" → mb x = bootBuiltins x) (nol : s.heap.NoLimit) (ng : s.gens = #[])
    (tabE : ∀ p ∈ cs, s.heap.get? p.2 = some { cls := .none, data := .fields #[] }) (tabN : ∀ p ∈ cs, K.lookup p.2 = none) (cod : ∀ p ∈ cs, PySem.W.CodeHd s.heap p.1 p.2)
    (hbm : ∃ (bm : Addr) (ob : Obj), mg "__builtins__" = some (.ref bm) ∧ bm ≠ builtinsNs ∧ s.heap.get? bm = some ob ∧ ob.cls = .type "module" ∧ ob.dict = some builtinsNs ∧ ob.data = .plain)
    (scr : s.heap.get? a = some { cls := .type "list", data := .seq vs.toArray }) (iAre : IntsAre vs ns) (few : ns.length ≤ 63) (F : LawRun l w K mg fa cs) :
    codeAny (model l.prog w) callerA (.call (.ref fa) ⟨[.ref a], []⟩) (fun r s' => r = .ok (.ret (.bool true)) ∧ OldK s.heap s'.heap ∧ s'.os = s.os ∧ AllBare s'.gens) s := by
  have rv := vals_ints iAre
  have szl : ns.length ≤ sizeLine := Nat.le_trans few (by decide)
  have tabM : ∀ b, b ∈ cs.map (·.2) → s.heap.get? b = some { cls := .none, data := .fields #[] } := fun b hb => by
    obtain ⟨p, hp, rfl⟩ := List.mem_map.mp hb
    exact tabE p hp
  have aNo : a ∉ cs.map (·.2) := fun z => by
    have q := (tabM a z).symm.trans scr
    exact absurd (congrArg Obj.data (Option.some.inj q)) (by intro z; cases z)
  generalize hZ : at0 K cs a vs ns = Z
  have zT : ∀ b, b ∈ cs.map (·.2) → Z b = some (.tbl #[]) := fun b hb => by rw [← hZ]; exact if_pos hb
  have zC : ∀ b u, Z b = some u → (b ∈ cs.map (·.2) ∧ u = .tbl #[]) ∨ (b = a ∧ K.lookup a = none ∧ u = .frz { cls := .type "list", data := .seq vs.toArray } (.lst (ns.map V.int))) := fun b u e => by
    rw [← hZ] at e
    unfold at0 at e
    split at e
    · rename_i h; cases e; exact .inl ⟨h, rfl⟩
    · split at e
      · rename_i h; cases e; exact .inr ⟨h.1, h.2, rfl⟩
      · cases e
  have zP : ∀ p ∈ cs, Z p.2 = some (.tbl #[]) := fun p hp => zT _ (List.mem_map.mpr ⟨p, hp, rfl⟩)
  have hsq : SqL K Z a (ns.map V.int) := by
    cases hk : K.lookup a with
    | none => exact .inl (.inr ⟨_, by rw [← hZ]; unfold at0; rw [if_neg aNo, if_pos ⟨rfl, hk⟩]⟩)
    | some o =>
      have e := (kin a o hk).symm.trans scr
      cases e
      exact .inr ⟨_, vs.toArray, _, hk, rfl, rfl, rfl, by rw [List.size_toArray, iAre.length]; exact szl, by simpa using rv⟩
  have ok : HOk l.prog w Z s.heap := fun b u e => by
    rcases zC b u e with ⟨h, rfl⟩ | ⟨rfl, _, rfl⟩
    · exact tabM b h
    · exact ⟨scr, by rw [List.length_map]; exact szl, vs, _, rv, scr⟩
  -- what is not tracked stands in the base
  have nTr : ∀ {b : Addr} {o : Obj}, s.heap.get? b = some o → (∀ v n, o.data ≠ .seq v n) → o.data ≠ .fields #[] → Z b = none := fun {b o} e h1 h2 => by
    cases q : Z b with
    | none => rfl
    | some u =>
      rcases zC b u q with ⟨h, _⟩ | ⟨rfl, _, _⟩
      · have := e.symm.trans (tabM b h); cases this; exact absurd rfl h2
      · have := e.symm.trans scr; cases this; exact absurd rfl (h1 _ _)
  have stand : ∀ {b : Addr} {o : Obj}, s.heap.get? b = some o → (∀ v n, o.data ≠ .seq v n) → o.data ≠ .fields #[] → (hidT s.heap Z).get? b = some o := fun e h1 h2 => hidT_get e (nTr e h1 h2)
  have dicts : ∀ {b : Addr} {m : Str → Option Value}, s.heap.Ns b m → (hidT s.heap Z).Ns b m := fun {b m} ⟨o, es, ep, e, d, r⟩ =>
    ⟨o, es, ep, stand e (fun v n z => by rw [d] at z; cases z) (fun z => by rw [d] at z; cases z), d, r⟩
  have kinB : K.In (hidT s.heap Z) := fun b o e => by
    refine hidT_get (kin b o e) ?_
    cases q : Z b with
    | none => rfl
    | some u =>
      rcases zC b u q with ⟨h, _⟩ | ⟨rfl, n, _⟩
      · obtain ⟨p, hp, rfl⟩ := List.mem_map.mp h
        rw [tabN p hp] at e; cases e
      · rw [n] at e; cases e
  have modB : Mod K mg (hidT s.heap Z) := ⟨kinB, dicts gns, ⟨mb, dicts bns, bb⟩, let ⟨mc, q1, q2⟩ := nol; ⟨mc, dicts q1, q2⟩⟩
  have tabB : ∀ p ∈ cs, LamX.TabB (hidT s.heap Z) mg p.1 p.2 := fun p hp => by
    refine ⟨?_, ?_, fun z => ?_⟩
    · obtain ⟨o, us, file, tf, flags, tg, inF, text, tt, e1, c1, c2, c3, r⟩ := cod p hp
      refine ⟨o, us, file, tf, flags, tg, inF, text, tt, stand e1 (fun v n z => ?_) (fun z => ?_), c1, c2, c3, r⟩
      · rw [c2] at z; cases z
      · rw [c2] at z; cases z; simp at c3
    · obtain ⟨bm, ob, b1, b2, b3, b4, b5, b6⟩ := hbm
      refine ⟨bm, ob, b1, b2, fun q => ?_, fun q => ?_, stand b3 (fun v n z => by rw [b6] at z; cases z) (fun z => by rw [b6] at z; cases z), b4, b5, b6⟩
      · obtain ⟨o, es, ep, e, hd, _⟩ := gns
        rw [q, e] at b3; cases b3; rw [hd] at b6; cases b6
      · rw [q, tabE p hp] at b3; cases b3; cases b6
    · obtain ⟨o, es, ep, e, hd, _⟩ := gns
      rw [z, tabE p hp] at e; cases e; cases hd
  have en : Env0 l.prog w K mg (hidT s.heap Z) callerA [] s Z :=
    ⟨rfl, modB, fun b o e => of_hidT e, Nat.le_of_eq (hidT_size _ _), trivial, (fun b hb => absurd (show b ∈ ([] : List Addr) from hb) (by simp)), ok, .of_eq ng⟩
  refine codeAny_mono (F _ s Z a ns kinB (dicts gns) tabB en zP hsq few) fun r s' out => ?_
  cases r with
  | error e => exact False.elim (show False from out)
  | ok fl =>
    cases fl with
    | next => exact False.elim out
    | brk => exact False.elim out
    | cont => exact False.elim out
    | ret u =>
      obtain ⟨v, H', os, bare, un, ok', rvu, q⟩ := out
      have q : v = .bl true := q
      subst q
      obtain rfl : u = Value.bool true := rvu
      have old : ∀ b o, b ∉ cs.map (·.2) → s.heap.get? b = some o → s'.heap.get? b = some o := fun b o hb e => by
        cases q : Z b with
        | none => exact un.keep b o e q (by intro z; cases z) (by simp)
        | some u =>
          rcases zC b u q with ⟨h, _⟩ | ⟨rfl, _, rfl⟩
          · exact absurd h hb
          · obtain ⟨g, _⟩ := ok' b _ (un.frzs b _ _ q)
            rw [e] at scr; cases scr; exact g
      have more : ∀ b, b ∈ cs.map (·.2) → ∃ ms : Array Value, s'.heap.get? b = some { cls := .none, data := .fields ms } := fun b hb => by
        obtain ⟨ms, z⟩ := un.tbls b #[] (zT b hb)
        exact ⟨_, ok' b _ z⟩
      refine ⟨rfl, ⟨fun b o e => ?_, fun b o e => ?_⟩, os, bare⟩
      · by_cases hb : b ∈ cs.map (·.2)
        · obtain ⟨ms, hm⟩ := more b hb
          have e0 := tabM b hb
          rw [e0] at e; cases e
          obtain ⟨p, hp, rfl⟩ := List.mem_map.mp hb
          exact .inr (.inl ⟨((cod p hp).tab e0).isCodeTable, rfl, #[], ms, rfl, by rw [Array.empty_append]; exact hm⟩)
        · exact .inl (old b o hb e)
      · by_cases hb : b ∈ cs.map (·.2)
        · obtain ⟨ms, hm⟩ := more b hb
          exact ⟨_, hm⟩
        · exact ⟨o, old b o hb e⟩
end
theorem walk_G {l : PySem.W.OpenLaw} {q : Program} {loose : List Str} {XP : (Str → Option Value) → Heap → Prop} {d : DefRec} {K0 : PySem.Params → PySem.W.Frag} {as : List Addr} {e : ∀ P, as = (K0 P).map (·.1)} {ts : List Addr}
    (hn : l.most = some 63) (hdf : d.params.defaults = [])
    (F : ∀ (w : World) (mg : Str → Option Value) (fa : Addr) (h : Heap), (K0 w.params).In h → h.Ns mainGlobals mg → mg d.name = some (.ref fa) → OwnAll q mg (K0 w.params) h →
      ∃ cs : List (Addr × Addr), (∀ p ∈ cs, h.get? p.2 = some { cls := .none, data := .fields #[] }) ∧ (∀ p ∈ cs, (dropT ts (K0 w.params)).lookup p.2 = none) ∧ (∀ p ∈ cs, PySem.W.CodeHd h p.1 p.2) ∧ LawRun l w (dropT ts (K0 w.params)) mg fa cs) :
    PySem.W.WalkO q loose XP (PySem.W.kHook K0 as e).says l.row.toRowW d [] (fun f vs => PySem.call f vs) := by
  refine Att.attach_callB hn hdf fun w s0 s1 mg mb fa o pm cd doc a vs ns G Y ho hd hcd hmg hobj hints hlen hbits hg => ?_
  have kin : (K0 w.params).In s1.heap := PySem.W.kIn_of Y
  obtain ⟨cs, t1, t2, t3, run⟩ := F w mg fa _ kin G.T.g hmg (own_all kin G.T.tab)
  exact law_callG (dropT_In kin) G.T.g G.T.b G.T.builtins G.T.nolimit hg t1 t2 t3 G.T.bmain hobj hints hlen run
end Sq
set_option Elab.async false
set_option linter.all false
set_option maxRecDepth 100000
set_option maxHeartbeats 4000000
namespace Sq
open PySem PySem.Spec PyProof.Rows L2 RZ
local macro_rules | `(tactic| walk_at "rd") => `(tactic| simp only [tCont, tDisp, tPairs, rIndexS, wipe, tNoPart, tDG2, tDGF, tDInF, tDNInF, sDPutF, tDNewF, rSortD, rInS, rInT, rEqLF, tDcF, tDc2F, tLcF, tForF, tAllF, tAnyF, tSumF, iEnumF, iZipF, iKeysF, iItems, tLZip, tYes, tSeq, tIfS, tNext, tRet, tRetN, tDrop, tTest, tB, tNot, tAnd, tOr, tChain, tOp, tUn, tCB, tCons, tNil, tC, tVar, tIf, tAndV, tOrV, tNotV, tAsg, tPar, tPar3, gName, gSub, gTupF, gCons, gNil, tTupF, tLstF, rI0, rI, rIxF, rIxG, rIxS, rSetF, rSlF, rCatF, rCatL, rTupL, rListT, rListL, rLenT, rLenL, iTupF, iLstF, rAppF, rExtF, rPopF, tBM, tBM0, tSl, tPart, rEq, rNe, tCall, L2.start,
  List.map_cons, List.map_nil, List.length_cons, List.length_nil, Nat.sub_self, List.replicate, List.append_nil, List.cons_append, List.nil_append, List.getElem?_cons_zero, List.getElem?_cons_succ, List.set_cons_zero, List.set_cons_succ,
  exSl, exI, exI2, exB, exS, exR, ex1, ex1', V.int.injEq, V.bl.injEq, V.ref.injEq, V.str.injEq, Option.some.injEq, List.cons.injEq, and_true, true_and, reduceCtorEq, false_and, and_false, or_false, false_or, exists_false, exists_and_left, exists_eq_left', decide_eq_true_eq, decide_true, decide_false, if_false, if_true, ite_true, ite_false, Bool.false_eq_true, Bool.not_true, Bool.not_false, Nat.reduceAdd, Nat.reduceSub, Nat.zero_add, atI_0, atI_1, atI_2, atI_3, ixN_0, ixN_1, ixN_2, cutV_1, cutV_2, Option.some.injEq, HO.lst.injEq, HO.dK.injEq, scal])
local macro_rules | `(tactic| walk_at "rdc") => `(tactic| simp (config := { contextual := true }) only [tCont, tDisp, tPairs, rIndexS, wipe, tNoPart, tDG2, tDGF, tDInF, tDNInF, sDPutF, tDNewF, rSortD, rInS, rInT, rEqLF, tDcF, tDc2F, tLcF, tForF, tAllF, tAnyF, tSumF, iEnumF, iZipF, iKeysF, iItems, tLZip, tYes, tSeq, tIfS, tNext, tRet, tRetN, tDrop, tTest, tB, tNot, tAnd, tOr, tChain, tOp, tUn, tCB, tCons, tNil, tC, tVar, tIf, tAndV, tOrV, tNotV, tAsg, tPar, tPar3, gName, gSub, gTupF, gCons, gNil, tTupF, tLstF, rI0, rI, rIxF, rIxG, rIxS, rSetF, rSlF, rCatF, rCatL, rTupL, rListT, rListL, rLenT, rLenL, iTupF, iLstF, rAppF, rExtF, rPopF, tBM, tBM0, tSl, tPart, rEq, rNe, tCall, L2.start,
  List.map_cons, List.map_nil, List.length_cons, List.length_nil, Nat.sub_self, List.replicate, List.append_nil, List.cons_append, List.nil_append, List.getElem?_cons_zero, List.getElem?_cons_succ, List.set_cons_zero, List.set_cons_succ,
  exSl, exI, exI2, exB, exS, exR, ex1, ex1', V.int.injEq, V.bl.injEq, V.ref.injEq, V.str.injEq, Option.some.injEq, List.cons.injEq, and_true, true_and, reduceCtorEq, false_and, and_false, or_false, false_or, exists_false, exists_and_left, exists_eq_left', decide_eq_true_eq, decide_true, decide_false, if_false, if_true, ite_true, ite_false, Bool.false_eq_true, Bool.not_true, Bool.not_false, Nat.reduceAdd, Nat.reduceSub, Nat.zero_add, atI_0, atI_1, atI_2, atI_3, ixN_0, ixN_1, ixN_2, cutV_1, cutV_2, Option.some.injEq, HO.lst.injEq, HO.dK.injEq, scal, *])
/-! ### fits: what its loop keeps -/
structure FI (NS : List Str) (p t : Tr) (l : Tab) (rl : List (Tr × Tr)) : Prop where
  nd : (l.map (·.1)).Nodup
  keys : ∀ n ∈ l.map (·.1), n ∈ NS
  vals : ∀ n w, (n, w) ∈ l → (∀ x ∈ w.names, x ∈ NS) ∧ w.dep ≤ 30
  prs : ∀ q u, (q, u) ∈ rl → ((∀ x ∈ q.names, x ∈ NS) ∧ q.dep ≤ 30) ∧ (∀ x ∈ u.names, x ∈ NS) ∧ u.dep ≤ 30
  sz : (rl.map fun q => q.1.sz).sum ≤ p.sz
  dn : ∀ th, p.fill th = t → (∀ n w, (n, w) ∈ l → (Tr.v n).fill th = w) ∧ ∀ q u, (q, u) ∈ rl → q.fill th = u
  up : ∀ l' : Tab, (∀ n w, lk l n = some w → lk l' n = some w) → (∀ q u, (q, u) ∈ rl → q.fill (lk l') = u) → p.fill (lk l') = t
theorem FI.start {NS : List Str} {p t : Tr} (hp : (∀ x ∈ p.names, x ∈ NS) ∧ p.dep ≤ 30) (ht : (∀ x ∈ t.names, x ∈ NS) ∧ t.dep ≤ 30) : FI NS p t [] [(p, t)] := by
  refine ⟨List.nodup_nil, (fun n hn => by cases hn), (fun n w h => by cases h), fun q u h => ?_, by simp, fun th h => ⟨(fun n w h => by cases h), fun q u hq => ?_⟩, fun l' _ h => h p t (by simp)⟩
  · have e : q = p ∧ u = t := by simpa using h
    obtain ⟨rfl, rfl⟩ := e
    exact ⟨hp, ht⟩
  · have e : q = p ∧ u = t := by simpa using hq
    obtain ⟨rfl, rfl⟩ := e
    exact h
theorem FI.len {NS : List Str} {p t : Tr} {l : Tab} {rl : List (Tr × Tr)} (h : FI NS p t l rl) : l.length ≤ NS.length ∧ rl.length ≤ p.sz := by
  refine ⟨by have := nodup_sub h.nd h.keys; rwa [List.length_map] at this, Nat.le_trans ?_ h.sz⟩
  generalize rl = rl
  induction rl with
  | nil => exact Nat.zero_le _
  | cons q r ih => have := q.1.sz_pos; simp only [List.map_cons, List.sum_cons, List.length_cons]; omega
theorem FI.done {NS : List Str} {p t : Tr} {l : Tab} (h : FI NS p t l []) : p.fill (lk l) = t := h.up l (fun _ _ e => e) (fun q u z => by cases z)
/-- a name that is to be a tree -/
theorem FI.bad {NS : List Str} {p t u w : Tr} {l : Tab} {rl : List (Tr × Tr)} {x : Str} (h : FI NS p t l ((.v x, u) :: rl)) (hl : lk l x = some w) (ne : w ≠ u) : ∀ th, p.fill th ≠ t := fun th e => by
  obtain ⟨a, b⟩ := h.dn th e
  exact ne ((a x w (lk_mem hl)).symm.trans (b _ _ List.mem_cons_self))
theorem putL_same {l : Tab} {x : Str} {u : Tr} (nd : (l.map (·.1)).Nodup) (h : lk l x = some u) : putL l x u = l := by
  unfold putL
  rw [h]
  simp only [Option.isSome_some, if_true]
  refine (List.map_congr_left (g := id) fun p hp => ?_).trans (List.map_id l)
  split
  · rename_i e
    obtain ⟨n, w⟩ := p
    simp only at e
    subst e
    have : lk l n = some w := by
      clear h
      induction l with
      | nil => cases hp
      | cons q r ih =>
        obtain ⟨m, y⟩ := q
        simp only [lk]
        rcases List.mem_cons.mp hp with e | e
        · cases e; rw [if_pos rfl]
        · rw [List.map_cons, List.nodup_cons] at nd
          rw [if_neg fun z => nd.1 (by rw [z]; exact List.mem_map.mpr ⟨_, e, rfl⟩)]
          exact ih nd.2 e
    rw [h] at this
    cases this; rfl
  · rfl
theorem FI.name {NS : List Str} {p t u : Tr} {l : Tab} {rl : List (Tr × Tr)} {x : Str} (h : FI NS p t l ((.v x, u) :: rl)) (hl : ∀ w, lk l x = some w → w = u) : FI NS p t (putL l x u) rl := by
  obtain ⟨hq, hu⟩ := h.prs _ _ List.mem_cons_self
  have hs := h.sz
  simp only [List.map_cons, List.sum_cons] at hs
  cases e : lk l x with
  | some w =>
    have := hl w e
    subst this
    rw [putL_same h.nd e]
    refine ⟨h.nd, h.keys, h.vals, fun q u hm => h.prs q u (List.mem_cons_of_mem _ hm), by omega, fun th e => ⟨(h.dn th e).1, fun q u hm => (h.dn th e).2 q u (List.mem_cons_of_mem _ hm)⟩, fun l' h1 h2 => h.up l' h1 fun q u hm => ?_⟩
    rcases List.mem_cons.mp hm with z | z
    · cases z
      show (lk l' x).getD _ = _
      rw [h1 x w e]; rfl
    · exact h2 q u z
  | none =>
    rw [putL_fresh e]
    refine ⟨?_, fun n hn => ?_, fun n w hm => ?_, fun q u hm => h.prs q u (List.mem_cons_of_mem _ hm), by omega, fun th e' => ⟨fun n w hm => ?_, fun q u hm => (h.dn th e').2 q u (List.mem_cons_of_mem _ hm)⟩, fun l' h1 h2 => h.up l' (fun n w hn => h1 n w ?_) fun q u hm => ?_⟩
    · rw [List.map_append]
      exact List.nodup_append.mpr ⟨h.nd, by simp, fun a ha b hb e2 => by
        have e3 : b = x := by simpa using hb
        subst e3 e2
        exact lk_none.mp e ha⟩
    · rw [List.map_append] at hn
      rcases List.mem_append.mp hn with z | z
      · exact h.keys n z
      · have : n = x := by simpa using z
        rw [this]; exact hq.1 x (by simp [Tr.names])
    · rcases List.mem_append.mp hm with z | z
      · exact h.vals n w z
      · have : n = x ∧ w = u := by simpa using z
        rw [this.2]; exact hu
    · rcases List.mem_append.mp hm with z | z
      · exact (h.dn th e').1 n w z
      · have : n = x ∧ w = u := by simpa using z
        rw [this.1, this.2]; exact (h.dn th e').2 _ _ List.mem_cons_self
    · rw [lk_snoc e]
      by_cases hx : n = x
      · rw [hx, e] at hn; cases hn
      · rw [if_neg hx]; exact hn
    · rcases List.mem_cons.mp hm with z | z
      · cases z
        show (lk l' x).getD _ = _
        rw [h1 x u (by rw [lk_snoc e, if_pos rfl])]; rfl
      · exact h2 q u z
theorem FI.unlike {NS : List Str} {p t q u : Tr} {l : Tab} {rl : List (Tr × Tr)} (h : FI NS p t l ((q, u) :: rl)) (hq : q.isV = false) (hh : q.hd ≠ u.hd) : ∀ th, p.fill th ≠ t := fun th e => by
  have := (h.dn th e).2 _ _ List.mem_cons_self
  obtain ⟨_, n2, _⟩ := Tr.fill_nv (s := th) hq
  rw [this] at n2
  exact hh n2.symm
theorem zip_fst : ∀ {ts us : List Tr}, ((ts.zip us).map fun q => q.1.sz).sum ≤ (ts.map Tr.sz).sum
  | [], _ => Nat.zero_le _
  | _ :: _, [] => Nat.zero_le _
  | t :: ts, u :: us => by
    have := zip_fst (ts := ts) (us := us)
    simp only [List.zip_cons_cons, List.map_cons, List.sum_cons]
    omega
theorem FI.split {NS : List Str} {p t q u : Tr} {l : Tab} {rl : List (Tr × Tr)} (h : FI NS p t l ((q, u) :: rl)) (hq : q.isV = false) (hu : u.isV = false) (hh : q.hd = u.hd) : FI NS p t l ((q.args.zip u.args).reverse ++ rl) ∧ (((q.args.zip u.args).reverse ++ rl).map fun q => q.1.sz).sum < (((q, u) :: rl).map fun q => q.1.sz).sum := by
  obtain ⟨⟨a1, a2⟩, b1, b2⟩ := h.prs _ _ List.mem_cons_self
  have hz := zip_fst (ts := q.args) (us := u.args)
  have hz2 := q.args_sz
  have lt : (((q.args.zip u.args).reverse ++ rl).map fun q => q.1.sz).sum < (((q, u) :: rl).map fun q => q.1.sz).sum := by
    rw [List.map_append, List.sum_append, List.map_reverse, List.sum_reverse]
    simp only [List.map_cons, List.sum_cons]
    omega
  have hlen := Tr.args_eq hq hu hh
  refine ⟨⟨h.nd, h.keys, h.vals, fun r s hm => ?_, Nat.le_trans (Nat.le_of_lt lt) h.sz, fun th e => ⟨(h.dn th e).1, fun r s hm => ?_⟩, fun l' h1 h2 => h.up l' h1 fun r s hm => ?_⟩, lt⟩
  · rcases List.mem_append.mp hm with z | z
    · obtain ⟨c, d⟩ := List.of_mem_zip (List.mem_reverse.mp z)
      exact ⟨⟨fun x hx => a1 x (Tr.names_arg c hx), by have := Tr.dep_arg c; omega⟩, fun x hx => b1 x (Tr.names_arg d hx), by have := Tr.dep_arg d; omega⟩
    · exact h.prs r s (List.mem_cons_of_mem _ z)
  · rcases List.mem_append.mp hm with z | z
    · have e1 := (h.dn th e).2 _ _ List.mem_cons_self
      have e2 : q.args.map (Tr.fill th) = u.args := by rw [← e1]; exact (Tr.fill_nv hq).2.2.symm
      obtain ⟨i, hi⟩ := List.getElem?_of_mem (List.mem_reverse.mp z)
      obtain ⟨h3, h4⟩ := List.getElem?_zip_eq_some.mp hi
      have := congrArg (fun l => l[i]?) e2
      simp only [List.getElem?_map, h3, h4, Option.map_some] at this
      exact Option.some.inj this
    · exact (h.dn th e).2 r s (List.mem_cons_of_mem _ z)
  · rcases List.mem_cons.mp hm with z | z
    · cases z
      obtain ⟨n1, n2, n3⟩ := Tr.fill_nv (s := lk l') hq
      refine Tr.eq_hd n1 hu (n2.trans hh) ?_
      rw [n3]
      refine List.ext_getElem? fun i => ?_
      rw [List.getElem?_map]
      cases e1 : q.args[i]? with
      | none =>
        have : u.args[i]? = none := List.getElem?_eq_none (by have := List.getElem?_eq_none_iff.mp e1; omega)
        rw [this]; rfl
      | some y =>
        obtain ⟨hi, _⟩ := List.getElem?_eq_some_iff.mp e1
        have e2 : u.args[i]? = some (u.args[i]'(by omega)) := List.getElem?_eq_getElem (by omega)
        rw [e2, Option.map_some]
        refine congrArg some (h2 _ _ (List.mem_append_left _ (List.mem_reverse.mpr (List.mem_of_getElem? (i := i) (List.getElem?_zip_eq_some.mpr ⟨e1, e2⟩)))))
    · exact h2 r s (List.mem_append_right _ z)
section
variable {P : Program} {w : World} {K : PySem.W.Frag} {mg : Str → Option Value} {base : Heap} {f c : Addr} {fd : FuncData} {NS : List Str}
abbrev s_fits : Stmt := top 4
abbrev n_fits : List Str := ["pattern", "tree", "table", "left", "one", "other"]
theorem sc_fits : FnScope n_fits ["pattern", "tree"] (defScope s_fits) := ⟨rfl, rfl, rfl, by decide +kernel, rfl, by decide +kernel, by decide +kernel⟩
def spFits (K : PySem.W.Frag) (NS : List Str) : Sp := fun vs H Q _ => ∃ (v u : V) (p t : Tr), vs = [v, u] ∧ Td K H v p.data ∧ Td K H u t.data ∧ ((∀ x ∈ p.names, x ∈ NS) ∧ p.dep ≤ 30) ∧ ((∀ x ∈ t.names, x ∈ NS) ∧ t.dep ≤ 30) ∧ p.sz ≤ 1000 ∧
  (∀ H', (∀ th, p.fill th ≠ t) → Ext [] H H' → Q .non H') ∧ ∀ (a : Addr) (l : Tab) (H' : Hp), p.fill (lk l) = t → (l.map (·.1)).Nodup → (∀ n ∈ l.map (·.1), n ∈ NS) → (∀ n w, (n, w) ∈ l → (∀ x ∈ w.names, x ∈ NS) ∧ w.dep ≤ 30) → Ext [] H H' → TabA K H' a l → Q (.ref a) H'
def FW (K : PySem.W.Frag) (NS : List Str) (p t : Tr) (v u : V) (a q : Addr) (H2 : Hp) (m : Nat) (σ : L2.St) (H : Hp) : Prop := ∃ l rl x4 x5 kvs ys, σ = [some v, some u, some (V.ref a), some (V.ref q), x4, x5] ∧ (rl.map fun q => q.1.sz).sum = m ∧ FI NS p t l rl ∧ H a = some (.dK kvs) ∧ TabK K H kvs l ∧ H q = some (.lst ys) ∧ TdAll K H ys (rl.reverse.map pairD) ∧ Ext [a] H2 H
theorem ok_fits (F : Dn K mg "fits" s_fits f fd c) (B : Bl mg) (hN : NsOk NS) : Cal P w K mg base 1 "fits" (spFits K NS) := by
  refine F.cal (ps := ["pattern", "tree"]) (fun _ _ _ _ _ _ us hl => match us, hl with | [_, _], _ => rfl) sc_fits (fun vs H Q E h => ?_) (fun A outer s H vs Q E hr h => ?_)
  · obtain ⟨_, _, _, _, rfl, _⟩ := h; rfl
  obtain ⟨v, u, p, t, rfl, hp, ht, bp, bt, hsz, q0, q1⟩ := h
  refine ⟨_, (pss_cons (ps_par (i := 2) (j := 3) (by rfl) sc_fits.nd rfl rfl (by decide) rfl rfl (pa_cons pe_dnewF (pa_cons (pe_lstF (pa_cons (pe_tupK K (pa_cons (pv 0) (pa_cons (pv 1) pa_nil))) pa_nil)) pa_nil)) (by rfl))
    (pss_cons (ps_while PassesOwn.never (pt_cmpR (op_neLK K hr.units) (pv 3) (pe_lstF pa_nil) (nomark _)) (pss_cons (ps_asg (pe_bm0 PySem.F.plainAttrs_list PySem.F.slot_list_pop PySem.F.type_list_pop mt_popF (pv 3)) (pg_tupK K (n := 2) (by rfl) (pgs_cons (pg_name (i := 4) sc_fits.nd rfl (by first | exact Or.inl rfl | exact Or.inr rfl)) (pgs_cons (pg_name (i := 5) sc_fits.nd rfl (by first | exact Or.inl rfl | exact Or.inr rfl)) pgs_nil))))
    (pss_one (ps_if (pt_cmpR op_eq (pe_ix (ix_tupK K) (pv 4) pe_int (fun _ _ => rfl)) pe_str (nomark _)) (pss_cons (ps_if (pt_cmpR (op_neK K hr.units) (pe_dget2F (hu_of hr) (pv 2) (pe_ix (ix_tupK K) (pv 4) pe_int (fun _ _ => rfl)) (pv 5) ⟨rfl, rfl, rfl, rfl⟩) (pv 5) (nomark _)) (pss_one (ps_ret pe_non)) pss_nil)
    (pss_one (ps_dputF (hu_of hr) (pv 2) (pe_ix (ix_tupK K) (pv 4) pe_int (fun _ _ => rfl)) (pv 5) rfl))) (pss_one (ps_if (PW.pt (pw_or (pt_cmpR op_ne (pe_ix (ix_tupK K) (pv 4) pe_int (fun _ _ => rfl)) (pe_ix (ix_tupK K) (pv 5) pe_int (fun _ _ => rfl)) (nomark _)) (pw_or (pt_cmpR op_ne (pe_callB (call_lenK K) (by rfl) B.b_len (by decide +kernel) (pa_cons (pv 4) pa_nil)) (pe_callB (call_lenK K) (by rfl) B.b_len (by decide +kernel) (pa_cons (pv 5) pa_nil)) (nomark _)) (pw_or1 (pt_cmpR op_eq (pe_ix (ix_tupK K) (pv 5) pe_int (fun _ _ => rfl)) pe_str (nomark _)))))) (pss_one (ps_ret pe_non)) (pss_one (ps_expr (pe_bm PySem.F.plainAttrs_list PySem.F.slot_list_extend PySem.F.type_list_extend mt_extF (pv 3) (pa_cons (pe_lzipK K rfl (by rfl) B.b_zip (by rfl) B.b_list (pa_cons (pe_slice (sl_tupK K) (pv 4) (po_some pe_int) po_none) (pa_cons (pe_slice (sl_tupK K) (pv 5) (po_some pe_int) po_none) pa_nil))) pa_nil))))))))))
    (pss_one (ps_ret (pv 2))))), ?_⟩
  walk_at "rd"
  intro p1 H1 n1 e1 h1
  refine ⟨by decide, fun p2 H2 e2 h2 => ⟨by decide, fun p3 H3 n3 e3 h3 => ⟨_, _, ⟨rfl, rfl⟩, ?_⟩⟩⟩
  have e03 := (e1.trans e2).trans e3
  have e02 : Ext [] H H2 := e1.trans e2
  have hp3 : H2 p3 = none := n3
  refine ⟨FW K NS p t v u p1 p3 H2, ⟨_, [], [(p, t)], none, none, [], [.ref p2], rfl, rfl, FI.start bp bt, (e2.trans e3).dK0 h1, .nil, h3, .cons (.tup (tupF_ext e3 (by exact h2)) (.cons (hp.ext e03) (.cons (ht.ext e03) .nil))) .nil, (Ext.refl [p1] H2).overS n3 (by exact e3.any)⟩, ?_⟩
  rintro m σ' H4 ⟨l, rl, x4, x5, kvs, ys, rfl, rfl, hU, hk, htk, hys, hall, e4⟩
  have hpr : ∀ p ∈ rl.reverse, (∀ x ∈ p.1.names, x ∈ NS) ∧ (∀ x ∈ p.2.names, x ∈ NS) ∧ p.1.dep ≤ 60 ∧ p.2.dep ≤ 60 := fun p hp => by
    obtain ⟨⟨a1, a2⟩, b1, b2⟩ := hU.prs p.1 p.2 (List.mem_reverse.mp hp)
    exact ⟨a1, b1, by omega, by omega⟩
  obtain ⟨sh1, sh2⟩ := pair_shaped hN hpr
  have shl : SeqAt.shaped (.list (rl.reverse.map pairD)) = true := by
    unfold SeqAt.shaped
    rw [PyData.canLay0, sh1, PyData.depth, decide_eq_true (by omega)]
    rfl
  have she : SeqAt.shaped (.list []) = true := by decide +kernel
  have q1' := q1
  have q0' := q0
  clear q0 q1
  walk_at "rd"
  refine ⟨by decide, fun p5 H5 n5 e5 h5 => ⟨ys, e5.lst0 hys, _, h5, _, hall.ext e5, _, .nil, shl, she, ?_⟩⟩
  have e25 := e4.trans e5.any
  have e05 := e02.over n1 e25
  cases rl with
  | nil =>
    rw [List.reverse_nil, List.map_nil, Tr.eqvAll_nil, if_neg (by decide)]
    exact q1' p1 l H5 hU.done hU.nd hU.keys hU.vals e05 ⟨kvs, dctF_dK (e5.dK0 hk), htk.ext e5⟩
  | cons pr rest =>
    obtain ⟨g, o⟩ := pr
    have hne : PyData.eqvAll (((g, o) :: rest).reverse.map pairD) [] = false := by
      rw [List.reverse_cons, List.map_append]
      cases (rest.reverse.map pairD) with
      | nil => exact Tr.eqvAll_cn _ _
      | cons z zs => exact Tr.eqvAll_cn _ _
    rw [hne, if_pos (by decide)]
    rw [List.reverse_cons, List.map_append] at hall
    obtain ⟨ys', y, rfl, hall', hy⟩ := hall.unsnoc
    have hlen := hU.len
    refine ⟨fun σ' H' => ∃ m2, m2 < (((g, o) :: rest).map fun q => q.1.sz).sum ∧ FW K NS p t v u p1 p3 H2 m2 σ' H', fun σ' H' h => h, tyV_lst (e5.lst0 hys), _, e5.lst0 hys, y, by simp, fun H6 e6 h6 => ?_⟩
    rw [List.dropLast_concat] at h6
    cases hy with
    | tup hy1 hy2 =>
      cases hy2 with
      | cons hg1 hy2 =>
        cases hy2 with
        | cons ho1 hy2 =>
          cases hy2
          obtain ⟨⟨a1, a2⟩, b1, b2⟩ := hU.prs g o List.mem_cons_self
          have e56 := e5.any.trans e6
          have hka : H6 p1 = some (.dK kvs) := by
            refine e6.dK (e5.dK0 hk) fun z => ?_
            have z' : p1 = p3 := by simpa using z
            rw [z', hys] at hk
            cases hk
          have e26 := Ext.overS e25 hp3 e6
          have htk6 := (htk.ext e5).ext e6
          have hall6 := (hall'.ext e5).ext e6
          have hg6 := hg1.ext e56
          have ho6 := ho1.ext e56
          have hsum : (((g, o) :: rest).map fun q => q.1.sz).sum = g.sz + (rest.map fun q => q.1.sz).sum := by simp
          refine ⟨_, rfl, _, tupF_ext e56 hy1, rfl, _, _, rfl, _, _, rfl, rfl, ?_⟩
          obtain ⟨ao, wo, rfl, hao⟩ := td_hd ho6
          cases hv : g.isV with
          | true =>
            cases g with
            | v x =>
              obtain ⟨ap, rfl, hap⟩ := td_v hg6
              refine ⟨ap, rfl, _, hap, _, atI_0, rfl, ?_⟩
              rw [if_pos rfl]
              have hl31 : p3 ∉ [p1] := fun z => by
                have z' : p3 = p1 := by simpa using z
                rw [z', hk] at hys
                cases hys
              have hsh := Tr.shaped hN b1 (by omega)
              have fin : (∀ w, lk l x = some w → w = o) → ∀ H7, Ext [p1] H6 H7 → H7 p1 = some (.dK (putK kvs (.inr x) (.ref ao))) → ∃ m2, m2 < (((Tr.v x, o) :: rest).map fun q => q.1.sz).sum ∧ FW K NS p t v u p1 p3 H2 m2 [some v, some u, some (V.ref p1), some (V.ref p3), some (V.ref ap), some (V.ref ao)] H7 := fun hw H7 e7 h7 =>
                ⟨_, by rw [hsum]; exact Nat.lt_add_of_pos_left (Tr.sz_pos _), putL l x o, rest, _, _, _, ys', rfl, rfl, hU.name hw, h7, (htk6.put ho6).ext e7, e7.lst h6 hl31, hall6.ext e7, e26.trans e7⟩
              have hsl : (100 : Nat) < sizeLine := by decide
              have hkl := htk.length
              have hfew := hN.few
              refine ⟨kvs, dctF_dK hka, ap, rfl, _, hap, _, atI_1, x, rfl, kvs, dctF_dK hka, ?_⟩
              rcases htk6.val x with ⟨hl, hv0⟩ | ⟨w0, v0, hl, hv0, hw0⟩
              · rw [hv0]
                refine ⟨o.data, o.data, ho6, ho6, hsh, hsh, _, rfl, ?_⟩
                rw [Tr.eqv_data, decide_eq_true rfl, if_neg (by decide)]
                exact ⟨ap, rfl, _, hap, _, atI_1, x, rfl, kvs, hka, by omega, fin (fun w h => by rw [hl] at h; cases h)⟩
              · rw [hv0]
                have hwb := hU.vals x w0 (lk_mem hl)
                refine ⟨w0.data, o.data, hw0, ho6, Tr.shaped hN hwb.1 (by omega), hsh, _, rfl, ?_⟩
                rw [Tr.eqv_data]
                by_cases hwo : w0 = o
                · rw [decide_eq_true hwo, if_neg (by decide)]
                  exact ⟨ap, rfl, _, hap, _, atI_1, x, rfl, kvs, hka, by omega, fin (fun w h => by rw [hl] at h; cases h; exact hwo)⟩
                · rw [decide_eq_false hwo, if_pos (by decide)]
                  exact q0' H6 (hU.bad hl hwo) (e02.over n1 e26)
            | a => cases hv
            | b => cases hv
            | i s => cases hv
            | m s r => cases hv
          | false =>
            obtain ⟨ap, wp, rfl, hap, hwp⟩ := td_f hv hg6
            have hne2 := Tr.hd_v hv
            refine ⟨ap, rfl, _, hap, _, atI_0, rfl, ?_⟩
            rw [if_neg fun z => hne2 (V.str.inj z)]
            refine ⟨ap, rfl, _, hap, _, atI_0, ao, rfl, _, hao, _, atI_0, rfl, ?_⟩
            by_cases hh : g.hd = o.hd
            · rw [if_neg (by simp [hh])]
              have hov : o.isV = false := by
                cases e : o.isV with
                | false => rfl
                | true => exact absurd (hh.trans (Tr.hd_iff.mpr e)) hne2
              obtain ⟨ao', wo', e0, hao', hwo'⟩ := td_f hov ho6
              cases e0
              have el : wo = wo' := by rw [hao] at hao'; simpa using hao'
              subst el
              have l1 := hwp.length
              have l2 := hwo'.length
              rw [List.length_map] at l1 l2
              have l3 := Tr.args_eq hv hov hh
              have la := g.args_len
              refine ⟨ap, rfl, _, hap, ao, rfl, _, hao, ?_⟩
              have el : ((V.str g.hd :: wp).length : Int) = ((V.str o.hd :: wo).length : Int) := by rw [List.length_cons, List.length_cons]; omega
              rw [if_neg (by show ¬ (!decide (((V.str g.hd :: wp).length : Int) = ((V.str o.hd :: wo).length : Int))) = true; rw [el]; simp)]
              refine ⟨ao, rfl, _, hao, _, atI_0, rfl, ?_⟩
              rw [if_neg fun z => Tr.hd_v hov (V.str.inj z)]
              refine ⟨tyV_lst h6, ap, rfl, _, hap, fun pa H7 e7 h7 => ⟨ao, rfl, _, tupF_ext e7 hao, fun pb H8 e8 h8 => ?_⟩⟩
              rw [cutV_1] at h7 h8
              have e68 := e7.trans e8
              refine ⟨pa, pb, ⟨rfl, rfl⟩, wp, tupF_ext e8 h7, wo, h8, by omega, fun S H9 ws hS e9 h9 hprs => ?_⟩
              refine ⟨ys', (e68.trans e9).lst0 h6, ws, h9, ?_, fun H10 e10 h10 => ?_⟩
              · have hs1 : (3000 : Nat) < sizeLine := by decide
                have l4 := hall6.length
                rw [List.length_map, List.length_reverse] at l4
                have := hprs.1
                have := hlen.2
                simp only [List.length_cons] at this
                omega
              · have e69 := e68.trans e9
                have qa : p1 ∉ [p3] := fun z => by
                  have z' : p1 = p3 := by simpa using z
                  rw [z', h6] at hka
                  cases hka
                obtain ⟨hU', lt⟩ := hU.split hv hov hh
                refine ⟨_, lt, l, _, _, _, kvs, _, rfl, rfl, hU', e10.dK (e69.dK0 hka) qa, (htk6.ext e69).ext e10, h10, ?_, ?_⟩
                · rw [List.reverse_append, List.reverse_reverse, List.map_append]
                  exact ((hall6.ext e69).ext e10).append ((prs_td hprs (hwp.ext e69) (hwo'.ext e69)).ext e10)
                · exact Ext.overS (e26.trans e69.any) hp3 e10
            · rw [if_pos (by simp [hh])]
              exact q0' H6 (hU.unlike hv hh) (e02.over n1 e26)
end
end Sq
set_option Elab.async false
set_option linter.all false
set_option maxRecDepth 100000
set_option maxHeartbeats 4000000
namespace Sq
open PySem PySem.Spec PyProof.Rows L2 RZ
local macro_rules | `(tactic| walk_at "rd") => `(tactic| simp only [tCont, tDisp, tPairs, rIndexS, wipe, tNoPart, tDG2, tDGF, tDInF, tDNInF, sDPutF, tDNewF, rSortD, rInS, rInT, rEqLF, tDcF, tDc2F, tLcF, tForF, tAllF, tAnyF, tSumF, iEnumF, iZipF, iKeysF, iItems, tLZip, tYes, tSeq, tIfS, tNext, tRet, tRetN, tDrop, tTest, tB, tNot, tAnd, tOr, tChain, tOp, tUn, tCB, tCons, tNil, tC, tVar, tIf, tAndV, tOrV, tNotV, tAsg, tPar, tPar3, gName, gSub, gTupF, gCons, gNil, tTupF, tLstF, rI0, rI, rIxF, rIxG, rIxS, rSetF, rSlF, rCatF, rCatL, rTupL, rListT, rListL, rLenT, rLenL, iTupF, iLstF, rAppF, rExtF, rPopF, tBM, tBM0, tSl, tPart, rEq, rNe, tCall, L2.start,
  List.map_cons, List.map_nil, List.length_cons, List.length_nil, Nat.sub_self, List.replicate, List.append_nil, List.cons_append, List.nil_append, List.getElem?_cons_zero, List.getElem?_cons_succ, List.set_cons_zero, List.set_cons_succ,
  exSl, exI, exI2, exB, exS, exR, ex1, ex1', V.int.injEq, V.bl.injEq, V.ref.injEq, V.str.injEq, Option.some.injEq, List.cons.injEq, and_true, true_and, reduceCtorEq, false_and, and_false, or_false, false_or, exists_false, exists_and_left, exists_eq_left', decide_eq_true_eq, decide_true, decide_false, if_false, if_true, ite_true, ite_false, Bool.false_eq_true, Bool.not_true, Bool.not_false, Nat.reduceAdd, Nat.reduceSub, Nat.zero_add, atI_0, atI_1, atI_2, atI_3, ixN_0, ixN_1, ixN_2, cutV_1, cutV_2, Option.some.injEq, HO.lst.injEq, HO.dK.injEq, scal])
local macro_rules | `(tactic| walk_at "rdc") => `(tactic| simp (config := { contextual := true }) only [tCont, tDisp, tPairs, rIndexS, wipe, tNoPart, tDG2, tDGF, tDInF, tDNInF, sDPutF, tDNewF, rSortD, rInS, rInT, rEqLF, tDcF, tDc2F, tLcF, tForF, tAllF, tAnyF, tSumF, iEnumF, iZipF, iKeysF, iItems, tLZip, tYes, tSeq, tIfS, tNext, tRet, tRetN, tDrop, tTest, tB, tNot, tAnd, tOr, tChain, tOp, tUn, tCB, tCons, tNil, tC, tVar, tIf, tAndV, tOrV, tNotV, tAsg, tPar, tPar3, gName, gSub, gTupF, gCons, gNil, tTupF, tLstF, rI0, rI, rIxF, rIxG, rIxS, rSetF, rSlF, rCatF, rCatL, rTupL, rListT, rListL, rLenT, rLenL, iTupF, iLstF, rAppF, rExtF, rPopF, tBM, tBM0, tSl, tPart, rEq, rNe, tCall, L2.start,
  List.map_cons, List.map_nil, List.length_cons, List.length_nil, Nat.sub_self, List.replicate, List.append_nil, List.cons_append, List.nil_append, List.getElem?_cons_zero, List.getElem?_cons_succ, List.set_cons_zero, List.set_cons_succ,
  exSl, exI, exI2, exB, exS, exR, ex1, ex1', V.int.injEq, V.bl.injEq, V.ref.injEq, V.str.injEq, Option.some.injEq, List.cons.injEq, and_true, true_and, reduceCtorEq, false_and, and_false, or_false, false_or, exists_false, exists_and_left, exists_eq_left', decide_eq_true_eq, decide_true, decide_false, if_false, if_true, ite_true, ite_false, Bool.false_eq_true, Bool.not_true, Bool.not_false, Nat.reduceAdd, Nat.reduceSub, Nat.zero_add, atI_0, atI_1, atI_2, atI_3, ixN_0, ixN_1, ixN_2, cutV_1, cutV_2, Option.some.injEq, HO.lst.injEq, HO.dK.injEq, scal, *])
section
variable {P : Program} {w : World} {K : PySem.W.Frag} {mg : Str → Option Value} {base : Heap} {f c : Addr} {fd : FuncData} {NS : List Str}
/-- two trees whose signs differ are not made one -/
def spMadeU (K : PySem.W.Frag) (NS : List Str) : Sp := fun vs H Q _ => ∃ (v u : V) (s t : Tr), vs = [v, u] ∧ Td K H v s.data ∧ Td K H u t.data ∧ s.isV = false ∧ t.isV = false ∧ s.hd ≠ t.hd ∧ s.dep ≤ 20 ∧ t.dep ≤ 20 ∧ (∀ x ∈ s.names, x ∈ NS) ∧ (∀ x ∈ t.names, x ∈ NS) ∧ ∀ H', Ext [] H H' → Q .non H'
theorem ok_madeU (F : Dn K mg "made_one" s_made_one f fd c) (B : Bl mg) (hN : NsOk NS) (G_holes : Cal P w K mg base 64 "holes" (spHoles K NS 64)) (G_filled : Cal P w K mg base 64 "filled" (spFill K 64)) : Cal P w K mg base 65 "made_one" (spMadeU K NS) := by
  refine F.cal (ps := ["one", "other"]) (fun _ _ _ _ _ _ us hl => match us, hl with | [_, _], _ => rfl) sc_made_one (fun vs H Q E h => ?_) (fun A outer s H vs Q E hr h => ?_)
  · obtain ⟨_, _, _, _, rfl, _⟩ := h; rfl
  obtain ⟨v, u, s1, t1, rfl, hs, ht, sv, tv, hh, ds, dt, ns, nt, q⟩ := h
  refine ⟨_, (pss_cons (ps_par (i := 2) (j := 3) (by rfl) sc_made_one.nd rfl rfl (by decide) rfl rfl (pa_cons pe_dnewF (pa_cons (pe_lstF (pa_cons (pe_tupK K (pa_cons (pv 0) (pa_cons (pv 1) pa_nil))) pa_nil)) pa_nil)) (by rfl))
    (pss_cons (ps_while PassesOwn.never (pt_cmpR (op_neLK K hr.units) (pv 3) (pe_lstF pa_nil) (nomark _)) (pss_cons (ps_asg (pe_bm0 PySem.F.plainAttrs_list PySem.F.slot_list_pop PySem.F.type_list_pop mt_popF (pv 3)) (pg_tupK K (n := 2) (by rfl) (pgs_cons (pg_name (i := 0) sc_made_one.nd rfl (by first | exact Or.inl rfl | exact Or.inr rfl)) (pgs_cons (pg_name (i := 1) sc_made_one.nd rfl (by first | exact Or.inl rfl | exact Or.inr rfl)) pgs_nil))))
    (pss_cons (ps_asg (pe_tupK K (pa_cons (C8.pe_c G_filled hr (by omega) (by rfl) (pa_cons (pv 0) (pa_cons (pv 2) pa_nil))) (pa_cons (C8.pe_c G_filled hr (by omega) (by rfl) (pa_cons (pv 1) (pa_cons (pv 2) pa_nil))) pa_nil))) (pg_tupK K (n := 2) (by rfl) (pgs_cons (pg_name (i := 0) sc_made_one.nd rfl (by first | exact Or.inl rfl | exact Or.inr rfl)) (pgs_cons (pg_name (i := 1) sc_made_one.nd rfl (by first | exact Or.inl rfl | exact Or.inr rfl)) pgs_nil))))
    (pss_cons (ps_if (pt_cmpR (op_eqK K hr.units) (pv 0) (pv 1) (nomark _)) (pss_one ps_continue) pss_nil)
    (pss_cons (ps_if (pt_cmpR op_ne (pe_ix (ix_tupK K) (pv 0) pe_int (fun _ _ => rfl)) pe_str (nomark _)) (pss_one (ps_asg (pe_tupK K (pa_cons (pv 1) (pa_cons (pv 0) pa_nil))) (pg_tupK K (n := 2) (by rfl) (pgs_cons (pg_name (i := 0) sc_made_one.nd rfl (by first | exact Or.inl rfl | exact Or.inr rfl)) (pgs_cons (pg_name (i := 1) sc_made_one.nd rfl (by first | exact Or.inl rfl | exact Or.inr rfl)) pgs_nil))))) pss_nil)
    (PSs.hide (pss_one (ps_if (pt_cmpR op_eq (pe_ix (ix_tupK K) (pv 0) pe_int (fun _ _ => rfl)) pe_str (nomark _)) (pss_cons (ps_if (pt_cmpR (op_inSK K) (pe_ix (ix_tupK K) (pv 0) pe_int (fun _ _ => rfl)) (C8.pe_c G_holes hr (by omega) (by rfl) (pa_cons (pv 1) pa_nil)) (by rfl)) (pss_one (ps_ret pe_non)) pss_nil)
    (pss_cons (ps_lockD (ps_setDcF (i := 2) (own := [("name", 4), ("tree", 5)]) rfl sc_made_one.nd rfl rfl (sw_trueD rfl rfl rfl (by decide +kernel)) (pi_items (pv 2)) (blkOk_by (own := [("name", 4), ("tree", 5)]) (N := n_made_one) (sc := defScope s_made_one) (by decide +kernel)) (fun _ _ _ _ _ => (pg_tupZ K (n := 2) (by rfl) (pgs_cons (pg_name (i := 4) sc_made_one.nd rfl (by first | exact Or.inl rfl | exact Or.inr rfl)) (pgs_cons (pg_name (i := 5) sc_made_one.nd rfl (by first | exact Or.inl rfl | exact Or.inr rfl)) pgs_nil)))) (fun _ _ _ _ _ => pts_nil) (fun _ _ _ _ _ => (pv 4)) (fun _ _ _ _ _ => (C8.pe_c G_filled hr (by omega) (by rfl) (pa_cons (pv 5) (pa_cons (pe_disp (pps_cons (pe_ix (ix_tupK K) (pv 0) pe_int (fun _ _ => rfl)) (pv 1) pps_nil) (by rfl) (by rfl) (fun z => by cases z) (by decide)) pa_nil))))))
    (pss_one (ps_dputF (hu_of hr) (pv 2) (pe_ix (ix_tupK K) (pv 0) pe_int (fun _ _ => rfl)) (pv 1) rfl)))) (pss_one (ps_if (PW.pt (pw_or (pt_cmpR op_ne (pe_ix (ix_tupK K) (pv 0) pe_int (fun _ _ => rfl)) (pe_ix (ix_tupK K) (pv 1) pe_int (fun _ _ => rfl)) (nomark _)) (pw_or1 (pt_cmpR op_ne (pe_callB (call_lenK K) (by rfl) B.b_len (by decide +kernel) (pa_cons (pv 0) pa_nil)) (pe_callB (call_lenK K) (by rfl) B.b_len (by decide +kernel) (pa_cons (pv 1) pa_nil)) (nomark _))))) (pss_one (ps_ret pe_non)) (pss_one (ps_expr (pe_bm PySem.F.plainAttrs_list PySem.F.slot_list_extend PySem.F.type_list_extend mt_extF (pv 3) (pa_cons (pe_lzipK K rfl (by rfl) B.b_zip (by rfl) B.b_list (pa_cons (pe_slice (sl_tupK K) (pv 0) (po_some pe_int) po_none) (pa_cons (pe_slice (sl_tupK K) (pv 1) (po_some pe_int) po_none) pa_nil))) pa_nil))))))))))))))
    (pss_one (ps_ret (pv 2))))), ?_⟩
  have q' := q
  clear q
  walk_at "rd"
  intro p1 H1 n1 e1 h1
  refine ⟨by decide, fun p2 H2 e2 h2 => ⟨by decide, fun p3 H3 n3 e3 h3 => ⟨_, _, ⟨rfl, rfl⟩, ?_⟩⟩⟩
  have e03 := (e1.trans e2).trans e3
  refine ⟨fun m σ H' => m = 1 ∧ σ = [some v, some u, some (V.ref p1), some (V.ref p3), none, none] ∧ H' = H3, ⟨1, rfl, rfl, rfl⟩, ?_⟩
  rintro m σ' H4 ⟨rfl, rfl, rfl⟩
  have hk := (e2.trans e3).dK0 h1
  have hs3 := hs.ext e03
  have ht3 := ht.ext e03
  have pairT : TdAll K H4 [V.ref p2] ([(s1, t1)].map pairD) := .cons (.tup (tupF_ext e3 (by exact h2)) (.cons hs3 (.cons ht3 .nil))) .nil
  obtain ⟨sh1, sh2⟩ := pair_shaped hN (ps := [(s1, t1)]) fun p hp => by
    have : p = (s1, t1) := by simpa using hp
    subst this
    exact ⟨ns, nt, by show s1.dep ≤ 60; omega, by show t1.dep ≤ 60; omega⟩
  have shl : SeqAt.shaped (.list ([(s1, t1)].map pairD)) = true := by
    unfold SeqAt.shaped
    rw [PyData.canLay0, sh1, PyData.depth, decide_eq_true (by omega)]
    rfl
  have she : SeqAt.shaped (.list []) = true := by decide +kernel
  walk_at "rd"
  refine ⟨by decide, fun p5 H5 n5 e5 h5 => ⟨_, e5.lst0 h3, _, h5, _, pairT.ext e5, _, .nil, shl, she, ?_⟩⟩
  rw [if_pos (by rw [List.map_cons, Tr.eqvAll_cn]; rfl)]
  refine ⟨fun σ' H' => False, fun σ' H' h => h.elim, tyV_lst (e5.lst0 h3), _, e5.lst0 h3, .ref p2, by simp, fun H6 e6 h6 => ?_⟩
  have e56 := e5.any.trans e6
  have hka : H6 p1 = some (.dK []) := by
    refine e6.dK (e5.dK0 hk) fun z => ?_
    have z' : p1 = p3 := by simpa using z
    rw [z', h3] at hk
    cases hk
  have hT6 : TabA K H6 p1 [] := ⟨[], dctF_dK hka, .nil⟩
  have f0 : ∀ t : Tr, t.fill (lk []) = t := fun t => Tr.fill_id fun _ _ => rfl
  have e06 : Ext [] H H6 := (e1.trans e2).trans ((Ext.refl [] H2).over n3 ((e3.any.trans e5.any).trans e6))
  have hp2 := tupF_ext e56 (tupF_ext e3 h2)
  have hne : s1 ≠ t1 := fun z => hh (by rw [z])
  refine ⟨p2, rfl, _, hp2, rfl, _, _, rfl, _, _, rfl, rfl, _, s1, p1, [], rfl, hs3.ext e56, by omega, hT6, fun v1 H7 e7 h7 => ⟨_, t1, p1, [], rfl, (ht3.ext e56).ext e7, by omega, hT6.ext0 e7, fun v2 H8 e8 h8 => ⟨by decide, fun p9 H9 e9 h9 => ⟨_, h9, rfl, _, _, rfl, _, _, rfl, rfl, ?_⟩⟩⟩⟩
  rw [f0] at h7 h8
  have fv1 := (h7.ext e8).ext e9
  have fv2 := h8.ext e9
  refine ⟨_, _, fv1, fv2, Tr.shaped hN ns (by omega), Tr.shaped hN nt (by omega), _, rfl, ?_⟩
  rw [if_neg Bool.false_ne_true, Tr.eqv_data, decide_eq_false hne, if_neg (by decide)]
  obtain ⟨g1, w1, ev1, hg1, _⟩ := td_f sv fv1
  subst ev1
  obtain ⟨g2, w2, ev2, hg2, _⟩ := td_f tv fv2
  subst ev2
  refine ⟨g1, rfl, _, hg1, _, atI_0, rfl, ?_⟩
  rw [if_pos (by simp; exact fun z => Tr.hd_v sv z)]
  refine ⟨by decide, fun p10 H10 e10 h10 => ⟨_, h10, rfl, _, _, rfl, _, _, rfl, rfl, ?_⟩⟩
  rw [hideS_eq]
  walk_at "rd"
  refine ⟨_, tupF_ext e10 hg2, _, atI_0, rfl, ?_⟩
  rw [if_neg (fun z => Tr.hd_v tv (V.str.inj z))]
  refine ⟨_, tupF_ext e10 hg2, _, atI_0, _, tupF_ext e10 hg1, _, atI_0, rfl, ?_⟩
  rw [if_pos (by simp; exact fun z => hh z.symm)]
  exact q' _ (e06.trans (((e7.trans e8).trans e9).trans e10))
end
end Sq
set_option Elab.async false
set_option linter.all false
set_option maxRecDepth 100000
set_option maxHeartbeats 4000000
namespace Sq
open PySem PySem.Spec PyProof.Rows L2 RZ
local macro_rules | `(tactic| walk_at "rd") => `(tactic| simp only [tCont, tDisp, tPairs, rIndexS, wipe, tNoPart, tDG2, tDGF, tDInF, tDNInF, sDPutF, tDNewF, rSortD, rInS, rInT, rEqLF, tDcF, tDc2F, tLcF, tForF, tAllF, tAnyF, tSumF, iEnumF, iZipF, iKeysF, iItems, tLZip, tYes, tSeq, tIfS, tNext, tRet, tRetN, tDrop, tTest, tB, tNot, tAnd, tOr, tChain, tOp, tUn, tCB, tCons, tNil, tC, tVar, tIf, tAndV, tOrV, tNotV, tAsg, tPar, tPar3, gName, gSub, gTupF, gCons, gNil, tTupF, tLstF, rI0, rI, rIxF, rIxG, rIxS, rSetF, rSlF, rCatF, rCatL, rTupL, rListT, rListL, rLenT, rLenL, iTupF, iLstF, rAppF, rExtF, rPopF, tBM, tBM0, tSl, tPart, rEq, rNe, tCall, L2.start,
  List.map_cons, List.map_nil, List.length_cons, List.length_nil, Nat.sub_self, List.replicate, List.append_nil, List.cons_append, List.nil_append, List.getElem?_cons_zero, List.getElem?_cons_succ, List.set_cons_zero, List.set_cons_succ,
  exSl, exI, exI2, exB, exS, exR, ex1, ex1', V.int.injEq, V.bl.injEq, V.ref.injEq, V.str.injEq, Option.some.injEq, List.cons.injEq, and_true, true_and, reduceCtorEq, false_and, and_false, or_false, false_or, exists_false, exists_and_left, exists_eq_left', decide_eq_true_eq, decide_true, decide_false, if_false, if_true, ite_true, ite_false, Bool.false_eq_true, Bool.not_true, Bool.not_false, Nat.reduceAdd, Nat.reduceSub, Nat.zero_add, atI_0, atI_1, atI_2, atI_3, ixN_0, ixN_1, ixN_2, cutV_1, cutV_2, Option.some.injEq, HO.lst.injEq, HO.dK.injEq, scal])
local macro_rules | `(tactic| walk_at "rdc") => `(tactic| simp (config := { contextual := true }) only [tCont, tDisp, tPairs, rIndexS, wipe, tNoPart, tDG2, tDGF, tDInF, tDNInF, sDPutF, tDNewF, rSortD, rInS, rInT, rEqLF, tDcF, tDc2F, tLcF, tForF, tAllF, tAnyF, tSumF, iEnumF, iZipF, iKeysF, iItems, tLZip, tYes, tSeq, tIfS, tNext, tRet, tRetN, tDrop, tTest, tB, tNot, tAnd, tOr, tChain, tOp, tUn, tCB, tCons, tNil, tC, tVar, tIf, tAndV, tOrV, tNotV, tAsg, tPar, tPar3, gName, gSub, gTupF, gCons, gNil, tTupF, tLstF, rI0, rI, rIxF, rIxG, rIxS, rSetF, rSlF, rCatF, rCatL, rTupL, rListT, rListL, rLenT, rLenL, iTupF, iLstF, rAppF, rExtF, rPopF, tBM, tBM0, tSl, tPart, rEq, rNe, tCall, L2.start,
  List.map_cons, List.map_nil, List.length_cons, List.length_nil, Nat.sub_self, List.replicate, List.append_nil, List.cons_append, List.nil_append, List.getElem?_cons_zero, List.getElem?_cons_succ, List.set_cons_zero, List.set_cons_succ,
  exSl, exI, exI2, exB, exS, exR, ex1, ex1', V.int.injEq, V.bl.injEq, V.ref.injEq, V.str.injEq, Option.some.injEq, List.cons.injEq, and_true, true_and, reduceCtorEq, false_and, and_false, or_false, false_or, exists_false, exists_and_left, exists_eq_left', decide_eq_true_eq, decide_true, decide_false, if_false, if_true, ite_true, ite_false, Bool.false_eq_true, Bool.not_true, Bool.not_false, Nat.reduceAdd, Nat.reduceSub, Nat.zero_add, atI_0, atI_1, atI_2, atI_3, ixN_0, ixN_1, ixN_2, cutV_1, cutV_2, Option.some.injEq, HO.lst.injEq, HO.dK.injEq, scal, *])
mutual
/-- what is_tree tells of data -/
def isT : PyData → Bool
  | .tuple (.str s :: ds) => if s = "v" then (match ds with | [.str _] => true | _ => false) else isTAll ds
  | _ => false
def isTAll : List PyData → Bool
  | [] => true
  | d :: ds => isT d && isTAll ds
end
theorem isT_data : ∀ t : Tr, isT t.data = true
  | .v x => by simp [Tr.data, isT]
  | .a => by simp only [Tr.data, isT]; rfl
  | .b => by simp only [Tr.data, isT]; rfl
  | .i t => by simp only [Tr.data, isT, isTAll, isT_data t]; rfl
  | .m t u => by simp only [Tr.data, isT, isTAll, isT_data t, isT_data u]; rfl
theorem isTAll_get : ∀ {ds : List PyData}, isTAll ds = true ↔ ∀ d ∈ ds, isT d = true
  | [] => by simp [isTAll]
  | d :: ds => by simp only [isTAll, Bool.and_eq_true, isTAll_get (ds := ds), List.mem_cons, forall_eq_or_imp]
theorem depth_mem : ∀ {ds : List PyData} {d : PyData}, d ∈ ds → d.depth ≤ PyData.depthAll ds
  | e :: ds, d, h => by
    rw [PyData.depthAll]
    rcases List.mem_cons.mp h with z | z
    · subst z; exact Nat.le_max_left _ _
    · exact Nat.le_trans (depth_mem z) (Nat.le_max_right _ _)
theorem lay_mem : ∀ {ds : List PyData} {d : PyData}, d ∈ ds → PyData.canLayAll0 ds = true → d.canLay0 = true
  | e :: ds, d, h, k => by
    rw [PyData.canLayAll0, Bool.and_eq_true] at k
    rcases List.mem_cons.mp h with z | z
    · subst z; exact k.1
    · exact lay_mem z k.2
/-- all over a tuple -/
theorem gall_tup {K : PySem.W.Frag} {P p : Addr} {ws : List V} {te : TE} {vs : List Nat} {σ : L2.St} {H1 : Hp} {Qt Qf : Hp → Prop} {i : Nat} (r : Nat → Bool) (ht : GxR.TabG H1 P) (hp : tupF K H1 p = some ws)
    (hσ : ∀ x, wipe ((wipe σ vs).set i (some x)) vs = wipe σ vs)
    (hte : ∀ (j : Nat) (x : V) (H' : Hp) (R : VK), ws[j]? = some x → Ext [] H1 H' → (∀ H'', Ext [] H' H'' → R (.bl (r j)) H'') → te ((wipe σ vs).set i (some x)) H' R)
    (hF : ∀ H' j, j < ws.length → r j = false → Ext [] H1 H' → Qf H') (hT : ∀ H', (∀ j, j < ws.length → r j = true) → Ext [] H1 H' → Qt H') :
    GB P (Itt K p) (gName i) tYes te vs () (fun _ y H N => ∃ b, y = .bl b ∧ if b = true then N () H else Qf H) (fun _ H => Qt H) σ H1 := by
  refine gen_go walk_tup ht (fun j _ H' => (∀ m, m < j → r m = true) ∧ Ext [] H1 H') (fun H2 e => ⟨fun m hm => absurd hm (Nat.not_lt_zero _), e⟩) (fun j t H' _ ⟨_, e⟩ => tupF_sq (tupF_ext e hp)) (fun j x t H' H'' hj ⟨hs, e⟩ y => ?_) fun t H' ⟨hs, e⟩ => hT H' hs e
  obtain ⟨rfl, hx⟩ := y
  refine ⟨hσ _, ?_⟩
  simp only [tYes, if_true]
  refine hte j x _ _ hx e fun H4 e4 => ⟨_, rfl, ?_⟩
  cases hr : r j with
  | false => simp only [Bool.false_eq_true, if_false]; exact hF H4 j hj hr (e.trans e4)
  | true =>
    simp only [if_true]
    refine ⟨fun m hm => ?_, e.trans e4⟩
    by_cases q : m = j
    · rw [q]; exact hr
    · exact hs m (by omega)
section
variable {P : Program} {w : World} {K : PySem.W.Frag} {mg : Str → Option Value} {base : Heap} {f c tb : Addr} {fd : FuncData} {NS : List Str}
abbrev s_is_tree : Stmt := top 1
abbrev n_is_tree : List Str := ["thing", "part"]
theorem sc_is_tree : FnScope n_is_tree ["thing"] (defScope s_is_tree) := ⟨rfl, rfl, rfl, by decide +kernel, rfl, by decide +kernel, by decide +kernel⟩
def spIsT (K : PySem.W.Frag) (tb : Addr) (k : Nat) : Sp := fun vs H Q _ => ∃ (v : V), vs = [v] ∧ GxR.TabG H tb ∧ 2 ≤ k ∧
  ((∃ d, Td K H v d ∧ SeqAt.shaped d = true ∧ 2 * d.depth + 2 ≤ k ∧ ∀ H', Ext [] H H' → Q (.bl (isT d)) H') ∨ ∃ a ys, v = .ref a ∧ H a = some (.lst ys) ∧ ∀ H', Ext [] H H' → Q (.bl false) H')
theorem ok_isT (F : Dn K mg "is_tree" s_is_tree f fd c) (B : Bl mg) (TB : GxR.TabB base mg c tb) : ∀ k, Cal P w K mg base k "is_tree" (spIsT K tb k) := by
  have h0 : ∀ k, k < 2 → ∀ vs H Q E, ¬ spIsT K tb k vs H Q E := fun k hk vs H Q E ⟨v, _, _, h, _⟩ => by omega
  refine F.calRec2 (ps := ["thing"]) (fun _ _ _ _ _ _ us hl => match us, hl with | [_], _ => rfl) (h0 0 (by omega)) (h0 1 (by omega)) fun k G_is_tree => ?_
  refine F.ok sc_is_tree (fun vs H Q E h => ?_) (fun A outer s H vs Q E hrG h => ?_)
  · obtain ⟨_, rfl, _⟩ := h; rfl
  have hr := hrG.mono (Nat.le_succ k)
  obtain ⟨v, rfl, htb, _, h⟩ := h
  refine ⟨_, (pss_cons (ps_if (PW.pt (pw_or (pt_not (pt_val (pe_callB (call_isTup K) (by rfl) B.b_isinstance (by decide +kernel) (pa_cons (pv 0) (pa_cons (pe_bltn (v := .ty "tuple") (u := .type "tuple") (by rfl) B.b_tuple (by decide +kernel) rfl) pa_nil))))) (pw_or (pt_cmpR (op_eqK K hr.units) (pv 0) (pe_tupK K pa_nil) (nomark _)) (pw_or1 (pt_not (pt_val (pe_callB (call_isStr K) (by rfl) B.b_isinstance (by decide +kernel) (pa_cons (pe_ix (ix_tupK K) (pv 0) pe_int (fun _ _ => rfl)) (pa_cons (pe_bltn (v := .ty "str") (u := .type "str") (by rfl) B.b_str (by decide +kernel) rfl) pa_nil))))))))) (pss_one (ps_ret pe_bl)) pss_nil)
    (pss_cons (ps_if (pt_cmpR op_eq (pe_ix (ix_tupK K) (pv 0) pe_int (fun _ _ => rfl)) pe_str (nomark _)) (pss_one (ps_ret (pe_and (pe_cmpR op_eq (pe_callB (call_lenK K) (by rfl) B.b_len (by decide +kernel) (pa_cons (pv 0) pa_nil)) pe_int (nomark _)) (pe_one (pe_callB (call_isStr K) (by rfl) B.b_isinstance (by decide +kernel) (pa_cons (pe_ix (ix_tupK K) (pv 0) pe_int (fun _ _ => rfl)) (pa_cons (pe_bltn (v := .ty "str") (u := .type "str") (by rfl) B.b_str (by decide +kernel) rfl) pa_nil))))))) pss_nil)
    (pss_one (ps_ret (pe_allF (own := [("part", 1)]) hr rfl sc_is_tree.nd (by rfl) B.b_all TB rfl (pi_tupK K (pe_slice (sl_tupK K) (pv 0) (po_some pe_int) po_none)) (blkOk_by (own := [("part", 1)]) (N := n_is_tree) (sc := defScope s_is_tree) (by decide +kernel)) (by decide +kernel) (by rfl) (by rfl) (fun _ _ _ _ _ => (pg_name (i := 1) sc_is_tree.nd rfl (by first | exact Or.inl rfl | exact Or.inr rfl))) (fun _ _ _ _ _ => pts_nil) (fun _ _ _ _ _ => (C8.pe_c G_is_tree (Room.gen hrG) (by omega) (by rfl) (pa_cons (pv 1) pa_nil)))))))), ?_⟩
  walk_at "rd"
  rcases h with ⟨d, hd, sh, hk, q⟩ | ⟨a, ys, rfl, ha, q⟩
  case inr =>
    refine ⟨.ref a, rfl, .inr ⟨a, ys, rfl, ha, _, rfl, ?_⟩⟩
    rw [if_pos (by decide)]
    exact q H (Ext.refl _ _)
  refine ⟨v, rfl, .inl ⟨d, hd, _, rfl, ?_⟩⟩
  have flat : isTupD d = false → isT d = false → if (!isTupD d) = true then Q (V.bl false) H else False := fun h1 h2 => by
    rw [h1, if_pos (by decide)]
    have := q H (Ext.refl _ _)
    rw [h2] at this
    exact this
  cases hd with
  | non => rw [if_pos (by decide)]; simpa [isTupD, isT] using flat
  | bl b => rw [if_pos (by rfl)]; simpa [isTupD, isT] using flat
  | int n => rw [if_pos (by rfl)]; simpa [isTupD, isT] using flat
  | str x => rw [if_pos (by rfl)]; simpa [isTupD, isT] using flat
  | @tup a xs ds htup hall =>
    clear flat
    rw [if_neg (by show ¬ (!true) = true; decide)]
    refine ⟨by decide, fun pe H2 e2 hpe => ⟨.tuple ds, .tuple [], Td.ext e2 (.tup htup hall), .tup hpe .nil, sh, by decide +kernel, _, rfl, ?_⟩⟩
    cases hall with
    | nil =>
      rw [if_pos (by decide +kernel)]
      have := q H2 e2
      simpa [isT] using this
    | @cons v1 vs1 d1 ds1 h1 hr1 =>
      rw [if_neg (by rw [if_neg (by decide), Tr.eqv_tup, Tr.eqvAll_cn]; decide)]
      refine ⟨a, rfl, _, tupF_ext e2 htup, v1, atI_0, v1, d1, rfl, h1.ext e2, _, rfl, ?_⟩
      have flat : isStrD d1 = false → isT (.tuple (d1 :: ds1)) = false → Q (V.bl false) H2 := fun _ h2 => by
        have := q H2 e2
        rw [h2] at this
        exact this
      cases h1 with
      | non => rw [if_pos (by decide)]; exact flat rfl (by simp [isT])
      | bl b => rw [if_pos (by rfl)]; exact flat rfl (by simp [isT])
      | int n => rw [if_pos (by rfl)]; exact flat rfl (by simp [isT])
      | tup _ _ => rw [if_pos (by rfl)]; exact flat rfl (by simp [isT])
      | str x =>
        clear flat
        rw [if_neg (by show ¬ (!true) = true; decide)]
        refine ⟨a, rfl, _, tupF_ext e2 htup, _, atI_0, rfl, ?_⟩
        by_cases hx : x = "v"
        · subst hx
          rw [if_pos rfl]
          refine ⟨a, rfl, _, tupF_ext e2 htup, ?_⟩
          cases hr1 with
          | nil =>
            rw [if_neg (by simp)]
            have := q H2 e2
            simpa [isT] using this
          | @cons v2 vs2 d2 ds2 h2 hr2 =>
            cases hr2 with
            | cons h3 hr3 =>
              rw [if_neg (by simp only [List.length_cons]; omega)]
              have := q H2 e2
              cases d2 <;> simpa [isT] using this
            | nil =>
              rw [if_pos (by simp)]
              refine ⟨a, rfl, _, tupF_ext e2 htup, v2, atI_1, v2, d2, rfl, h2.ext e2, ?_⟩
              have := q H2 e2
              cases h2 <;> simpa [isT, isStrD] using this
        · rw [if_neg (fun z => hx (V.str.inj z))]
          refine ⟨a, rfl, _, tupF_ext e2 htup, fun p1 H3 e3 h3 => ⟨_, h3, ?_⟩⟩
          rw [cutV_1] at h3
          have hiT : isT (.tuple (.str x :: ds1)) = isTAll ds1 := by simp [isT, hx]
          rw [hiT] at q
          have hsl := SeqAt.canLay_of_shaped sh
          have hsd := SeqAt.depth_of_shaped sh
          rw [PyData.canLay0, PyData.canLayAll0, Bool.and_eq_true] at hsl
          have hdp : (PyData.tuple (.str x :: ds1)).depth = PyData.depthAll (.str x :: ds1) + 1 := by rw [PyData.depth]
          have hdp2 : PyData.depthAll ds1 ≤ PyData.depthAll (.str x :: ds1) := by rw [PyData.depthAll]; exact Nat.le_max_right _ _
          have hl := hr1.length
          refine gall_tup (fun j => match ds1[j]? with | some d => isT d | none => true) (e3.tab _ (e2.tab _ htb)) h3 (fun x => rfl) (fun j z H' R hz e hR => ?_) (fun H' j hj hr e => ?_) fun H' hr e => ?_
          · obtain ⟨d, hd, htd⟩ := hr1.get hz
            have hm := List.mem_of_getElem? hd
            have hdd := depth_mem hm
            simp only [hd] at hR
            walk_at "rd"
            have hshd : SeqAt.shaped d = true := by
              unfold SeqAt.shaped
              rw [lay_mem hm hsl.2, decide_eq_true (by omega)]
              rfl
            exact ⟨z, rfl, e.tab _ (e3.tab _ (e2.tab _ htb)), by omega, .inl ⟨d, ((htd.ext e2).ext e3).ext e, hshd, by omega, hR⟩⟩
          · have hf : isTAll ds1 = false := by
              cases hb : isTAll ds1 with
              | false => rfl
              | true =>
                have hj' : j < ds1.length := by omega
                have e1 : ds1[j]? = some ds1[j] := List.getElem?_eq_getElem hj'
                simp only [e1] at hr
                rw [isTAll_get.mp hb _ (List.getElem_mem hj')] at hr
                cases hr
            have := q H' ((e2.trans e3).trans e)
            rw [hf] at this
            exact this
          · have ht : isTAll ds1 = true := isTAll_get.mpr fun d hd => by
              obtain ⟨j, hj, e1⟩ := List.mem_iff_getElem.mp hd
              have := hr j (by omega)
              simp only [List.getElem?_eq_getElem hj, e1] at this
              exact this
            have := q H' ((e2.trans e3).trans e)
            rw [ht] at this
            exact this
end
end Sq
set_option Elab.async false
set_option linter.all false
set_option maxRecDepth 100000
set_option maxHeartbeats 4000000
namespace Sq
open PySem PySem.Spec PyProof.Rows L2 RZ
local macro_rules | `(tactic| walk_at "rd") => `(tactic| simp only [tCont, tDisp, tPairs, rIndexS, wipe, tNoPart, tDG2, tDGF, tDInF, tDNInF, sDPutF, tDNewF, rSortD, rInS, rInT, rEqLF, tDcF, tDc2F, tLcF, tForF, tAllF, tAnyF, tSumF, iEnumF, iZipF, iKeysF, iItems, tLZip, tYes, tSeq, tIfS, tNext, tRet, tRetN, tDrop, tTest, tB, tNot, tAnd, tOr, tChain, tOp, tUn, tCB, tCons, tNil, tC, tVar, tIf, tAndV, tOrV, tNotV, tAsg, tPar, tPar3, gName, gSub, gTupF, gCons, gNil, tTupF, tLstF, rI0, rI, rIxF, rIxG, rIxS, rSetF, rSlF, rCatF, rCatL, rTupL, rListT, rListL, rLenT, rLenL, iTupF, iLstF, rAppF, rExtF, rPopF, tBM, tBM0, tSl, tPart, rEq, rNe, tCall, L2.start,
  List.map_cons, List.map_nil, List.length_cons, List.length_nil, Nat.sub_self, List.replicate, List.append_nil, List.cons_append, List.nil_append, List.getElem?_cons_zero, List.getElem?_cons_succ, List.set_cons_zero, List.set_cons_succ,
  exSl, exI, exI2, exB, exS, exR, ex1, ex1', V.int.injEq, V.bl.injEq, V.ref.injEq, V.str.injEq, Option.some.injEq, List.cons.injEq, and_true, true_and, reduceCtorEq, false_and, and_false, or_false, false_or, exists_false, exists_and_left, exists_eq_left', decide_eq_true_eq, decide_true, decide_false, if_false, if_true, ite_true, ite_false, Bool.false_eq_true, Bool.not_true, Bool.not_false, Nat.reduceAdd, Nat.reduceSub, Nat.zero_add, atI_0, atI_1, atI_2, atI_3, ixN_0, ixN_1, ixN_2, cutV_1, cutV_2, Option.some.injEq, HO.lst.injEq, HO.dK.injEq, scal])
local macro_rules | `(tactic| walk_at "rdc") => `(tactic| simp (config := { contextual := true }) only [tCont, tDisp, tPairs, rIndexS, wipe, tNoPart, tDG2, tDGF, tDInF, tDNInF, sDPutF, tDNewF, rSortD, rInS, rInT, rEqLF, tDcF, tDc2F, tLcF, tForF, tAllF, tAnyF, tSumF, iEnumF, iZipF, iKeysF, iItems, tLZip, tYes, tSeq, tIfS, tNext, tRet, tRetN, tDrop, tTest, tB, tNot, tAnd, tOr, tChain, tOp, tUn, tCB, tCons, tNil, tC, tVar, tIf, tAndV, tOrV, tNotV, tAsg, tPar, tPar3, gName, gSub, gTupF, gCons, gNil, tTupF, tLstF, rI0, rI, rIxF, rIxG, rIxS, rSetF, rSlF, rCatF, rCatL, rTupL, rListT, rListL, rLenT, rLenL, iTupF, iLstF, rAppF, rExtF, rPopF, tBM, tBM0, tSl, tPart, rEq, rNe, tCall, L2.start,
  List.map_cons, List.map_nil, List.length_cons, List.length_nil, Nat.sub_self, List.replicate, List.append_nil, List.cons_append, List.nil_append, List.getElem?_cons_zero, List.getElem?_cons_succ, List.set_cons_zero, List.set_cons_succ,
  exSl, exI, exI2, exB, exS, exR, ex1, ex1', V.int.injEq, V.bl.injEq, V.ref.injEq, V.str.injEq, Option.some.injEq, List.cons.injEq, and_true, true_and, reduceCtorEq, false_and, and_false, or_false, false_or, exists_false, exists_and_left, exists_eq_left', decide_eq_true_eq, decide_true, decide_false, if_false, if_true, ite_true, ite_false, Bool.false_eq_true, Bool.not_true, Bool.not_false, Nat.reduceAdd, Nat.reduceSub, Nat.zero_add, atI_0, atI_1, atI_2, atI_3, ixN_0, ixN_1, ixN_2, cutV_1, cutV_2, Option.some.injEq, HO.lst.injEq, HO.dK.injEq, scal, *])
/-! ### the shared tree -/
def pn (k : Nat) : Str := "p" ++ Str.ofString (toString ((k : Nat) : Int))
abbrev TP := List (Tr × Tr)
def addP (P : TP) (q : Tr × Tr) : TP := if q ∈ P then P else P ++ [q]
def sh (P : TP) : Tr → Tr → Tr × TP
  | .i s, .i t => (.i (sh P s t).1, (sh P s t).2)
  | .m s s', .m t t' => (.m (sh P s t).1 (sh (sh P s t).2 s' t').1, (sh (sh P s t).2 s' t').2)
  | s, t => if s = t then (s, P) else (.v (pn ((addP P (s, t)).idxOf (s, t))), addP P (s, t))
def shA (P : TP) : List Tr → List Tr → List Tr × TP
  | s :: ss, t :: ts => ((sh P s t).1 :: (shA (sh P s t).2 ss ts).1, (shA (sh P s t).2 ss ts).2)
  | _, _ => ([], P)
theorem sh_nv {P : TP} {s t : Tr} (hs : s.isV = false) (ht : t.isV = false) (hh : s.hd = t.hd) : (sh P s t).1.isV = false ∧ (sh P s t).1.hd = s.hd ∧ (sh P s t).1.args = (shA P s.args t.args).1 ∧ (sh P s t).2 = (shA P s.args t.args).2 := by
  cases s <;> cases t <;> first | (cases hs; done) | (cases ht; done) | (exact ⟨rfl, rfl, rfl, rfl⟩) | (exact absurd hh (by first | decide | (simp only [Tr.hd]; done) | (simp only [Tr.hd]; decide)))
theorem sh_un {P : TP} {s t : Tr} (hh : s.hd ≠ t.hd) : sh P s t = (.v (pn ((addP P (s, t)).idxOf (s, t))), addP P (s, t)) := by
  have ne : s ≠ t := fun z => hh (by rw [z])
  cases s <;> cases t <;> first | (exact absurd rfl hh) | (unfold sh; rw [if_neg ne])
/-- the unlike parts -/
def dis : Tr → Tr → TP
  | .i s, .i t => dis s t
  | .m s s', .m t t' => dis s t ++ dis s' t'
  | s, t => if s = t then [] else [(s, t)]
def shF (F : TP) : Tr → Tr → Tr
  | .i s, .i t => .i (shF F s t)
  | .m s s', .m t t' => .m (shF F s t) (shF F s' t')
  | s, t => if s = t then s else .v (pn (F.idxOf (s, t)))
theorem sh_snd : ∀ (s t : Tr) (P : TP), (sh P s t).2 = (dis s t).foldl addP P := by
  intro s
  induction s with
  | i s ih =>
    intro t P
    cases t with
    | i t => exact ih t P
    | v x => unfold sh dis; rw [if_neg (by simp), if_neg (by simp)]; rfl
    | a => unfold sh dis; rw [if_neg (by simp), if_neg (by simp)]; rfl
    | b => unfold sh dis; rw [if_neg (by simp), if_neg (by simp)]; rfl
    | m t t' => unfold sh dis; rw [if_neg (by simp), if_neg (by simp)]; rfl
  | m s s' ih ih' =>
    intro t P
    cases t with
    | m t t' => show (sh (sh P s t).2 s' t').2 = _; rw [ih', ih]; exact List.foldl_append.symm
    | v x => unfold sh dis; rw [if_neg (by simp), if_neg (by simp)]; rfl
    | a => unfold sh dis; rw [if_neg (by simp), if_neg (by simp)]; rfl
    | b => unfold sh dis; rw [if_neg (by simp), if_neg (by simp)]; rfl
    | i t => unfold sh dis; rw [if_neg (by simp), if_neg (by simp)]; rfl
  | v x => intro t P; cases t <;> (unfold sh dis; split <;> rfl)
  | a => intro t P; cases t <;> (unfold sh dis; split <;> rfl)
  | b => intro t P; cases t <;> (unfold sh dis; split <;> rfl)
theorem foldl_addP : ∀ (D P : TP), ∃ R, D.foldl addP P = P ++ R ∧ R.length ≤ D.length ∧ (∀ q, q ∈ P ++ R ↔ q ∈ P ∨ q ∈ D)
  | [], P => ⟨[], by simp⟩
  | d :: D, P => by
    obtain ⟨R, h1, h2, h3⟩ := foldl_addP D (addP P d)
    rw [List.foldl_cons, h1]
    unfold addP at h3 ⊢
    by_cases hd : d ∈ P
    · rw [if_pos hd] at h3 ⊢
      refine ⟨R, rfl, by simp only [List.length_cons]; omega, fun q => ?_⟩
      rw [h3 q, List.mem_cons]
      constructor
      · rintro (z | z)
        · exact .inl z
        · exact .inr (.inr z)
      · rintro (z | z | z)
        · exact .inl z
        · subst z; exact .inl hd
        · exact .inr z
    · rw [if_neg hd] at h3 ⊢
      refine ⟨d :: R, by simp, by simp only [List.length_cons]; omega, fun q => ?_⟩
      have e : P ++ d :: R = (P ++ [d]) ++ R := by simp
      rw [e, h3 q, List.mem_cons, List.mem_append, List.mem_singleton]
      constructor
      · rintro ((z | z) | z)
        · exact .inl z
        · exact .inr (.inl z)
        · exact .inr (.inr z)
      · rintro (z | z | z)
        · exact .inl (.inl z)
        · exact .inl (.inr z)
        · exact .inr z
theorem dis_len : ∀ (s t : Tr), (dis s t).length ≤ s.sz := by
  intro s
  have leaf : ∀ (s t : Tr), (if s = t then [] else [(s, t)] : TP).length ≤ s.sz := fun s t => by
    have := s.sz_pos
    split <;> simp <;> omega
  induction s with
  | i s ih =>
    intro t
    cases t with
    | i t => have := ih t; simp only [dis, Tr.sz]; omega
    | _ => exact leaf _ _
  | m s s' ih ih' =>
    intro t
    cases t with
    | m t t' => have := ih t; have := ih' t'; simp only [dis, Tr.sz, List.length_append]; omega
    | _ => exact leaf _ _
  | _ => intro t; cases t <;> exact leaf _ _
theorem dis_mem : ∀ (s t : Tr) (q : Tr × Tr), q ∈ dis s t → s.names = [] → t.names = [] → q.1.names = [] ∧ q.2.names = [] ∧ q.1.dep ≤ s.dep ∧ q.2.dep ≤ t.dep := by
  intro s
  have leaf : ∀ (s t : Tr) (q : Tr × Tr), q ∈ (if s = t then [] else [(s, t)] : TP) → s.names = [] → t.names = [] → q.1.names = [] ∧ q.2.names = [] ∧ q.1.dep ≤ s.dep ∧ q.2.dep ≤ t.dep := fun s t q h h1 h2 => by
    split at h
    · cases h
    · have : q = (s, t) := by simpa using h
      subst this
      exact ⟨h1, h2, Nat.le_refl _, Nat.le_refl _⟩
  induction s with
  | i s ih =>
    intro t q h h1 h2
    cases t with
    | i t => obtain ⟨a, b, c, d⟩ := ih t q h h1 h2; exact ⟨a, b, Nat.le_succ_of_le c, Nat.le_succ_of_le d⟩
    | _ => exact leaf _ _ _ h h1 h2
  | m s s' ih ih' =>
    intro t q h h1 h2
    cases t with
    | m t t' =>
      simp only [Tr.names, List.append_eq_nil_iff] at h1 h2
      rcases List.mem_append.mp h with z | z
      · obtain ⟨a, b, c, d⟩ := ih t q z h1.1 h2.1; exact ⟨a, b, by simp only [Tr.dep]; omega, by simp only [Tr.dep]; omega⟩
      · obtain ⟨a, b, c, d⟩ := ih' t' q z h1.2 h2.2; exact ⟨a, b, by simp only [Tr.dep]; omega, by simp only [Tr.dep]; omega⟩
    | _ => exact leaf _ _ _ h h1 h2
  | _ => intro t q h h1 h2; cases t <;> exact leaf _ _ _ h h1 h2
theorem idx_pre {q : Tr × Tr} {P R : TP} (h : q ∈ P) : (P ++ R).idxOf q = P.idxOf q := by rw [List.idxOf_append]; simp [h]
/-- the names are those of the last list -/
theorem sh_fst : ∀ (s t : Tr) (P R : TP), (sh P s t).1 = shF ((sh P s t).2 ++ R) s t := by
  intro s
  have leaf : ∀ (s t : Tr) (P R : TP), (if s = t then (s, P) else (Tr.v (pn ((addP P (s, t)).idxOf (s, t))), addP P (s, t))).1 = if s = t then s else .v (pn (((if s = t then (s, P) else (Tr.v (pn ((addP P (s, t)).idxOf (s, t))), addP P (s, t))).2 ++ R).idxOf (s, t))) := fun s t P R => by
    split
    · rfl
    · rw [idx_pre]
      unfold addP
      split
      · assumption
      · simp
  induction s with
  | i s ih =>
    intro t P R
    cases t with
    | i t => exact congrArg Tr.i (ih t P R)
    | _ => exact leaf _ _ _ _
  | m s s' ih ih' =>
    intro t P R
    cases t with
    | m t t' =>
      show Tr.m _ _ = Tr.m _ _
      obtain ⟨R', e, _⟩ := foldl_addP (dis s' t') (sh P s t).2
      have e1 : (sh (sh P s t).2 s' t').1 = shF ((sh P (.m s s') (.m t t')).2 ++ R) s' t' := ih' t' _ R
      rw [← e1]
      have e2 : (sh P (.m s s') (.m t t')).2 ++ R = (sh P s t).2 ++ (R' ++ R) := by
        show (sh (sh P s t).2 s' t').2 ++ R = _
        rw [sh_snd s' t', e, List.append_assoc]
      rw [e2, ← ih t P (R' ++ R)]
    | _ => exact leaf _ _ _ _
  | _ => intro t P R; cases t <;> exact leaf _ _ _ _
theorem pn_len : ∀ k, k < 64 → (pn k).length ≤ 3 := by
  have : ∀ k ∈ List.range 64, (pn k).length ≤ 3 := by decide +kernel
  exact fun k hk => this k (List.mem_range.mpr hk)
theorem pn_txt : ∀ k, k < 64 → (Str.ofString (toString ((k : Nat) : Int))).length ≤ 2 := by
  have : ∀ k ∈ List.range 64, (Str.ofString (toString ((k : Nat) : Int))).length ≤ 2 := by decide +kernel
  exact fun k hk => this k (List.mem_range.mpr hk)
theorem log_small {k : Nat} (h : k < 64) : ((k : Nat) : Int).natAbs.log2 < 1920 := by
  have : ∀ k ∈ List.range 64, ((k : Nat) : Int).natAbs.log2 < 1920 := by decide +kernel
  exact this k (List.mem_range.mpr h)
theorem idx_spec {q : Tr × Tr} : ∀ {l : TP}, q ∈ l → l[l.idxOf q]? = some q ∧ ∀ m z, m < l.idxOf q → l[m]? = some z → z ≠ q
  | x :: l, h => by
    by_cases e : x = q
    · subst e
      rw [List.idxOf_cons_self]
      exact ⟨rfl, fun m z hm => absurd hm (Nat.not_lt_zero _)⟩
    · have e' : (x == q) = false := by simpa using e
      have hq : q ∈ l := by
        rcases List.mem_cons.mp h with z | z
        · exact absurd z.symm e
        · exact z
      obtain ⟨i1, i2⟩ := idx_spec hq
      rw [List.idxOf_cons, e']
      refine ⟨by simpa using i1, fun m z hm hz => ?_⟩
      cases m with
      | zero => have : x = z := by simpa using hz
                rw [← this]; exact e
      | succ m => exact i2 m z (by simp at hm; omega) (by simpa using hz)
theorem pairD_eqv (p q : Tr × Tr) : PyData.eqv (pairD p) (pairD q) = decide (p = q) := by
  obtain ⟨a, b⟩ := p
  obtain ⟨c, d⟩ := q
  unfold pairD
  rw [Tr.eqv_tup, Tr.eqvAll_cons, Tr.eqvAll_cons, Tr.eqv_data, Tr.eqv_data, Tr.eqvAll_nil, Bool.and_true]
  simp [Prod.mk.injEq]
theorem pairs_any (q : Tr × Tr) (P : TP) : ((P.map pairD).any fun z => PyData.eqv z (pairD q)) = decide (q ∈ P) := by
  rw [List.any_map]
  induction P with
  | nil => rfl
  | cons p P ih =>
    rw [List.any_cons, ih, Function.comp, pairD_eqv]
    by_cases e : p = q
    · subst e; simp
    · simp [e, Ne.symm e]
theorem shA_snoc {s t : Tr} : ∀ {ss ts : List Tr} {P : TP}, ss.length = ts.length → shA P (ss ++ [s]) (ts ++ [t]) = ((shA P ss ts).1 ++ [(sh (shA P ss ts).2 s t).1], (sh (shA P ss ts).2 s t).2)
  | [], [], P, _ => rfl
  | a :: ss, b :: ts, P, h => by
    have := shA_snoc (s := s) (t := t) (ss := ss) (ts := ts) (P := (sh P a b).2) (by simpa using h)
    simp only [List.cons_append, shA, this]
theorem shA_len : ∀ {ss ts : List Tr} {P : TP}, ss.length = ts.length → (shA P ss ts).1.length = ss.length ∧ (shA P ss ts).2.length ≤ P.length + (ss.map Tr.sz).sum
  | [], [], P, _ => ⟨rfl, by simp [shA]⟩
  | s :: ss, t :: ts, P, h => by
    obtain ⟨h1, h2⟩ := shA_len (ss := ss) (ts := ts) (P := (sh P s t).2) (by simpa using h)
    obtain ⟨R, e, hR, _⟩ := foldl_addP (dis s t) P
    have hl : (sh P s t).2.length ≤ P.length + s.sz := by
      have := dis_len s t
      rw [sh_snd, e, List.length_append]; omega
    simp only [shA, List.length_cons, List.map_cons, List.sum_cons, h1]
    exact ⟨trivial, by omega⟩
theorem sz_take {ts : List Tr} {j : Nat} {t : Tr} (h : ts[j]? = some t) : ((ts.take j).map Tr.sz).sum + t.sz ≤ (ts.map Tr.sz).sum := by
  induction ts generalizing j with
  | nil => simp at h
  | cons x ts ih =>
    cases j with
    | zero => have : x = t := by simpa using h
              subst this; simp
    | succ j => have := ih (j := j) (by simpa using h); simp only [List.take_succ_cons, List.map_cons, List.sum_cons]; omega
section
variable {P : Program} {w : World} {K : PySem.W.Frag} {mg : Str → Option Value} {base : Heap} {f c : Addr} {fd : FuncData}
abbrev s_share : Stmt := top 7
abbrev n_share : List Str := ["one", "other", "pairs", "a", "b"]
theorem sc_share : FnScope n_share ["one", "other", "pairs"] (defScope s_share) := ⟨rfl, rfl, rfl, by decide +kernel, rfl, by decide +kernel, by decide +kernel⟩
structure PB (P : TP) : Prop where
  ok : ∀ q ∈ P, q.1.names = [] ∧ q.2.names = [] ∧ q.1.dep ≤ 20 ∧ q.2.dep ≤ 20
theorem PB.sh {P : TP} (h : PB P) {s t : Tr} (gs : s.names = []) (gt : t.names = []) (ds : s.dep ≤ 20) (dt : t.dep ≤ 20) : PB (sh P s t).2 := ⟨fun q hq => by
  obtain ⟨R, e, _, hm⟩ := foldl_addP (dis s t) P
  rw [sh_snd, e] at hq
  rcases (hm q).mp hq with z | z
  · exact h.ok q z
  · obtain ⟨a, b, c, d⟩ := dis_mem s t q z gs gt
    exact ⟨a, b, by omega, by omega⟩⟩
def spShare (K : PySem.W.Frag) (k : Nat) : Sp := fun vs H Q _ => ∃ (v u : V) (a : Addr) (s t : Tr) (ws : List V) (P : TP), vs = [v, u, .ref a] ∧ Td K H v s.data ∧ Td K H u t.data ∧ s.dep ≤ k ∧ s.names = [] ∧ t.names = [] ∧ s.dep ≤ 20 ∧ t.dep ≤ 20 ∧ H a = some (.lst ws) ∧ TdAll K H ws (P.map pairD) ∧ PB P ∧ P.length + s.sz ≤ 60 ∧
  ∀ (v' : V) (H' : Hp) (ws' : List V), Ext [a] H H' → Td K H' v' (sh P s t).1.data → H' a = some (.lst ws') → TdAll K H' ws' ((sh P s t).2.map pairD) → Q v' H'
theorem ok_share (F : Dn K mg "share" s_share f fd c) (B : Bl mg) : ∀ k, Cal P w K mg base k "share" (spShare K k) := by
  refine F.calRec (ps := ["one", "other", "pairs"]) (fun _ _ _ _ _ _ us hl => match us, hl with | [_, _, _], _ => rfl) (fun vs H Q E ⟨v, u, a, s, t, ws, P, _, _, _, h, _⟩ => by have := s.dep_pos; omega) fun k G_share => ?_
  refine F.ok sc_share (fun vs H Q E h => ?_) (fun A outer s0 H vs Q E hr h => ?_)
  · obtain ⟨_, _, _, _, _, _, _, rfl, _⟩ := h; rfl
  obtain ⟨v, u, a, s, t, ws, P, rfl, hs, ht, hk, gs, gt, ds, dt, ha, hall, pb, hsz, q⟩ := h
  refine ⟨_, (pss_cons (ps_if (PW.pt (pw_and (pt_cmpR op_ne (pe_ix (ix_tupK K) (pv 0) pe_int (fun _ _ => rfl)) pe_str (nomark _)) (pw_and (pt_cmpR op_eq (pe_ix (ix_tupK K) (pv 0) pe_int (fun _ _ => rfl)) (pe_ix (ix_tupK K) (pv 1) pe_int (fun _ _ => rfl)) (nomark _)) (pw_and1 (pt_cmpR op_eq (pe_callB (call_lenK K) (by rfl) B.b_len (by decide +kernel) (pa_cons (pv 0) pa_nil)) (pe_callB (call_lenK K) (by rfl) B.b_len (by decide +kernel) (pa_cons (pv 1) pa_nil)) (nomark _)))))) (pss_one (ps_ret (pe_op (op_catK K) (pe_tupK K (pa_cons (pe_ix (ix_tupK K) (pv 0) pe_int (fun _ _ => rfl)) pa_nil)) (pe_callTy (call_tupleK K) (by rfl) B.b_tuple (by decide +kernel) (pa_cons (pe_lcF (own := [("a", 3), ("b", 4)]) rfl sc_share.nd (pi_zipK K (by rfl) B.b_zip (pa_cons (pe_slice (sl_tupK K) (pv 0) (po_some pe_int) po_none) (pa_cons (pe_slice (sl_tupK K) (pv 1) (po_some pe_int) po_none) pa_nil))) (blkOk_by (own := [("a", 3), ("b", 4)]) (N := n_share) (sc := defScope s_share) (by decide +kernel)) (fun _ _ _ _ _ => (pg_tupZ K (n := 2) (by rfl) (pgs_cons (pg_name (i := 3) sc_share.nd rfl (by first | exact Or.inl rfl | exact Or.inr rfl)) (pgs_cons (pg_name (i := 4) sc_share.nd rfl (by first | exact Or.inl rfl | exact Or.inr rfl)) pgs_nil)))) (fun _ _ _ _ _ => pts_nil) (fun _ _ _ _ _ => (C8.pe_c G_share hr (by omega) (by rfl) (pa_cons (pv 3) (pa_cons (pv 4) (pa_cons (pv 2) pa_nil)))))) pa_nil))))) pss_nil)
    (pss_cons (ps_if (pt_cmpR (op_eqK K hr.units) (pv 0) (pv 1) (nomark _)) (pss_one (ps_ret (pv 0))) pss_nil)
    (pss_cons (ps_if (pt_cmpR (op_ninLK K (units65 hr)) (pe_tupK K (pa_cons (pv 0) (pa_cons (pv 1) pa_nil))) (pv 2) (by rfl)) (pss_one (ps_expr (pe_bm PySem.F.plainAttrs_list PySem.F.slot_list_append PySem.F.type_list_append mt_appF (pv 2) (pa_cons (pe_tupK K (pa_cons (pv 0) (pa_cons (pv 1) pa_nil))) pa_nil)))) pss_nil)
    (pss_one (ps_ret (pe_tupK K (pa_cons pe_str (pa_cons (pe_op op_add_str pe_str (pe_callTy call_str_int (by rfl) B.b_str (by decide +kernel) (pa_cons (pe_bm PySem.F.plainAttrs_list PySem.F.slot_list_index PySem.F.type_list_index (mt_indexLK K (units65 hr)) (pv 2) (pa_cons (pe_tupK K (pa_cons (pv 0) (pa_cons (pv 1) pa_nil))) pa_nil)) pa_nil))) pa_nil)))))))), ?_⟩
  have sv := Tr.gnd_nv gs
  have tv := Tr.gnd_nv gt
  obtain ⟨as, wvs, rfl, has, hwvs⟩ := td_f sv hs
  obtain ⟨at', wvt, rfl, hat, hwvt⟩ := td_f tv ht
  walk_at "rd"
  have n0 : NsOk [] := ⟨(fun x hx => by cases hx), by decide⟩
  have sub0 : ∀ {r : Tr}, r.names = [] → ∀ x ∈ r.names, x ∈ ([] : List Str) := fun h x hx => by rw [h] at hx; exact hx
  have shP : ∀ P' : TP, PB P' → SeqAt.shaped (.list (P'.map pairD)) = true := fun P' pb' => by
    obtain ⟨s1, s2⟩ := pair_shaped n0 (ps := P') fun q hq => by
      obtain ⟨h1, h2, h3, h4⟩ := pb'.ok q hq
      exact ⟨sub0 h1, sub0 h2, by omega, by omega⟩
    unfold SeqAt.shaped
    rw [PyData.canLay0, s1, PyData.depth, decide_eq_true (by omega)]
    rfl
  refine ⟨_, has, _, atI_0, rfl, ?_⟩
  rw [decide_eq_false (fun z => Tr.hd_v sv (V.str.inj z)), if_pos (by decide)]
  refine ⟨_, has, _, atI_0, _, hat, _, atI_0, rfl, ?_⟩
  by_cases hh : s.hd = t.hd
  · rw [if_pos (congrArg V.str hh)]
    have l1 := hwvs.length
    have l2 := hwvt.length
    rw [List.length_map] at l1 l2
    have l3 := Tr.args_eq sv tv hh
    refine ⟨_, has, _, hat, ?_⟩
    rw [if_pos (by simp only [List.length_cons]; omega)]
    refine ⟨_, has, _, atI_0, by decide, fun p1 H1 e1 h1 => ?_⟩
    refine ⟨_, tupF_ext e1 has, fun p2 H2 e2 h2 => ⟨_, tupF_ext (e1.trans e2) hat, fun p3 H3 e3 h3 => ⟨_, _, ⟨rfl, rfl⟩, _, tupF_ext e3 h2, _, h3, ?_⟩⟩⟩
    rw [cutV_1] at h2 h3
    have e03 := (e1.trans e2).trans e3
    have hszs := s.args_sz
    refine lc_go (walk_zipT rfl) (fun D j ys H' => ∃ ws', Ext [a] H3 H' ∧ TdAll K H' ys ((shA P (s.args.take j) (t.args.take j)).1.map Tr.data) ∧ H' a = some (.lst ws') ∧ TdAll K H' ws' ((shA P (s.args.take j) (t.args.take j)).2.map pairD) ∧ PB (shA P (s.args.take j) (t.args.take j)).2)
      (fun D hD => ⟨ws, Ext.new hD, .nil, (Ext.new (S := []) hD).lst0 (e03.lst0 ha), (hall.ext e03).ext (Ext.new (S := []) hD), pb⟩)
      (fun D j ys H' ⟨_, e, _⟩ => ⟨tupF_sq (tupF_ext e (tupF_ext e3 h2)), tupF_sq (tupF_ext e h3)⟩) (fun D j z ys H' H'' hD hj ⟨ws', e, tys, ha', hall', pb'⟩ hyl hH y => ?_) fun D ys H' hD ⟨ws', e, tys, ha', hall', pb'⟩ hH _ => ?_
    · refine pair_tgt y fun x1 x2 hx1 hx2 eT => ?_
      obtain ⟨s1, hs1, hsm, hsd⟩ := td_arg hwvs hx1
      obtain ⟨t1, ht1, htm, htd⟩ := td_arg hwvt hx2
      have eAll : Ext [a] H H'' := (e03.any.trans e).trans eT.any
      have hl1 := shA_len (P := P) (ss := s.args.take j) (ts := t.args.take j) (by rw [List.length_take, List.length_take, l3])
      have hst := sz_take hs1
      have d1 := Tr.dep_arg hsm
      have d2 := Tr.dep_arg htm
      have hDa : D ∉ [a] := fun z => by
        have z' : D = a := by simpa using z
        rw [z', e03.lst0 ha] at hD
        cases hD
      have haD : a ∉ [D] := fun z => hDa (by simpa using (show a = D by simpa using z).symm)
      have hs1' : (100000 : Nat) < sizeLine := by decide
      have l5 := hwvs.length
      rw [List.length_map] at l5
      have la := s.args_len
      have hlt : ys.length < 100 := by
        have : j < s.args.length := (List.getElem?_eq_some_iff.mp hs1).1
        omega
      walk_at "rd"
      refine ⟨x1, [x2], ⟨rfl, rfl⟩, x2, [], rfl, rfl, x1, x2, a, s1, t1, ws', _, rfl, hsd.ext eAll, htd.ext eAll, by omega, Tr.gnd_arg gs hsm, Tr.gnd_arg gt htm, by omega, by omega, eT.lst0 ha', hall'.ext eT, pb', by omega, fun v' H4 ws4 e4 h4 ha4 hall4 => ⟨ys, e4.lst (eT.lst0 hH) hDa, by omega, ys ++ [v'], by rw [List.length_append, List.length_singleton]; omega, upd_same, ?_, ?_, ws4, ?_, ?_, ?_⟩⟩
      · exact ((e.trans eT.any).trans e4).overS hD (Ext.setL List.mem_cons_self (e4.lst (eT.lst0 hH) hDa))
      · have eD : Ext [D] H4 (upd H4 D (.lst (ys ++ [v']))) := Ext.setL List.mem_cons_self (e4.lst (eT.lst0 hH) hDa)
        rw [take_snoc hs1, take_snoc ht1, shA_snoc (by rw [List.length_take, List.length_take, l3]), List.map_append]
        exact (((tys.ext eT).ext e4).ext eD).append (.cons (h4.ext eD) .nil)
      · rw [upd_ne (fun z => haD (by simpa using z))]; exact ha4
      · have eD : Ext [D] H4 (upd H4 D (.lst (ys ++ [v']))) := Ext.setL List.mem_cons_self (e4.lst (eT.lst0 hH) hDa)
        rw [take_snoc hs1, take_snoc ht1, shA_snoc (by rw [List.length_take, List.length_take, l3])]
        exact hall4.ext eD
      · rw [take_snoc hs1, take_snoc ht1, shA_snoc (by rw [List.length_take, List.length_take, l3])]
        exact pb'.sh (Tr.gnd_arg gs hsm) (Tr.gnd_arg gt htm) (by omega) (by omega)
    · obtain ⟨n1, n2, n3, n4⟩ := sh_nv (P := P) sv tv hh
      have l5 := hwvs.length
      have l6 := hwvt.length
      rw [List.length_map] at l5 l6
      have et : s.args.take (min wvs.length wvt.length) = s.args := List.take_of_length_le (by omega)
      have et2 : t.args.take (min wvs.length wvt.length) = t.args := List.take_of_length_le (by omega)
      rw [et, et2] at tys hall'
      rw [← n3] at tys
      rw [← n4] at hall'
      walk_at "rd"
      refine ⟨ys, hH, fun p5 H4 e4 h4 => ⟨_, tupF_ext ((((e2.trans e3).any (S := [a])).trans e).trans e4.any) h1, _, h4, ?_, fun p6 H5 e5 h5 => ?_⟩⟩
      · have hs1' : (100000 : Nat) < sizeLine := by decide
        have la := s.args_len
        have l7 := tys.length
        rw [List.length_map, n3, (shA_len (P := P) (ss := s.args) (ts := t.args) l3).1] at l7
        simp only [List.length_cons, List.length_nil]
        omega
      · have e45 := e4.trans e5
        refine q _ H5 ws' ((e03.any.trans e).trans e45.any) (td_mk n1 (by rw [n2]; exact h5) ((tys.ext e4).ext e5)) (e45.lst0 ha') (hall'.ext e45)
  · rw [if_neg (fun z => hh (V.str.inj z))]
    have ne : s ≠ t := fun z => hh (by rw [z])
    have shs := Tr.shaped n0 (sub0 gs) (by omega)
    have sht := Tr.shaped n0 (sub0 gt) (by omega)
    refine ⟨s.data, t.data, hs, ht, shs, sht, _, rfl, ?_⟩
    rw [if_neg (by rw [if_neg (by decide), Tr.eqv_data, decide_eq_false ne]; decide)]
    refine ⟨by decide, fun p1 H1 e1 h1 => ?_⟩
    have shq : SeqAt.shaped (pairD (s, t)) = true := by
      have := shP [(s, t)] ⟨fun q hq => by
        have : q = (s, t) := by simpa using hq
        subst this; exact ⟨gs, gt, ds, dt⟩⟩
      have hl := SeqAt.canLay_of_shaped this
      have hd := SeqAt.depth_of_shaped this
      rw [List.map_singleton, PyData.canLay0, PyData.canLayAll0, Bool.and_eq_true] at hl
      rw [List.map_singleton, PyData.depth, PyData.depthAll] at hd
      unfold SeqAt.shaped
      rw [hl.1, decide_eq_true (by have := Nat.le_max_left (pairD (s, t)).depth (PyData.depthAll []); omega)]
      rfl
    have pairTd : ∀ {Hx : Hp} {p : Addr}, Ext [a] H Hx → tupF K Hx p = some [V.ref as, V.ref at'] → Td K Hx (.ref p) (pairD (s, t)) := fun e h => .tup h (.cons (hs.ext e) (.cons (ht.ext e) .nil))
    have tell : ∀ (Hx : Hp) (ws' : List V) (P' : TP), Ext [a] H Hx → Hx a = some (.lst ws') → TdAll K Hx ws' (P'.map pairD) → PB P' → P'.length ≤ 60 → (s, t) ∈ P' → sh P s t = (.v (pn (P'.idxOf (s, t))), P') → ∀ (p : Addr) (H2 : Hp), Ext [] Hx H2 → tupF K H2 p = some [V.ref as, V.ref at'] →
        rIndexL K (V.ref a) [V.ref p] H2 fun x H1 => ∃ i, x = V.int i ∧ i.natAbs.log2 < 1920 ∧ (Str.ofString "p").length + (Str.ofString (toString i)).length ≤ sizeLine ∧ 2 ≤ sizeLine ∧ ∀ (p : Addr) (H2 : Hp), Ext [] H1 H2 → tupF K H2 p = some [V.str (Str.ofString "v"), V.str (Str.ofString "p" ++ Str.ofString (toString i))] → Q (V.ref p) H2 := by
      intro Hx ws' P' e ha' hall' pb' hl' hm hsh p H2 e2 hp2
      obtain ⟨i1, i2⟩ := idx_spec hm
      have hlt : P'.idxOf (s, t) < 60 := by have := List.idxOf_lt_length_of_mem hm; omega
      refine ⟨a, .ref p, pairD (s, t), ws', P'.map pairD, P'.idxOf (s, t), pairD (s, t), rfl, rfl, e2.lst0 ha', hall'.ext e2, pairTd (e.trans e2.any) hp2, shP P' pb', shq, by rw [List.getElem?_map, i1]; rfl, by rw [pairD_eqv]; simp, fun m z hm hz => ?_, _, rfl, log_small (by omega), ?_, by decide, fun p3 H3 e3 h3 => ?_⟩
      · rw [List.getElem?_map] at hz
        cases hk : P'[m]? with
        | none => rw [hk] at hz; cases hz
        | some y =>
          rw [hk] at hz
          cases hz
          rw [pairD_eqv]
          exact decide_eq_false (i2 m y hm hk)
      · have := pn_txt _ (show P'.idxOf (s, t) < 64 by omega)
        have h1 : (Str.ofString "p").length = 1 := by decide
        have hs1 : (100 : Nat) < sizeLine := by decide
        omega
      · have e4 := (e.trans e2.any).trans e3.any
        refine q _ H3 ws' e4 ?_ (e3.lst0 (e2.lst0 ha')) ?_
        · rw [hsh]
          exact .tup h3 (.cons (.str _) (.cons (.str _) .nil))
        · rw [hsh]
          exact (hall'.ext e2).ext e3
    refine ⟨pairD (s, t), a, ws, P.map pairD, pairTd e1.any h1, rfl, e1.lst0 ha, hall.ext e1, shq, shP P pb, _, rfl, ?_⟩
    rw [if_pos rfl, pairs_any]
    have hun := sh_un (P := P) hh
    by_cases hm : (s, t) ∈ P
    · rw [decide_eq_true hm, if_neg (by decide)]
      have ea : addP P (s, t) = P := by unfold addP; rw [if_pos hm]
      rw [ea] at hun
      exact ⟨tyV_lst (e1.lst0 ha), by decide, tell H1 ws P e1.any (e1.lst0 ha) (hall.ext e1) pb (by omega) hm hun⟩
    · rw [decide_eq_false hm, if_pos (by decide)]
      have ea : addP P (s, t) = P ++ [(s, t)] := by unfold addP; rw [if_neg hm]
      rw [ea] at hun
      refine ⟨tyV_lst (e1.lst0 ha), by decide, fun p2 H2 e2 h2 => ⟨ws, e2.lst0 (e1.lst0 ha), ?_, fun H3 e3 h3 => ⟨tyV_lst h3, by decide, ?_⟩⟩⟩
      · have hs1 : (100 : Nat) < sizeLine := by decide
        have := hall.length
        rw [List.length_map] at this
        have := s.sz_pos
        omega
      · have e13 : Ext [a] H H3 := (e1.any.trans e2.any).trans e3
        refine tell H3 _ (P ++ [(s, t)]) e13 h3 ?_ ⟨fun q hq => ?_⟩ ?_ (by simp) hun
        · rw [List.map_append]
          exact (((hall.ext e1).ext e2).ext e3).append (.cons (pairTd e13 (tupF_ext e3 h2)) .nil)
        · rcases List.mem_append.mp hq with z | z
          · exact pb.ok q z
          · have : q = (s, t) := by simpa using z
            subst this; exact ⟨gs, gt, ds, dt⟩
        · have := s.sz_pos
          rw [List.length_append, List.length_singleton]; omega
abbrev s_shared : Stmt := top 6
abbrev n_shared : List Str := ["one", "other"]
theorem sc_shared : FnScope n_shared ["one", "other"] (defScope s_shared) := ⟨rfl, rfl, rfl, by decide +kernel, rfl, by decide +kernel, by decide +kernel⟩
def spShared (K : PySem.W.Frag) : Sp := fun vs H Q _ => ∃ (v u : V) (s t : Tr), vs = [v, u] ∧ Td K H v s.data ∧ Td K H u t.data ∧ s.names = [] ∧ t.names = [] ∧ s.dep ≤ 20 ∧ t.dep ≤ 20 ∧ s.sz ≤ 60 ∧ ∀ (v' : V) (H' : Hp), Ext [] H H' → Td K H' v' (sh [] s t).1.data → Q v' H'
theorem ok_shared (F : Dn K mg "shared" s_shared f fd c) (G_share : Cal P w K mg base 20 "share" (spShare K 20)) : Cal P w K mg base 21 "shared" (spShared K) := by
  refine F.cal (ps := ["one", "other"]) (fun _ _ _ _ _ _ us hl => match us, hl with | [_, _], _ => rfl) sc_shared (fun vs H Q E h => ?_) (fun A outer s0 H vs Q E hr h => ?_)
  · obtain ⟨_, _, _, _, rfl, _⟩ := h; rfl
  obtain ⟨v, u, s, t, rfl, hs, ht, gs, gt, ds, dt, hsz, q⟩ := h
  refine ⟨_, (pss_one (ps_ret (C8.pe_c G_share hr (by omega) (by rfl) (pa_cons (pv 0) (pa_cons (pv 1) (pa_cons (pe_lstF pa_nil) pa_nil)))))), ?_⟩
  walk_at "rd"
  refine ⟨by decide, fun p H1 n1 e1 h1 => ⟨v, u, p, s, t, [], [], rfl, hs.ext e1, ht.ext e1, ds, gs, gt, ds, dt, h1, .nil, ⟨fun q hq => by cases hq⟩, by simpa using hsz, fun v' H' ws' e h _ _ => q v' H' (e1.over n1 e) h⟩⟩
end
/-! ### what the shared tree is -/
theorem sz_le : ∀ t : Tr, t.sz + 1 ≤ 2 ^ t.dep
  | .v _ => by simp [Tr.sz, Tr.dep]
  | .a => by simp [Tr.sz, Tr.dep]
  | .b => by simp [Tr.sz, Tr.dep]
  | .i t => by have := sz_le t; simp only [Tr.sz, Tr.dep, Nat.pow_succ]; omega
  | .m t u => by
    have h1 := sz_le t
    have h2 := sz_le u
    have h3 : 2 ^ t.dep ≤ 2 ^ max t.dep u.dep := Nat.pow_le_pow_right (by omega) (Nat.le_max_left _ _)
    have h4 : 2 ^ u.dep ≤ 2 ^ max t.dep u.dep := Nat.pow_le_pow_right (by omega) (Nat.le_max_right _ _)
    simp only [Tr.sz, Tr.dep, Nat.pow_succ]; omega
theorem sz_5 {t : Tr} (h : t.dep ≤ 5) : t.sz ≤ 31 := by
  have h1 := sz_le t
  have h2 : 2 ^ t.dep ≤ 2 ^ 5 := Nat.pow_le_pow_right (by omega) h
  omega
theorem pn_inj : ∀ i j, i < 32 → j < 32 → pn i = pn j → i = j := by
  have : ∀ i ∈ List.range 32, ∀ j ∈ List.range 32, pn i = pn j → i = j := by decide +kernel
  exact fun i j hi hj => this i (List.mem_range.mpr hi) j (List.mem_range.mpr hj)
/-- the trees behind the names -/
def back (g : Tr × Tr → Tr) (F : TP) : Str → Option Tr := fun n => (F.find? fun q => decide (pn (F.idxOf q) = n)).map g
theorem back_at {g : Tr × Tr → Tr} {F : TP} (hF : F.length ≤ 32) {q : Tr × Tr} (hq : q ∈ F) : back g F (pn (F.idxOf q)) = some (g q) := by
  unfold back
  have : F.find? (fun p => decide (pn (F.idxOf p) = pn (F.idxOf q))) = some q := by
    cases e : F.find? (fun p => decide (pn (F.idxOf p) = pn (F.idxOf q))) with
    | none => have := List.find?_eq_none.mp e q hq; simp at this
    | some p =>
      have h1 : pn (F.idxOf p) = pn (F.idxOf q) := by simpa using List.find?_some e
      have hp := List.mem_of_find?_eq_some e
      have h2 := List.idxOf_lt_length_of_mem hp
      have h3 := List.idxOf_lt_length_of_mem hq
      have h4 := pn_inj _ _ (by omega) (by omega) h1
      have h5 := (idx_spec hp).1
      have h6 := (idx_spec hq).1
      rw [h4, h6] at h5
      exact h5.symm
  rw [this]; rfl
theorem gnd_fill {th : Str → Option Tr} {t : Tr} (h : t.names = []) : t.fill th = t := Tr.fill_id fun x hx => by rw [h] at hx; cases hx
theorem back_fst {F : TP} (hF : F.length ≤ 32) : ∀ (s t : Tr), s.names = [] → t.names = [] → (∀ q ∈ dis s t, q ∈ F) → (shF F s t).fill (back Prod.fst F) = s := by
  intro s
  have leaf : ∀ (s t : Tr), s.names = [] → (∀ q ∈ (if s = t then [] else [(s, t)] : TP), q ∈ F) → (if s = t then s else Tr.v (pn (F.idxOf (s, t)))).fill (back Prod.fst F) = s := fun s t gs h => by
    by_cases e : s = t
    · rw [if_pos e]; exact gnd_fill gs
    · rw [if_neg e] at h ⊢
      show (back Prod.fst F _).getD _ = s
      rw [back_at hF (h _ (by simp))]; rfl
  induction s with
  | i s ih =>
    intro t gs gt h
    cases t with
    | i t => exact congrArg Tr.i (ih t gs gt h)
    | _ => exact leaf _ _ gs h
  | m s s' ih ih' =>
    intro t gs gt h
    cases t with
    | m t t' =>
      simp only [Tr.names, List.append_eq_nil_iff] at gs gt
      show Tr.m _ _ = Tr.m _ _
      rw [ih t gs.1 gt.1 fun q hq => h q (List.mem_append_left _ hq), ih' t' gs.2 gt.2 fun q hq => h q (List.mem_append_right _ hq)]
    | _ => exact leaf _ _ gs h
  | _ => intro t gs gt h; cases t <;> exact leaf _ _ gs h
theorem back_snd {F : TP} (hF : F.length ≤ 32) : ∀ (s t : Tr), s.names = [] → t.names = [] → (∀ q ∈ dis s t, q ∈ F) → (shF F s t).fill (back Prod.snd F) = t := by
  intro s
  have leaf : ∀ (s t : Tr), t.names = [] → (∀ q ∈ (if s = t then [] else [(s, t)] : TP), q ∈ F) → (if s = t then s else Tr.v (pn (F.idxOf (s, t)))).fill (back Prod.snd F) = t := fun s t gt h => by
    by_cases e : s = t
    · rw [if_pos e, e]; exact gnd_fill gt
    · rw [if_neg e] at h ⊢
      show (back Prod.snd F _).getD _ = t
      rw [back_at hF (h _ (by simp))]; rfl
  induction s with
  | i s ih =>
    intro t gs gt h
    cases t with
    | i t => exact congrArg Tr.i (ih t gs gt h)
    | _ => exact leaf _ _ gt h
  | m s s' ih ih' =>
    intro t gs gt h
    cases t with
    | m t t' =>
      simp only [Tr.names, List.append_eq_nil_iff] at gs gt
      show Tr.m _ _ = Tr.m _ _
      rw [ih t gs.1 gt.1 fun q hq => h q (List.mem_append_left _ hq), ih' t' gs.2 gt.2 fun q hq => h q (List.mem_append_right _ hq)]
    | _ => exact leaf _ _ gt h
  | _ => intro t gs gt h; cases t <;> exact leaf _ _ gt h
theorem shF_self (F : TP) : ∀ s : Tr, shF F s s = s
  | .v x => if_pos rfl
  | .a => if_pos rfl
  | .b => if_pos rfl
  | .i s => congrArg Tr.i (shF_self F s)
  | .m s s' => by show Tr.m _ _ = _; rw [shF_self F s, shF_self F s']
theorem shF_fill (F : TP) (f g : Str → Option Tr) : ∀ r : Tr, shF F (r.fill f) (r.fill g) = r.fill fun z => some (shF F ((f z).getD (.v z)) ((g z).getD (.v z)))
  | .v x => rfl
  | .a => if_pos rfl
  | .b => if_pos rfl
  | .i s => congrArg Tr.i (shF_fill F f g s)
  | .m s s' => by
    show Tr.m _ _ = Tr.m _ _
    rw [shF_fill F f g s, shF_fill F f g s']
theorem sh_all {s t : Tr} (gs : s.names = []) (gt : t.names = []) (hs : s.sz ≤ 31) : ∃ F : TP, (sh [] s t).1 = shF F s t ∧ F.length ≤ 31 ∧ (∀ q ∈ dis s t, q ∈ F) := by
  obtain ⟨R, e, hl, hm⟩ := foldl_addP (dis s t) []
  refine ⟨(sh [] s t).2, ?_, ?_, fun q hq => ?_⟩
  · have := sh_fst s t [] []
    rwa [List.append_nil] at this
  · have := dis_len s t
    rw [sh_snd, e, List.nil_append]; omega
  · rw [sh_snd, e]
    exact (hm q).mpr (.inr hq)
/-- the names of the shared tree, and its depth -/
theorem shF_names {F : TP} (hF : F.length ≤ 31) : ∀ (s t : Tr), s.names = [] → t.names = [] → (∀ q ∈ dis s t, q ∈ F) → (∀ x ∈ (shF F s t).names, ∃ k, k < 31 ∧ x = pn k) ∧ (shF F s t).dep ≤ s.dep ∧ (shF F s t).sz ≤ s.sz := by
  intro s
  have leaf : ∀ (s t : Tr), s.names = [] → (∀ q ∈ (if s = t then [] else [(s, t)] : TP), q ∈ F) → (∀ x ∈ (if s = t then s else Tr.v (pn (F.idxOf (s, t)))).names, ∃ k, k < 31 ∧ x = pn k) ∧ (if s = t then s else Tr.v (pn (F.idxOf (s, t)))).dep ≤ s.dep ∧ (if s = t then s else Tr.v (pn (F.idxOf (s, t)))).sz ≤ s.sz := fun s t gs h => by
    by_cases e : s = t
    · rw [if_pos e]; exact ⟨(fun x hx => by rw [gs] at hx; cases hx), Nat.le_refl _, Nat.le_refl _⟩
    · rw [if_neg e] at h ⊢
      refine ⟨fun x hx => ⟨F.idxOf (s, t), ?_, by simpa [Tr.names] using hx⟩, s.dep_pos, s.sz_pos⟩
      have := List.idxOf_lt_length_of_mem (h (s, t) (by simp))
      omega
  induction s with
  | i s ih =>
    intro t gs gt h
    cases t with
    | i t => obtain ⟨a, b, c⟩ := ih t gs gt h; exact ⟨a, Nat.succ_le_succ b, by show (shF F s t).sz + 1 ≤ _; simp only [Tr.sz]; omega⟩
    | _ => exact leaf _ _ gs h
  | m s s' ih ih' =>
    intro t gs gt h
    cases t with
    | m t t' =>
      simp only [Tr.names, List.append_eq_nil_iff] at gs gt
      obtain ⟨a, b, c⟩ := ih t gs.1 gt.1 fun q hq => h q (List.mem_append_left _ hq)
      obtain ⟨a', b', c'⟩ := ih' t' gs.2 gt.2 fun q hq => h q (List.mem_append_right _ hq)
      refine ⟨fun x hx => ?_, ?_, ?_⟩
      · rcases List.mem_append.mp hx with z | z
        · exact a x z
        · exact a' x z
      · show max _ _ + 1 ≤ max _ _ + 1; omega
      · show (shF F s t).sz + (shF F s' t').sz + 1 ≤ _; simp only [Tr.sz]; omega
    | _ => exact leaf _ _ gs h
  | _ => intro t gs gt h; cases t <;> exact leaf _ _ gs h
end Sq
set_option Elab.async false
set_option linter.all false
set_option maxRecDepth 100000
set_option maxHeartbeats 4000000
namespace Sq
open PySem PySem.Spec PyProof.Rows L2 RZ
local macro_rules | `(tactic| walk_at "rd") => `(tactic| simp only [tCont, tDisp, tPairs, rIndexS, wipe, tNoPart, tDG2, tDGF, tDInF, tDNInF, sDPutF, tDNewF, rSortD, rInS, rInT, rEqLF, tDcF, tDc2F, tLcF, tForF, tAllF, tAnyF, tSumF, iEnumF, iZipF, iKeysF, iItems, tLZip, tYes, tSeq, tIfS, tNext, tRet, tRetN, tDrop, tTest, tB, tNot, tAnd, tOr, tChain, tOp, tUn, tCB, tCons, tNil, tC, tVar, tIf, tAndV, tOrV, tNotV, tAsg, tPar, tPar3, gName, gSub, gTupF, gCons, gNil, tTupF, tLstF, rI0, rI, rIxF, rIxG, rIxS, rSetF, rSlF, rCatF, rCatL, rTupL, rListT, rListL, rLenT, rLenL, iTupF, iLstF, rAppF, rExtF, rPopF, tBM, tBM0, tSl, tPart, rEq, rNe, tCall, L2.start,
  List.map_cons, List.map_nil, List.length_cons, List.length_nil, Nat.sub_self, List.replicate, List.append_nil, List.cons_append, List.nil_append, List.getElem?_cons_zero, List.getElem?_cons_succ, List.set_cons_zero, List.set_cons_succ,
  exSl, exI, exI2, exB, exS, exR, ex1, ex1', V.int.injEq, V.bl.injEq, V.ref.injEq, V.str.injEq, Option.some.injEq, List.cons.injEq, and_true, true_and, reduceCtorEq, false_and, and_false, or_false, false_or, exists_false, exists_and_left, exists_eq_left', decide_eq_true_eq, decide_true, decide_false, if_false, if_true, ite_true, ite_false, Bool.false_eq_true, Bool.not_true, Bool.not_false, Nat.reduceAdd, Nat.reduceSub, Nat.zero_add, atI_0, atI_1, atI_2, atI_3, ixN_0, ixN_1, ixN_2, cutV_1, cutV_2, Option.some.injEq, HO.lst.injEq, HO.dK.injEq, scal])
local macro_rules | `(tactic| walk_at "rdc") => `(tactic| simp (config := { contextual := true }) only [tCont, tDisp, tPairs, rIndexS, wipe, tNoPart, tDG2, tDGF, tDInF, tDNInF, sDPutF, tDNewF, rSortD, rInS, rInT, rEqLF, tDcF, tDc2F, tLcF, tForF, tAllF, tAnyF, tSumF, iEnumF, iZipF, iKeysF, iItems, tLZip, tYes, tSeq, tIfS, tNext, tRet, tRetN, tDrop, tTest, tB, tNot, tAnd, tOr, tChain, tOp, tUn, tCB, tCons, tNil, tC, tVar, tIf, tAndV, tOrV, tNotV, tAsg, tPar, tPar3, gName, gSub, gTupF, gCons, gNil, tTupF, tLstF, rI0, rI, rIxF, rIxG, rIxS, rSetF, rSlF, rCatF, rCatL, rTupL, rListT, rListL, rLenT, rLenL, iTupF, iLstF, rAppF, rExtF, rPopF, tBM, tBM0, tSl, tPart, rEq, rNe, tCall, L2.start,
  List.map_cons, List.map_nil, List.length_cons, List.length_nil, Nat.sub_self, List.replicate, List.append_nil, List.cons_append, List.nil_append, List.getElem?_cons_zero, List.getElem?_cons_succ, List.set_cons_zero, List.set_cons_succ,
  exSl, exI, exI2, exB, exS, exR, ex1, ex1', V.int.injEq, V.bl.injEq, V.ref.injEq, V.str.injEq, Option.some.injEq, List.cons.injEq, and_true, true_and, reduceCtorEq, false_and, and_false, or_false, false_or, exists_false, exists_and_left, exists_eq_left', decide_eq_true_eq, decide_true, decide_false, if_false, if_true, ite_true, ite_false, Bool.false_eq_true, Bool.not_true, Bool.not_false, Nat.reduceAdd, Nat.reduceSub, Nat.zero_add, atI_0, atI_1, atI_2, atI_3, ixN_0, ixN_1, ixN_2, cutV_1, cutV_2, Option.some.injEq, HO.lst.injEq, HO.dK.injEq, scal, *])
section
variable {P : Program} {w : World} {K : PySem.W.Frag} {mg : Str → Option Value} {base : Heap} {f c : Addr} {fd : FuncData} {NS : List Str}
abbrev s__law_fill : Stmt := top 13
abbrev n__law_fill : List Str := ["tree", "table", "part"]
theorem sc__law_fill : FnScope n__law_fill ["tree", "table"] (defScope s__law_fill) := ⟨rfl, rfl, rfl, by decide +kernel, rfl, by decide +kernel, by decide +kernel⟩
theorem ok_lfill (F : Dn K mg "_law_fill" s__law_fill f fd c) (B : Bl mg) : ∀ k, Cal P w K mg base k "_law_fill" (spFill K k) := by
  refine F.calRec (ps := ["tree", "table"]) (fun _ _ _ _ _ _ us hl => match us, hl with | [_, _], _ => rfl) (fun vs H Q E ⟨v, t, _, _, _, _, h, _⟩ => by have := t.dep_pos; omega) fun k G__law_fill => ?_
  refine F.ok sc__law_fill (fun vs H Q E h => ?_) (fun A outer s H vs Q E hr h => ?_)
  · obtain ⟨_, _, _, _, rfl, _⟩ := h; rfl
  obtain ⟨v, t, a, l, rfl, ht, hd, hl, q⟩ := h
  refine ⟨_, (pss_cons (ps_if (pt_cmpR op_eq (pe_ix (ix_tupK K) (pv 0) pe_int (fun _ _ => rfl)) pe_str (nomark _)) (pss_one (ps_ret (pe_dget2F (hu_of hr) (pv 1) (pe_ix (ix_tupK K) (pv 0) pe_int (fun _ _ => rfl)) (pv 0) ⟨rfl, rfl, rfl, rfl⟩))) pss_nil)
    (pss_one (ps_ret (pe_op (op_catK K) (pe_tupK K (pa_cons (pe_ix (ix_tupK K) (pv 0) pe_int (fun _ _ => rfl)) pa_nil)) (pe_callTy (call_tupleK K) (by rfl) B.b_tuple (by decide +kernel) (pa_cons (pe_lcF (own := [("part", 2)]) rfl sc__law_fill.nd (pi_tupK K (pe_slice (sl_tupK K) (pv 0) (po_some pe_int) po_none)) (blkOk_by (own := [("part", 2)]) (N := n__law_fill) (sc := defScope s__law_fill) (by decide +kernel)) (fun _ _ _ _ _ => (pg_name (i := 2) sc__law_fill.nd rfl (by first | exact Or.inl rfl | exact Or.inr rfl))) (fun _ _ _ _ _ => pts_nil) (fun _ _ _ _ _ => (C8.pe_c G__law_fill hr (by omega) (by rfl) (pa_cons (pv 2) (pa_cons (pv 1) pa_nil))))) pa_nil)))))), ?_⟩
  cases hv : t.isV with
  | true =>
    cases t with
    | v x =>
      have ht0 := ht
      obtain ⟨p, rfl, hp⟩ := td_v ht
      obtain ⟨kvs, hk, hr'⟩ := hl
      have q' := q
      clear q
      walk_at "rdc"
      rcases hr'.val x with ⟨h1, h2⟩ | ⟨t', v', h1, h2, h3⟩
      · rw [h2]
        exact q' _ _ (Ext.refl _ _) (by rw [Tr.fill, h1]; exact ht0)
      · rw [h2]
        exact q' _ _ (Ext.refl _ _) (by rw [Tr.fill, h1]; exact h3)
    | a => cases hv
    | b => cases hv
    | i s => cases hv
    | m s r => cases hv
  | false =>
    obtain ⟨p, ws, rfl, hp, hws⟩ := td_f hv ht
    have hne := Tr.hd_v hv
    have q' := q
    clear q ht
    walk_at "rdc"
    have hlen : ws.length = t.args.length := by have := hws.length; rw [List.length_map] at this; exact this
    have ha2 := t.args_len
    have hs1 : (100000 : Nat) < sizeLine := by decide
    obtain ⟨n1, n2, n3⟩ := Tr.fill_nv (s := lk l) hv
    refine ⟨by decide, fun p1 H1 e1 h1 => ⟨_, tupF_ext e1 hp, fun p2 H2 e2 h2 => ?_⟩⟩
    rw [cutV_1] at h2
    have e12 := e1.trans e2
    refine lc_map (ds := t.args.map fun u => (u.fill (lk l)).data) h2 (by rw [List.length_map]; exact hlen.symm) (by omega) (fun x => rfl) (fun j x d H' R hx hdj e hR => ?_) fun D ys H' hD e hys hall => ?_
    · obtain ⟨u, hu, hum, hud⟩ := td_arg hws hx
      rw [List.getElem?_map, hu] at hdj
      cases hdj
      walk_at "rd"
      exact ⟨x, u, a, l, rfl, (hud.ext e12).ext e, by have := Tr.dep_arg hum; omega, (hl.ext0 e12).ext0 e, fun v' H'' e' h' => hR v' H'' e' h'⟩
    · refine ⟨D, rfl, ys, hys, fun q H3 e3 h3 => ⟨_, tupF_ext e3 (tupF_ext e (tupF_ext e2 h1)), ?_, fun p4 H4 e4 h4 => q' _ H4 (((e12.trans e).trans e3).trans e4) ?_⟩⟩
      · have := hall.length
        rw [List.length_map] at this
        simp only [List.length_cons, List.length_nil]
        omega
      · refine td_mk n1 (by rw [n2]; exact h4) ?_
        rw [n3, List.map_map]
        exact (hall.ext e3).ext e4
end
end Sq
set_option Elab.async false
set_option linter.all false
set_option maxRecDepth 100000
set_option maxHeartbeats 4000000
namespace Sq
open PySem PySem.Spec PyProof.Rows L2 RZ
local macro_rules | `(tactic| walk_at "rd") => `(tactic| simp only [tCont, tDisp, tPairs, rIndexS, wipe, tNoPart, tDG2, tDGF, tDInF, tDNInF, sDPutF, tDNewF, rSortD, rInS, rInT, rEqLF, tDcF, tDc2F, tLcF, tForF, tAllF, tAnyF, tSumF, iEnumF, iZipF, iKeysF, iItems, tLZip, tYes, tSeq, tIfS, tNext, tRet, tRetN, tDrop, tTest, tB, tNot, tAnd, tOr, tChain, tOp, tUn, tCB, tCons, tNil, tC, tVar, tIf, tAndV, tOrV, tNotV, tAsg, tPar, tPar3, gName, gSub, gTupF, gCons, gNil, tTupF, tLstF, rI0, rI, rIxF, rIxG, rIxS, rSetF, rSlF, rCatF, rCatL, rTupL, rListT, rListL, rLenT, rLenL, iTupF, iLstF, rAppF, rExtF, rPopF, tBM, tBM0, tSl, tPart, rEq, rNe, tCall, L2.start,
  List.map_cons, List.map_nil, List.length_cons, List.length_nil, Nat.sub_self, List.replicate, List.append_nil, List.cons_append, List.nil_append, List.getElem?_cons_zero, List.getElem?_cons_succ, List.set_cons_zero, List.set_cons_succ,
  exSl, exI, exI2, exB, exS, exR, ex1, ex1', V.int.injEq, V.bl.injEq, V.ref.injEq, V.str.injEq, Option.some.injEq, List.cons.injEq, and_true, true_and, reduceCtorEq, false_and, and_false, or_false, false_or, exists_false, exists_and_left, exists_eq_left', decide_eq_true_eq, decide_true, decide_false, if_false, if_true, ite_true, ite_false, Bool.false_eq_true, Bool.not_true, Bool.not_false, Nat.reduceAdd, Nat.reduceSub, Nat.zero_add, atI_0, atI_1, atI_2, atI_3, ixN_0, ixN_1, ixN_2, cutV_1, cutV_2, Option.some.injEq, HO.lst.injEq, HO.dK.injEq, scal])
local macro_rules | `(tactic| walk_at "rdc") => `(tactic| simp (config := { contextual := true }) only [tCont, tDisp, tPairs, rIndexS, wipe, tNoPart, tDG2, tDGF, tDInF, tDNInF, sDPutF, tDNewF, rSortD, rInS, rInT, rEqLF, tDcF, tDc2F, tLcF, tForF, tAllF, tAnyF, tSumF, iEnumF, iZipF, iKeysF, iItems, tLZip, tYes, tSeq, tIfS, tNext, tRet, tRetN, tDrop, tTest, tB, tNot, tAnd, tOr, tChain, tOp, tUn, tCB, tCons, tNil, tC, tVar, tIf, tAndV, tOrV, tNotV, tAsg, tPar, tPar3, gName, gSub, gTupF, gCons, gNil, tTupF, tLstF, rI0, rI, rIxF, rIxG, rIxS, rSetF, rSlF, rCatF, rCatL, rTupL, rListT, rListL, rLenT, rLenL, iTupF, iLstF, rAppF, rExtF, rPopF, tBM, tBM0, tSl, tPart, rEq, rNe, tCall, L2.start,
  List.map_cons, List.map_nil, List.length_cons, List.length_nil, Nat.sub_self, List.replicate, List.append_nil, List.cons_append, List.nil_append, List.getElem?_cons_zero, List.getElem?_cons_succ, List.set_cons_zero, List.set_cons_succ,
  exSl, exI, exI2, exB, exS, exR, ex1, ex1', V.int.injEq, V.bl.injEq, V.ref.injEq, V.str.injEq, Option.some.injEq, List.cons.injEq, and_true, true_and, reduceCtorEq, false_and, and_false, or_false, false_or, exists_false, exists_and_left, exists_eq_left', decide_eq_true_eq, decide_true, decide_false, if_false, if_true, ite_true, ite_false, Bool.false_eq_true, Bool.not_true, Bool.not_false, Nat.reduceAdd, Nat.reduceSub, Nat.zero_add, atI_0, atI_1, atI_2, atI_3, ixN_0, ixN_1, ixN_2, cutV_1, cutV_2, Option.some.injEq, HO.lst.injEq, HO.dK.injEq, scal, *])
section
variable {P : Program} {w : World} {K : PySem.W.Frag} {mg : Str → Option Value} {base : Heap} {f c tb tw : Addr} {fd : FuncData} {NS NV : List Str}
abbrev n__law_rounds : List Str := ["script", "most", "cells", "cell"]
theorem sc__law_rounds : FnScope n__law_rounds ["script", "most"] (defScope s__law_rounds) := ⟨rfl, rfl, rfl, by decide +kernel, rfl, by decide +kernel, by decide +kernel⟩
/-- the script's list, whatever its numbers -/
def spRounds (K : PySem.W.Frag) (most : Nat) : Sp := fun vs H Q _ => ∃ (a : Addr) (ns : List Int), vs = [.ref a, .int (most : Nat)] ∧ SqL K H a (ns.map V.int) ∧
  ∀ (p : Addr) (ds : List Addr) (H' : Hp), Ext [] H H' → H' p = some (.lst (ds.map V.ref)) → ds.length ≤ most → (∀ d ∈ ds, DiceAt H' d) → ds.Nodup → p ∉ ds → Q (.ref p) H'
theorem ok_rounds {most : Nat} (hmo : 1 ≤ most ∧ most ≤ 50) (F : Dn K mg "_law_rounds" s__law_rounds f fd c) (B : Bl mg) (G__law_dice : Cal P w K mg base 1 "_law_dice" spDice) : Cal P w K mg base 2 "_law_rounds" (spRounds K most) := by
  refine F.cal (ps := ["script", "most"]) (fun _ _ _ _ _ _ us hl => match us, hl with | [_, _], _ => rfl) sc__law_rounds (fun vs H Q E h => ?_) (fun A outer s H vs Q E hr h => ?_)
  · obtain ⟨_, _, rfl, _⟩ := h; rfl
  obtain ⟨a, ns, rfl, ha, q⟩ := h
  refine ⟨_, (pss_cons (ps_set (i := 2) sc__law_rounds.nd rfl (by first | exact Or.inl rfl | exact Or.inr rfl) (pe_slice sl_list (pv 0) po_none (po_some (pv 1))))
    (pss_cons (ps_if (pt_cmpR (op_eqLK K hr.units) (pv 2) (pe_lstF pa_nil) (nomark _)) (pss_one (ps_set (i := 2) sc__law_rounds.nd rfl (by first | exact Or.inl rfl | exact Or.inr rfl) (pe_lstF (pa_cons pe_int pa_nil)))) pss_nil)
    (pss_one (ps_ret (pe_lcF (own := [("cell", 3)]) rfl sc__law_rounds.nd (pi_lstK K (pv 2)) (blkOk_by (own := [("cell", 3)]) (N := n__law_rounds) (sc := defScope s__law_rounds) (by decide +kernel)) (fun _ _ _ _ _ => (pg_name (i := 3) sc__law_rounds.nd rfl (by first | exact Or.inl rfl | exact Or.inr rfl))) (fun _ _ _ _ _ => pts_nil) (fun _ _ _ _ _ => (C8.pe_c G__law_dice hr (by omega) (by rfl) (pa_cons (pv 3) pa_nil)))))))), ?_⟩
  have mk : ∀ (pl : Addr) (ms : List Int) (H1 : Hp) (x0 x1 x2 : Option V), ms.length ≤ most → Ext [] H H1 → H1 pl = some (.lst (ms.map V.int)) → LcB (Itl K pl) (gName 3) tYes (tCall spDice [] C8.E0 (tCons (tVar 3) tNil)) [3] [x0, x1, x2, none] H1 Q := fun pl ms H1 x0 x1 x2 hl e1 h1 => by
    refine lc_go walk_list (fun D i ys H' => ∃ ds : List Addr, ys = ds.map V.ref ∧ ds.length = i ∧ Ext [] H1 H' ∧ (∀ d ∈ ds, DiceAt H' d ∧ d ≠ D) ∧ ds.Nodup) (fun D hD => ⟨[], rfl, rfl, Ext.new hD, fun d hd => (by cases hd), List.nodup_nil⟩) (fun D i ys H' ⟨_, _, _, e, _⟩ => SqL.of (e.lst0 h1)) (fun D i x ys H' H'' hD hi ⟨ds, hys, hdl, e, hds, nd⟩ hyl hH y => ?_) fun D ys H' hD ⟨ds, hys, hdl, e, hds, nd⟩ hH _ => ?_
    · obtain ⟨rfl, hx⟩ := y
      rw [List.getElem?_map] at hx
      cases hm : ms[i]? with
      | none => rw [hm] at hx; cases hx
      | some n =>
        rw [hm] at hx
        cases hx
        walk_at "rd"
        have hs1 : (100 : Nat) < sizeLine := by decide
        rw [List.length_map] at hi
        refine ⟨n, rfl, fun p H2 hp e2 hdp => ⟨ys, e2.lst0 hH, by omega, ys ++ [.ref p], by rw [List.length_append, List.length_singleton]; omega, upd_same, ds ++ [p], by rw [hys, List.map_append]; rfl, by rw [List.length_append, List.length_singleton]; omega, (e.trans e2).over hD (Ext.setL List.mem_cons_self (e2.lst0 hH)), fun d hd => ?_, ?_⟩⟩
        · have keep : ∀ d, DiceAt H2 d → d ≠ D → DiceAt (upd H2 D (.lst (ys ++ [.ref p]))) d ∧ d ≠ D := fun d ⟨x, y, z, h⟩ n => ⟨⟨x, y, z, by rw [upd_ne n]; exact h⟩, n⟩
          rcases List.mem_append.mp hd with z | z
          · obtain ⟨⟨x, y, z, h⟩, n⟩ := hds d z
            exact keep d ⟨x, y, z, e2.lst0 h⟩ n
          · have : d = p := by simpa using z
            subst this
            exact keep d hdp fun z => by rw [z, hH] at hp; cases hp
        · refine List.nodup_append.mpr ⟨nd, by simp, fun a ha b hb e => ?_⟩
          have hb' : b = p := by simpa using hb
          subst hb' e
          obtain ⟨⟨x, y, z, h⟩, _⟩ := hds a ha
          rw [h] at hp
          cases hp
    · rw [List.length_map] at hdl
      exact q D ds H' (e1.trans e) (by rw [hH, hys]) (by omega) (fun d hd => (hds d hd).1) nd fun hm => (hds D hm).2 rfl
  have tdi : ∀ (ms : List Int) (H1 : Hp), TdAll K H1 (ms.map V.int) (ms.map PyData.int) := fun ms H1 => by
    induction ms with
    | nil => exact .nil
    | cons m ms ih => exact .cons (.int m) ih
  have shi : ∀ ms : List Int, SeqAt.shaped (.list (ms.map PyData.int)) = true := fun ms => by
    have : PyData.canLayAll0 (ms.map PyData.int) = true ∧ PyData.depthAll (ms.map PyData.int) = 0 := by
      induction ms with
      | nil => exact ⟨by rw [List.map_nil, PyData.canLayAll0], by rw [List.map_nil, PyData.depthAll]⟩
      | cons x l ih => exact ⟨by rw [List.map_cons, PyData.canLayAll0, ih.1, PyData.canLay0]; rfl, by rw [List.map_cons, PyData.depthAll, ih.2, PyData.depth]; rfl⟩
    unfold SeqAt.shaped
    rw [PyData.canLay0, PyData.depth, this.1, this.2]
    rfl
  have she : SeqAt.shaped (.list []) = true := by decide +kernel
  have hcut : cutV (ns.map V.int) none (some (most : Nat)) = (ns.take most).map V.int := by
    have := cutV_to (xs := ns.map V.int) (k := most)
    rw [List.map_take]
    exact this
  have h4 : (ns.take most).length ≤ most := by rw [List.length_take]; omega
  walk_at "rd"
  refine ⟨a, ns.map V.int, rfl, ha, fun p1 hp1 => ⟨by decide, fun p2 H2 n2 e2 h2 => ⟨p1, rfl, _, e2.lst0 upd_same, _, h2, (ns.take most).map PyData.int, by rw [hcut]; exact tdi _ _, [], .nil, shi _, she, ?_⟩⟩⟩
  have e02 : Ext [] H H2 := (Ext.new hp1).trans e2
  by_cases hq : PyData.eqvAll ((ns.take most).map PyData.int) [] = true
  · rw [if_pos hq]
    exact ⟨by decide, fun p3 H3 n3 e3 h3 => ⟨_, h3, mk p3 [0] H3 _ _ _ (by simpa using hmo.1) (e02.trans e3) h3⟩⟩
  · rw [if_neg hq]
    refine ⟨p1, rfl, _, e2.lst0 upd_same, ?_⟩
    exact mk p1 (ns.take most) H2 _ _ _ h4 e02 (by rw [← hcut]; exact e2.lst0 upd_same)
end
end Sq
set_option Elab.async false
set_option linter.all false
set_option maxRecDepth 100000
set_option maxHeartbeats 4000000
namespace Sq
open PySem PySem.Spec PyProof.Rows L2 RZ
local macro_rules | `(tactic| walk_at "rd") => `(tactic| simp only [tCont, tDisp, tPairs, rIndexS, wipe, tNoPart, tDG2, tDGF, tDInF, tDNInF, sDPutF, tDNewF, rSortD, rInS, rInT, rEqLF, tDcF, tDc2F, tLcF, tForF, tAllF, tAnyF, tSumF, iStr, iEnumF, iZipF, iKeysF, iItems, tLZip, tYes, tSeq, tIfS, tNext, tRet, tRetN, tDrop, tTest, tB, tNot, tAnd, tOr, tChain, tOp, tUn, tCB, tCons, tNil, tC, tVar, tIf, tAndV, tOrV, tNotV, tAsg, tPar, tPar3, gName, gSub, gTupF, gCons, gNil, tTupF, tLstF, rI0, rI, rIxF, rIxG, rIxS, rSetF, rSlF, rCatF, rCatL, rTupL, rListT, rListL, rLenT, rLenL, iTupF, iLstF, rAppF, rExtF, rPopF, tBM, tBM0, tSl, tPart, rEq, rNe, tCall, L2.start,
  List.map_cons, List.map_nil, List.length_cons, List.length_nil, Nat.sub_self, List.replicate, List.append_nil, List.cons_append, List.nil_append, List.getElem?_cons_zero, List.getElem?_cons_succ, List.set_cons_zero, List.set_cons_succ,
  exSl, exI, exI2, exB, exS, exR, ex1, ex1', V.int.injEq, V.bl.injEq, V.ref.injEq, V.str.injEq, Option.some.injEq, List.cons.injEq, and_true, true_and, reduceCtorEq, false_and, and_false, or_false, false_or, exists_false, exists_and_left, exists_eq_left', decide_eq_true_eq, decide_true, decide_false, if_false, if_true, ite_true, ite_false, Bool.false_eq_true, Bool.not_true, Bool.not_false, Nat.reduceAdd, Nat.reduceSub, Nat.zero_add, atI_0, atI_1, atI_2, atI_3, ixN_0, ixN_1, ixN_2, cutV_1, cutV_2, Option.some.injEq, HO.lst.injEq, HO.dK.injEq, scal])
local macro_rules | `(tactic| walk_at "rdc") => `(tactic| simp (config := { contextual := true }) only [tCont, tDisp, tPairs, rIndexS, wipe, tNoPart, tDG2, tDGF, tDInF, tDNInF, sDPutF, tDNewF, rSortD, rInS, rInT, rEqLF, tDcF, tDc2F, tLcF, tForF, tAllF, tAnyF, tSumF, iStr, iEnumF, iZipF, iKeysF, iItems, tLZip, tYes, tSeq, tIfS, tNext, tRet, tRetN, tDrop, tTest, tB, tNot, tAnd, tOr, tChain, tOp, tUn, tCB, tCons, tNil, tC, tVar, tIf, tAndV, tOrV, tNotV, tAsg, tPar, tPar3, gName, gSub, gTupF, gCons, gNil, tTupF, tLstF, rI0, rI, rIxF, rIxG, rIxS, rSetF, rSlF, rCatF, rCatL, rTupL, rListT, rListL, rLenT, rLenL, iTupF, iLstF, rAppF, rExtF, rPopF, tBM, tBM0, tSl, tPart, rEq, rNe, tCall, L2.start,
  List.map_cons, List.map_nil, List.length_cons, List.length_nil, Nat.sub_self, List.replicate, List.append_nil, List.cons_append, List.nil_append, List.getElem?_cons_zero, List.getElem?_cons_succ, List.set_cons_zero, List.set_cons_succ,
  exSl, exI, exI2, exB, exS, exR, ex1, ex1', V.int.injEq, V.bl.injEq, V.ref.injEq, V.str.injEq, Option.some.injEq, List.cons.injEq, and_true, true_and, reduceCtorEq, false_and, and_false, or_false, false_or, exists_false, exists_and_left, exists_eq_left', decide_eq_true_eq, decide_true, decide_false, if_false, if_true, ite_true, ite_false, Bool.false_eq_true, Bool.not_true, Bool.not_false, Nat.reduceAdd, Nat.reduceSub, Nat.zero_add, atI_0, atI_1, atI_2, atI_3, ixN_0, ixN_1, ixN_2, cutV_1, cutV_2, Option.some.injEq, HO.lst.injEq, HO.dK.injEq, scal, *])
theorem units90 {k : Nat} {A : Around} (r : Room k A) : A.units + 90 < cLine := by have := r.un; omega
def NSP : List Str := (["x", "y"] : List Str) ++ (List.range 32).map pn
theorem nsp_ok : NsOk NSP := ⟨by decide +kernel, by decide +kernel⟩
def NV2 : List Str := ["x", "y"]
theorem nv2_sub : ∀ x ∈ NV2, x ∈ NSP := by decide +kernel
def smalls : List Tr := [.a, .b, .i .a, .m .a .b, .i .b]
structure RI (K : PySem.W.Frag) (ds : List Addr) (p o tb : Addr) (H : Hp) : Prop where
  o : ∃ ws, H o = some (.lst ws) ∧ TdAll K H ws (smalls.map Tr.data)
  p : H p = some (.lst (ds.map V.ref))
  d : ∀ d ∈ ds, DiceAt H d
  tb : GxR.TabG H tb
section
variable {P : Program} {w : World} {K : PySem.W.Frag} {mg : Str → Option Value} {base : Heap} {f c tb : Addr} {fd : FuncData}
theorem RI.ext0 {ds : List Addr} {p o : Addr} {H H' : Hp} (e : Ext [] H H') (h : RI K ds p o tb H) : RI K ds p o tb H' :=
  ⟨let ⟨ws, h1, h2⟩ := h.o; ⟨ws, e.lst0 h1, h2.ext e⟩, e.lst0 h.p, fun d hd => DiceAt.ext0 e (h.d d hd), e.tab _ h.tb⟩
theorem RI.step {ds : List Addr} {p o d : Addr} {H H' : Hp} (h : RI K ds p o tb H) (hp : p ∉ ds) (ho : o ∉ ds) (hd : d ∈ ds) (e : Ext [d] H H') (h' : DiceAt H' d) : RI K ds p o tb H' := by
  refine ⟨?_, e.lst h.p fun z => ?_, fun d' hd' => ?_, e.tab _ h.tb⟩
  · obtain ⟨ws, h1, h2⟩ := h.o
    exact ⟨ws, e.lst h1 (fun z => ho (by have : o = d := by simpa using z
                                         rw [this]; exact hd)), h2.ext e⟩
  · have z' : p = d := by simpa using z
    rw [z'] at hp
    exact hp hd
  · by_cases q : d' = d
    · rw [q]; exact h'
    · obtain ⟨x, y, z, r⟩ := h.d d' hd'
      exact ⟨x, y, z, e.lst r (by simpa using q)⟩
structure TOk (t : Tr) (d : Nat) : Prop where
  dep : t.dep ≤ d
  nm : XY t
theorem TOk.ns {t : Tr} {d : Nat} (h : TOk t d) : ∀ x ∈ t.names, x ∈ NSP := fun x hx => nv2_sub x (by rcases h.nm x hx with e | e <;> subst e <;> decide)
theorem TOk.nv {t : Tr} {d : Nat} (h : TOk t d) : ∀ x ∈ t.names, x ∈ NV2 := fun x hx => by rcases h.nm x hx with e | e <;> subst e <;> decide
structure Gnd (g : Tr) (d : Nat) : Prop where
  dep : g.dep ≤ d
  nm : g.names = []
theorem Gnd.ns {t : Tr} {d : Nat} (h : Gnd t d) : ∀ x ∈ t.names, x ∈ NSP := fun x hx => by rw [h.nm] at hx; cases hx
abbrev tabXY (g1 g2 : Tr) : Tab := [("x", g1), ("y", g2)]
theorem TOk.fill {t g1 g2 : Tr} {d : Nat} (h : TOk t d) (k1 : Gnd g1 3) (k2 : Gnd g2 3) : Gnd (t.fill (lk (tabXY g1 g2))) (d + 2) := by
  have lx : lk (tabXY g1 g2) "x" = some g1 := rfl
  have ly : lk (tabXY g1 g2) "y" = some g2 := rfl
  constructor
  · have := Tr.dep_fill_le (s := lk (tabXY g1 g2)) (B := 3) (by decide) (t := t) fun x u hx hu => by
      rcases h.nm x hx with q | q
      · subst q; rw [lx] at hu; cases hu; exact k1.dep
      · subst q; rw [ly] at hu; cases hu; exact k2.dep
    have := h.dep
    omega
  · cases e : (t.fill (lk (tabXY g1 g2))).names with
    | nil => rfl
    | cons w ws =>
      obtain ⟨z, hz, hw⟩ := Tr.names_fill.mp (show w ∈ (t.fill (lk (tabXY g1 g2))).names by rw [e]; exact List.mem_cons_self)
      rcases h.nm z hz with q | q
      · subst q; rw [lx] at hw; simp [k1.nm] at hw
      · subst q; rw [ly] at hw; simp [k2.nm] at hw
/-- what a turn has: the dice, the small trees, a table, three trees -/
structure TS (K : PySem.W.Frag) (ds : List Addr) (p o tb p1 : Addr) (v1 v2 v3 : V) (t1 t2 t3 g1 g2 : Tr) (H : Hp) : Prop where
  ri : RI K ds p o tb H
  T : TabA K H p1 (tabXY g1 g2)
  h1 : Td K H v1 t1.data
  h2 : Td K H v2 t2.data
  h3 : Td K H v3 t3.data
theorem TabA.ne {H : Hp} {p d : Addr} {l : Tab} (T : TabA K H p l) (h : DiceAt H d) : p ∉ [d] := fun z => by
  have z' : p = d := by simpa using z
  obtain ⟨x, y, z, q⟩ := h
  obtain ⟨kvs, hk, _⟩ := T
  rw [z'] at hk
  unfold dctF at hk
  rw [q] at hk
  cases hk
section
variable {ds : List Addr} {p o p1 : Addr} {v1 v2 v3 : V} {t1 t2 t3 g1 g2 : Tr} {H H' : Hp}
theorem TS.ext0 (e : Ext [] H H') (h : TS K ds p o tb p1 v1 v2 v3 t1 t2 t3 g1 g2 H) : TS K ds p o tb p1 v1 v2 v3 t1 t2 t3 g1 g2 H' := ⟨h.ri.ext0 e, h.T.ext0 e, h.h1.ext e, h.h2.ext e, h.h3.ext e⟩
theorem TS.step {d : Addr} (h : TS K ds p o tb p1 v1 v2 v3 t1 t2 t3 g1 g2 H) (hp : p ∉ ds) (ho : o ∉ ds) (hd : d ∈ ds) (e : Ext [d] H H') (h' : DiceAt H' d) : TS K ds p o tb p1 v1 v2 v3 t1 t2 t3 g1 g2 H' :=
  ⟨h.ri.step hp ho hd e h', h.T.ext e (h.T.ne (h.ri.d d hd)), h.h1.ext e, h.h2.ext e, h.h3.ext e⟩
end
theorem eq_same {x y : V} {s : Tr} {H : Hp} {Q : VK} (h1 : Td K H x s.data) (h2 : Td K H y s.data) (hn : ∀ x ∈ s.names, x ∈ NSP) (hd : s.dep ≤ 60) (q : Q (.bl false) H) : rEqF K true x y H Q := by
  have := Tr.shaped nsp_ok hn (by omega)
  exact ⟨s.data, s.data, h1, h2, this, this, by rw [Tr.eqv_data, decide_eq_true rfl]; exact q⟩
theorem names_list {t : Tr} (h : XY t) {hs : List Str} (hm : ∀ x, x ∈ hs ↔ x ∈ t.names) (nd : hs.Nodup) (so : sortedS hs = true) : hs = NV2.filter fun n => decide (n ∈ t.names) := by
  have xy : ∀ z ∈ hs, z = "x" ∨ z = "y" := fun z hz => h z ((hm z).mp hz)
  have hx : decide (("x" : Str) ∈ t.names) = decide (("x" : Str) ∈ hs) := by simp [hm]
  have hy : decide (("y" : Str) ∈ t.names) = decide (("y" : Str) ∈ hs) := by simp [hm]
  unfold NV2
  simp only [List.filter_cons, List.filter_nil, hx, hy]
  clear hx hy hm
  match hs, nd, so, xy with
  | [], _, _, _ => simp
  | [a], _, _, xy =>
    rcases xy a (by simp) with e | e <;> subst e <;> decide +kernel
  | [a, b], nd, so, xy =>
    rcases xy a (by simp) with e | e <;> rcases xy b (by simp) with e' | e' <;> subst e <;> subst e'
    · exact absurd nd (by decide +kernel)
    · decide +kernel
    · exact absurd so (by decide +kernel)
    · exact absurd nd (by decide +kernel)
  | a :: b :: c :: r, nd, _, xy =>
    exfalso
    have := nodup_sub nd (m := NV2) fun z hz => by simpa [NV2] using xy z hz
    simp [NV2] at this
def PvN (t1 : Tr) (H14 : Hp) : Nat → List V → Hp → Prop := fun j ys H' => ys = ((NV2.take j).filter fun n => decide (n ∈ t1.names)).map V.str ∧ Ext [] H14 H'
theorem strs_td {H : Hp} : ∀ ns : List Str, TdAll K H (ns.map V.str) (ns.map PyData.str)
  | [] => .nil
  | n :: ns => .cons (.str n) (strs_td ns)
theorem strs_shaped {ns : List Str} (h : ∀ n ∈ ns, n ∈ NSP) : SeqAt.shaped (.list (ns.map PyData.str)) = true := by
  have : PyData.canLayAll0 (ns.map PyData.str) = true ∧ PyData.depthAll (ns.map PyData.str) = 0 := by
    induction ns with
    | nil => exact ⟨by rw [List.map_nil, PyData.canLayAll0], by rw [List.map_nil, PyData.depthAll]⟩
    | cons x l ih =>
      have ih := ih fun n hn => h n (List.mem_cons_of_mem _ hn)
      have hx := nsp_ok.ok x (h x List.mem_cons_self)
      exact ⟨by rw [List.map_cons, PyData.canLayAll0, ih.1, PyData.canLay0, hx]; rfl, by rw [List.map_cons, PyData.depthAll, ih.2, PyData.depth]; rfl⟩
  unfold SeqAt.shaped
  rw [PyData.canLay0, PyData.depth, this.1, this.2]
  rfl
theorem strs_eqv : ∀ ns : List Str, PyData.eqvAll (ns.map PyData.str) (ns.map PyData.str) = true
  | [] => Tr.eqvAll_nil
  | n :: ns => by rw [List.map_cons, Tr.eqvAll_cons, Tr.eqv_str, strs_eqv ns]; simp
theorem pn_nsp {k : Nat} (h : k < 32) : pn k ∈ NSP := List.mem_append_right _ (List.mem_map.mpr ⟨k, List.mem_range.mpr h, rfl⟩)
/-- what made_one has told -/
def Best (K : PySem.W.Frag) (s t : Tr) (x : V) (H : Hp) : Prop := (x = .non ∧ ∃ n, runU n [] [(s, t)] = some none) ∨ ∃ a l, x = .ref a ∧ TabA K H a l ∧ UI NV2 l [] ∧ ∃ n, runU n [] [(s, t)] = some (some l)
theorem Best.ext0 {s t : Tr} {x : V} {H H' : Hp} (e : Ext [] H H') : Best K s t x H → Best K s t x H'
  | .inl h => .inl h
  | .inr ⟨a, l, h, T, U, n⟩ => .inr ⟨a, l, h, T.ext0 e, U, n⟩
theorem ui_start {s t : Tr} (o1 : TOk s 4) (o2 : TOk t 4) : UI NV2 [] [(s, t)] := ⟨List.nodup_nil, (fun n hn => by cases hn), (fun n t hn => by cases hn), fun p q hm => by
  have e : p = s ∧ q = t := by simpa using hm
  obtain ⟨rfl, rfl⟩ := e
  have f0 : ∀ t : Tr, t.fill (lk []) = t := fun t => Tr.fill_id fun _ _ => rfl
  rw [f0, f0]
  exact ⟨⟨o1.nv, o1.dep⟩, o2.nv, o2.dep⟩⟩
theorem made_best {v u : V} {s t : Tr} {H : Hp} {Q : VK} {E : XK} (h1 : Td K H v s.data) (h2 : Td K H u t.data) (o1 : TOk s 4) (o2 : TOk t 4) (q : ∀ (x : V) (H' : Hp), Ext [] H H' → Best K s t x H' → Q x H') : spMade K NV2 [v, u] H Q E :=
  ⟨v, u, s, t, rfl, h1, h2, ui_start o1 o2, fun n hn H' e => q _ _ e (.inl ⟨rfl, n, hn⟩), fun n l hn U a H' e T => q _ _ e (.inr ⟨a, l, rfl, T, U, n, hn⟩)⟩
theorem best_fill {l : Tab} (U : UI NV2 l []) {t : Tr} {d : Nat} (o : TOk t d) (hd : d ≤ 4) : (∀ x ∈ (t.fill (lk l)).names, x ∈ NSP) ∧ (t.fill (lk l)).dep ≤ 40 := by
  have hl : l.length ≤ 2 := U.len
  have hE : EB l.length ≤ 13 := by
    have : 2 ^ l.length ≤ 2 ^ 2 := Nat.pow_le_pow_right (by omega) hl
    unfold EB; omega
  refine ⟨fun x hx => nv2_sub x (U.fresh o.nv x hx).1, ?_⟩
  have := Tr.dep_fill_le (s := lk l) (B := 13) (by decide) (t := t) fun x u hx hu => by have := (U.vals x u (lk_mem hu)).2; omega
  have := o.dep
  omega
def WayAt (K : PySem.W.Frag) (t1 t2 : Tr) (x : V) (H : Hp) : Prop := ∃ aw w1 w2, x = .ref aw ∧ TabA K H aw (tabXY w1 w2) ∧ Gnd w1 3 ∧ Gnd w2 3 ∧ t1.fill (lk (tabXY w1 w2)) = t2.fill (lk (tabXY w1 w2))
theorem WayAt.ext0 {t1 t2 : Tr} {x : V} {H H' : Hp} (e : Ext [] H H') : WayAt K t1 t2 x H → WayAt K t1 t2 x H' := fun ⟨aw, w1, w2, h, T, r⟩ => ⟨aw, w1, w2, h, T.ext0 e, r⟩
theorem WayAt.set {t1 t2 : Tr} {x : V} {H : Hp} {D : Addr} {ys : List V} {o : HO} (h : H D = some (.lst ys)) : WayAt K t1 t2 x H → WayAt K t1 t2 x (upd H D o) := fun ⟨aw, w1, w2, e, T, r⟩ => by
  refine ⟨aw, w1, w2, e, T.ext (Ext.setL (S := [D]) List.mem_cons_self h) (fun z => ?_), r⟩
  have z' : aw = D := by simpa using z
  obtain ⟨kvs, hk, _⟩ := T
  rw [z'] at hk
  unfold dctF at hk
  rw [h] at hk
  cases hk
def BadAt (K : PySem.W.Frag) (x : V) (H : Hp) : Prop := (∃ d, Td K H x d ∧ SeqAt.shaped d = true ∧ 2 * d.depth + 2 ≤ 60 ∧ isT d = false) ∨ ∃ a ys, x = .ref a ∧ H a = some (.lst ys)
theorem BadAt.ext0 {x : V} {H H' : Hp} (e : Ext [] H H') : BadAt K x H → BadAt K x H'
  | .inl ⟨d, h, r⟩ => .inl ⟨d, h.ext e, r⟩
  | .inr ⟨a, ys, h, q⟩ => .inr ⟨a, ys, h, e.lst0 q⟩
theorem newTab {H : Hp} {p : Addr} {v1 v2 : V} {w1 w2 : Tr} (n : H p = none) (h1 : Td K H v1 w1.data) (h2 : Td K H v2 w2.data) : Ext [] H (upd (upd H p (.dK [])) p (.dK (mergeK [] [((Sum.inr (Str.ofString "x") : Key), v1), (Sum.inr (Str.ofString "y"), v2)]))) ∧ TabA K (upd (upd H p (.dK [])) p (.dK (mergeK [] [((Sum.inr (Str.ofString "x") : Key), v1), (Sum.inr (Str.ofString "y"), v2)]))) p (tabXY w1 w2) := by
  have e : Ext [] H (upd (upd H p (.dK [])) p (.dK (mergeK [] [((Sum.inr (Str.ofString "x") : Key), v1), (Sum.inr (Str.ofString "y"), v2)]))) := (Ext.new (S := []) n).over n (Ext.setD List.mem_cons_self upd_same)
  exact ⟨e, _, dctF_dK upd_same, .cons (h1.ext e) (.cons (h2.ext e) .nil)⟩
theorem small_ok : ∀ t ∈ smalls, Gnd t 3 := by
  have : ∀ t ∈ smalls, t.dep ≤ 3 ∧ t.names = [] := by decide
  exact fun t ht => ⟨(this t ht).1, (this t ht).2⟩
abbrev s_law : Stmt := top 14
abbrev n_law : List Str := ["script", "small", "dice", "one", "two", "three", "table", "name", "seen", "best", "ways", "first", "second", "way", "low", "high", "common", "bad"]
theorem sc_law : FnScope n_law ["script"] (defScope s_law) := ⟨rfl, rfl, rfl, by decide +kernel, rfl, by decide +kernel, by decide +kernel⟩
theorem law_runs {s : Shared} {H : Hp} {a : Addr} {ns : List Int} (F : Dn K mg "law" s_law f fd c) (hb : ∀ (s : Shared) (u : Value), BindsTo s fd ⟨[u], []⟩ [("script", u)]) (B : Bl mg) (G__law_rounds : Cal P w K mg base 2 "_law_rounds" (spRounds K 3)) (G__law_tree : Cal P w K mg base 10 "_law_tree" (spLT K 10))
    (G_is_tree : Cal P w K mg base 60 "is_tree" (spIsT K tb 60)) (G_filled : Cal P w K mg base 64 "filled" (spFill K 64)) (G__law_fill : Cal P w K mg base 64 "_law_fill" (spFill K 64)) (G_holes : Cal P w K mg base 64 "holes" (spHolesS K NSP 64)) (G_fits : Cal P w K mg base 1 "fits" (spFits K NSP))
    (G_made_one : Cal P w K mg base 65 "made_one" (spMade K NV2)) (G_made_oneU : Cal P w K mg base 65 "made_one" (spMadeU K NSP)) (G_shared : Cal P w K mg base 21 "shared" (spShared K))
    (en : Env0 P w K mg base callerA [] s H) (ha : SqL K H a (ns.map V.int)) (htb : GxR.TabG H tb) :
    codeAny (model P w) callerA (.call (.ref f) ⟨[.ref a], []⟩) (CR CX0 [] P w H s (fun v _ => v = .bl true) fun _ _ _ => False) s := by
  refine run_here (k := 67) (ps := ["script"]) (us := [.ref a]) (vs := [.ref a]) F sc_law ⟨rfl, by decide, by decide⟩ en (hb s (.ref a)) (.cons rfl .nil) rfl ?_
  have hr : Room 67 (callerA.deeper (envOfC "law" (defScope s_law) s.heap.objs.size f (.ref c))) := (⟨rfl, by decide, by decide⟩ : Room 68 callerA).deeper _
  have q : ∀ H' : Hp, (fun v _ => v = V.bl true : VK) (V.bl true) H' := fun _ => rfl
  revert q
  generalize (fun v _ => v = V.bl true : VK) = Q
  intro q
  refine ⟨_, (pss_cons (ps_set (i := 1) sc_law.nd rfl (by first | exact Or.inl rfl | exact Or.inr rfl) (pe_lstF (pa_cons (pe_tupK K (pa_cons pe_str pa_nil)) (pa_cons (pe_tupK K (pa_cons pe_str pa_nil)) (pa_cons (pe_tupK K (pa_cons pe_str (pa_cons (pe_tupK K (pa_cons pe_str pa_nil)) pa_nil))) (pa_cons (pe_tupK K (pa_cons pe_str (pa_cons (pe_tupK K (pa_cons pe_str pa_nil)) (pa_cons (pe_tupK K (pa_cons pe_str pa_nil)) pa_nil)))) (pa_cons (pe_tupK K (pa_cons pe_str (pa_cons (pe_tupK K (pa_cons pe_str pa_nil)) pa_nil))) pa_nil)))))))
    (pss_cons (ps_forF PassesOwn.never rfl (pi_lstK K (C8.pe_c G__law_rounds hr (by omega) (by rfl) (pa_cons (pv 0) (pa_cons pe_int pa_nil)))) (pg_name (i := 2) sc_law.nd rfl (by first | exact Or.inl rfl | exact Or.inr rfl)) (pss_cons (ps_asg (pe_tupK K (pa_cons (C8.pe_c G__law_tree hr (by omega) (by rfl) (pa_cons (pv 2) (pa_cons pe_int (pa_cons pe_str pa_nil)))) (pa_cons (C8.pe_c G__law_tree hr (by omega) (by rfl) (pa_cons (pv 2) (pa_cons pe_int (pa_cons pe_str pa_nil)))) (pa_cons (C8.pe_c G__law_tree hr (by omega) (by rfl) (pa_cons (pv 2) (pa_cons pe_int (pa_cons pe_str pa_nil)))) pa_nil)))) (pg_tupK K (n := 3) (by rfl) (pgs_cons (pg_name (i := 3) sc_law.nd rfl (by first | exact Or.inl rfl | exact Or.inr rfl)) (pgs_cons (pg_name (i := 4) sc_law.nd rfl (by first | exact Or.inl rfl | exact Or.inr rfl)) (pgs_cons (pg_name (i := 5) sc_law.nd rfl (by first | exact Or.inl rfl | exact Or.inr rfl)) pgs_nil)))))
    (PSs.hide (pss_cons (ps_set (i := 6) sc_law.nd rfl (by first | exact Or.inl rfl | exact Or.inr rfl) (pe_disp (pps_cons pe_str (C8.pe_c G__law_tree hr (by omega) (by rfl) (pa_cons (pv 2) (pa_cons pe_int (pa_cons pe_str pa_nil)))) (pps_cons pe_str (C8.pe_c G__law_tree hr (by omega) (by rfl) (pa_cons (pv 2) (pa_cons pe_int (pa_cons pe_str pa_nil)))) pps_nil)) (by rfl) (by rfl) (fun z => by cases z) (by decide)))
    (PSs.hide (pss_cons (ps_if (PW.pt (pw_or (pt_not (pt_val (C8.pe_c G_is_tree hr (by omega) (by rfl) (pa_cons (pv 3) pa_nil)))) (pw_or1 (pt_cmpR (op_neK K hr.units) (C8.pe_c G_filled hr (by omega) (by rfl) (pa_cons (pv 3) (pa_cons (pv 6) pa_nil))) (C8.pe_c G__law_fill hr (by omega) (by rfl) (pa_cons (pv 3) (pa_cons (pv 6) pa_nil))) (nomark _))))) (pss_one (ps_ret pe_bl)) pss_nil)
    (PSs.hide (pss_cons (ps_if (pt_cmpR (op_neLK K hr.units) (pe_callTy (call_listK K) (by rfl) B.b_list (by decide +kernel) (pa_cons (C8.pe_c G_holes hr (by omega) (by rfl) (pa_cons (pv 3) pa_nil)) pa_nil)) (pe_lcF (own := [("name", 7)]) rfl sc_law.nd (pi_str pe_str) (blkOk_by (own := [("name", 7)]) (N := n_law) (sc := defScope s_law) (by decide +kernel)) (fun _ _ _ _ _ => (pg_name (i := 7) sc_law.nd rfl (by first | exact Or.inl rfl | exact Or.inr rfl))) (fun _ _ _ _ _ => pts_one (PW.pt (pw_or (pt_cmpR (op_eqK K hr.units) (pe_tupK K (pa_cons pe_str (pa_cons (pv 7) pa_nil))) (pv 3) (nomark _)) (pw_or1 (pt_cmpR op_in_str (pe_op op_add_str (pe_op op_add_str pe_str (pv 7)) pe_str) (pe_callTy (call_strT K (by rfl) (units90 hr)) (by rfl) B.b_str (by decide +kernel) (pa_cons (pv 3) pa_nil)) (by rfl)))))) (fun _ _ _ _ _ => (pv 7))) (nomark _)) (pss_one (ps_ret pe_bl)) pss_nil)
    (PSs.hide (pss_cons (ps_set (i := 8) sc_law.nd rfl (by first | exact Or.inl rfl | exact Or.inr rfl) (C8.pe_c G_fits hr (by omega) (by rfl) (pa_cons (pv 3) (pa_cons (C8.pe_c G__law_fill hr (by omega) (by rfl) (pa_cons (pv 3) (pa_cons (pv 6) pa_nil))) pa_nil))))
    (pss_cons (ps_if (PW.pt (pw_or (pt_cmpR op_isN (pv 8) pe_non (nomark _)) (pw_or1 (pt_cmpR (op_neK K hr.units) (C8.pe_c G__law_fill hr (by omega) (by rfl) (pa_cons (pv 3) (pa_cons (pv 8) pa_nil))) (C8.pe_c G__law_fill hr (by omega) (by rfl) (pa_cons (pv 3) (pa_cons (pv 6) pa_nil))) (nomark _))))) (pss_one (ps_ret pe_bl)) pss_nil)
    (PSs.hide (pss_cons (ps_set (i := 8) sc_law.nd rfl (by first | exact Or.inl rfl | exact Or.inr rfl) (C8.pe_c G_fits hr (by omega) (by rfl) (pa_cons (pv 5) (pa_cons (pv 4) pa_nil))))
    (pss_cons (ps_if (PW.pt (pw_and (pt_cmpR op_notN (pv 8) pe_non (nomark _)) (pw_and1 (pt_cmpR (op_neK K hr.units) (C8.pe_c G__law_fill hr (by omega) (by rfl) (pa_cons (pv 5) (pa_cons (pv 8) pa_nil))) (pv 4) (nomark _))))) (pss_one (ps_ret pe_bl)) pss_nil)
    (PSs.hide (pss_cons (ps_set (i := 9) sc_law.nd rfl (by first | exact Or.inl rfl | exact Or.inr rfl) (C8.pe_c G_made_one hr (by omega) (by rfl) (pa_cons (pv 3) (pa_cons (pv 4) pa_nil))))
    (pss_cons (ps_set (i := 10) sc_law.nd rfl (by first | exact Or.inl rfl | exact Or.inr rfl) (pe_lstF pa_nil))
    (pss_cons (ps_forF PassesOwn.never rfl (pi_lstK K (pv 1)) (pg_name (i := 11) sc_law.nd rfl (by first | exact Or.inl rfl | exact Or.inr rfl)) (pss_one (ps_set (i := 10) sc_law.nd rfl (by first | exact Or.inl rfl | exact Or.inr rfl) (pe_op op_catL (pv 10) (pe_lcF (own := [("second", 12)]) rfl sc_law.nd (pi_lstK K (pv 1)) (blkOk_by (own := [("second", 12)]) (N := n_law) (sc := defScope s_law) (by decide +kernel)) (fun _ _ _ _ _ => (pg_name (i := 12) sc_law.nd rfl (by first | exact Or.inl rfl | exact Or.inr rfl))) (fun _ _ _ _ _ => pts_one (pt_cmpR (op_eqK K hr.units) (C8.pe_c G__law_fill hr (by omega) (by rfl) (pa_cons (pv 3) (pa_cons (pe_disp (pps_cons pe_str (pv 11) (pps_cons pe_str (pv 12) pps_nil)) (by rfl) (by rfl) (fun z => by cases z) (by decide)) pa_nil))) (C8.pe_c G__law_fill hr (by omega) (by rfl) (pa_cons (pv 4) (pa_cons (pe_disp (pps_cons pe_str (pv 11) (pps_cons pe_str (pv 12) pps_nil)) (by rfl) (by rfl) (fun z => by cases z) (by decide)) pa_nil))) (nomark _))) (fun _ _ _ _ _ => (pe_disp (pps_cons pe_str (pv 11) (pps_cons pe_str (pv 12) pps_nil)) (by rfl) (by rfl) (fun z => by cases z) (by decide))))))))
    (PSs.hide (pss_cons (ps_if (PW.pt (pw_or (PW.pt (pw_and (pt_cmpR op_isN (pv 9) pe_non (nomark _)) (pw_and1 (pt_cmpR (op_neLK K hr.units) (pv 10) (pe_lstF pa_nil) (nomark _))))) (pw_or1 (PW.pt (pw_and (pt_cmpR op_notN (pv 9) pe_non (nomark _)) (pw_and1 (pt_cmpR (op_neK K hr.units) (C8.pe_c G__law_fill hr (by omega) (by rfl) (pa_cons (pv 3) (pa_cons (pv 9) pa_nil))) (C8.pe_c G__law_fill hr (by omega) (by rfl) (pa_cons (pv 4) (pa_cons (pv 9) pa_nil))) (nomark _)))))))) (pss_one (ps_ret pe_bl)) pss_nil)
    (PSs.hide (pss_cons (ps_if (pt_cmpR op_notN (pv 9) pe_non (nomark _)) (pss_one (ps_forF PassesOwn.never rfl (pi_lstK K (pv 10)) (pg_name (i := 13) sc_law.nd rfl (by first | exact Or.inl rfl | exact Or.inr rfl)) (pss_one (ps_if (pt_cmpR (op_neLK K hr.units) (pe_lcF (own := [("name", 7)]) rfl sc_law.nd (pi_str pe_str) (blkOk_by (own := [("name", 7)]) (N := n_law) (sc := defScope s_law) (by decide +kernel)) (fun _ _ _ _ _ => (pg_name (i := 7) sc_law.nd rfl (by first | exact Or.inl rfl | exact Or.inr rfl))) (fun _ _ _ _ _ => pts_one (pt_cmpR (op_neK K hr.units) (C8.pe_c G__law_fill hr (by omega) (by rfl) (pa_cons (pe_dget2F (hu_of hr) (pv 9) (pv 7) (pe_tupK K (pa_cons pe_str (pa_cons (pv 7) pa_nil))) ⟨rfl, rfl, rfl, rfl⟩) (pa_cons (pv 13) pa_nil))) (pe_dgetF (hu_of hr) (pv 13) (pv 7) (fun _ _ => rfl)) (nomark _))) (fun _ _ _ _ _ => (pv 7))) (pe_lstF pa_nil) (nomark _)) (pss_one (ps_ret pe_bl)) pss_nil)))) pss_nil)
    (PSs.hide (pss_cons (ps_if (PW.pt (pw_or (pt_cmpR op_notN (C8.pe_c G_made_one hr (by omega) (by rfl) (pa_cons (pe_tupK K (pa_cons pe_str (pa_cons pe_str pa_nil))) (pa_cons (pe_tupK K (pa_cons pe_str (pa_cons (pe_tupK K (pa_cons pe_str (pa_cons pe_str pa_nil))) pa_nil))) pa_nil))) pe_non (nomark _)) (pw_or1 (pt_cmpR op_notN (C8.pe_c G_made_oneU hr (by omega) (by rfl) (pa_cons (pe_tupK K (pa_cons pe_str (pa_cons (pv 3) pa_nil))) (pa_cons (pe_tupK K (pa_cons pe_str (pa_cons (pv 3) (pa_cons (pv 4) pa_nil)))) pa_nil))) pe_non (nomark _))))) (pss_one (ps_ret pe_bl)) pss_nil)
    (PSs.hide (pss_cons (ps_par (i := 14) (j := 15) (by rfl) sc_law.nd rfl rfl (by decide) rfl rfl (pa_cons (C8.pe_c G__law_fill hr (by omega) (by rfl) (pa_cons (pv 5) (pa_cons (pv 6) pa_nil))) (pa_cons (C8.pe_c G__law_fill hr (by omega) (by rfl) (pa_cons (pv 5) (pa_cons (pe_disp (pps_cons pe_str (C8.pe_c G__law_tree hr (by omega) (by rfl) (pa_cons (pv 2) (pa_cons pe_int (pa_cons pe_str pa_nil)))) (pps_cons pe_str (C8.pe_c G__law_tree hr (by omega) (by rfl) (pa_cons (pv 2) (pa_cons pe_int (pa_cons pe_str pa_nil)))) pps_nil)) (by rfl) (by rfl) (fun z => by cases z) (by decide)) pa_nil))) pa_nil)) (by rfl))
    (PSs.hide (pss_cons (ps_set (i := 16) sc_law.nd rfl (by first | exact Or.inl rfl | exact Or.inr rfl) (C8.pe_c G_shared hr (by omega) (by rfl) (pa_cons (pv 14) (pa_cons (pv 15) pa_nil))))
    (pss_cons (ps_if (PW.pt (pw_or (pt_cmpR op_isN (C8.pe_c G_fits hr (by omega) (by rfl) (pa_cons (pv 16) (pa_cons (pv 14) pa_nil))) pe_non (nomark _)) (pw_or (pt_cmpR op_isN (C8.pe_c G_fits hr (by omega) (by rfl) (pa_cons (pv 16) (pa_cons (pv 15) pa_nil))) pe_non (nomark _)) (pw_or1 (pt_cmpR op_isN (C8.pe_c G_fits hr (by omega) (by rfl) (pa_cons (pv 5) (pa_cons (pv 16) pa_nil))) pe_non (nomark _)))))) (pss_one (ps_ret pe_bl)) pss_nil)
    (PSs.hide (pss_cons (ps_if (pt_cmpR (op_neK K hr.units) (C8.pe_c G_shared hr (by omega) (by rfl) (pa_cons (pv 14) (pa_cons (pv 14) pa_nil))) (pv 14) (nomark _)) (pss_one (ps_ret pe_bl)) pss_nil)
    (PSs.hide (pss_one (ps_forF PassesOwn.never rfl (pi_lstK K (pe_lstF (pa_cons pe_non (pa_cons (pe_tupK K pa_nil) (pa_cons (pe_tupK K (pa_cons pe_str pa_nil)) (pa_cons (pe_tupK K (pa_cons pe_str (pa_cons pe_int pa_nil))) (pa_cons (pe_tupK K (pa_cons pe_int pa_nil)) (pa_cons (pe_tupK K (pa_cons pe_str (pa_cons pe_str pa_nil))) (pa_cons (pe_lstF (pa_cons pe_str pa_nil)) pa_nil))))))))) (pg_name (i := 17) sc_law.nd rfl (by first | exact Or.inl rfl | exact Or.inr rfl)) (pss_one (ps_if (pt_val (C8.pe_c G_is_tree hr (by omega) (by rfl) (pa_cons (pv 17) pa_nil))) (pss_one (ps_ret pe_bl)) pss_nil))))))))))))))))))))))))))))))))))))
    (pss_one (ps_ret pe_bl)))), ?_⟩
  walk_at "rd"
  refine ⟨by decide, fun q1 H1 e1 h1 => ⟨by decide, fun q2 H2 e2 h2 => ⟨by decide, fun q3 H3 e3 h3 => ⟨by decide, fun q4 H4 e4 h4 => ⟨by decide, fun q5 H5 e5 h5 => ⟨by decide, fun q6 H6 e6 h6 => ⟨by decide, fun q7 H7 e7 h7 => ⟨by decide, fun q8 H8 e8 h8 => ⟨by decide, fun q9 H9 e9 h9 => ⟨by decide, fun o H10 no e10 ho => ?_⟩⟩⟩⟩⟩⟩⟩⟩⟩⟩
  have x9 := e10
  have x8 := e9.trans x9
  have x7 := e8.trans x8
  have x6 := e7.trans x7
  have x5 := e6.trans x6
  have x4 := e5.trans x5
  have x3 := e4.trans x4
  have x2 := e3.trans x3
  have x1 := e2.trans x2
  have hsm : TdAll K H10 [V.ref q1, V.ref q2, V.ref q4, V.ref q7, V.ref q9] (smalls.map Tr.data) :=
    .cons (.tup (tupF_ext x1 h1) (.cons (.str _) .nil)) (.cons (.tup (tupF_ext x2 h2) (.cons (.str _) .nil)) (.cons (.tup (tupF_ext x4 h4) (.cons (.str _) (.cons (.tup (tupF_ext x3 h3) (.cons (.str _) .nil)) .nil)))
      (.cons (.tup (tupF_ext x7 h7) (.cons (.str _) (.cons (.tup (tupF_ext x5 h5) (.cons (.str _) .nil)) (.cons (.tup (tupF_ext x6 h6) (.cons (.str _) .nil)) .nil)))) (.cons (.tup (tupF_ext x9 h9) (.cons (.str _) (.cons (.tup (tupF_ext x8 h8) (.cons (.str _) .nil)) .nil))) .nil))))
  have x0 := e1.trans x1
  clear x1 x2 x3 x4 x5 x6 x7 x8 x9 e1 e2 e3 e4 e5 e6 e7 e8 e9 e10 h1 h2 h3 h4 h5 h6 h7 h8 h9
  refine ⟨a, ns, rfl, x0.sqL0 ha, fun p ds H11 e11 hp hl hds nd hpd => ⟨p, rfl, _, hp, ?_⟩⟩
  have hod : o ∉ ds := fun z => by
    obtain ⟨x, y, z, h⟩ := hds o z
    have := e11.lst0 ho
    rw [h] at this
    cases this
  refine for_go walk_list (fun j σ' H' => (∃ x2 x3 x4 x5 x6 x7 x8 x9 x10 x11 x12 x13 x14 x15 x16 x17, σ' = [some (.ref a), some (.ref o), x2, x3, x4, x5, x6, x7, x8, x9, x10, x11, x12, x13, x14, x15, x16, x17]) ∧ RI K ds p o tb H') ⟨⟨_, _, _, _, _, _, _, _, _, _, _, _, _, _, _, _, rfl⟩, ⟨⟨_, e11.lst0 ho, hsm.ext e11⟩, hp, hds, e11.tab _ (x0.tab _ htb)⟩⟩ (fun j σ' H' _ ⟨_, r⟩ => SqL.of r.p) (fun j x σ' H2 H2' hj ⟨⟨x2, x3, x4, x5, x6, x7, x8, x9, x10, x11, x12, x13, x14, x15, x16, x17, hσ⟩, ri⟩ y => ?_) fun σ' H' _ => q _
  obtain ⟨rfl, hx⟩ := y
  subst hσ
  rw [List.getElem?_map] at hx
  obtain ⟨d, hm, rfl⟩ : ∃ d, ds[j]? = some d ∧ x = V.ref d := by
    cases hm : ds[j]? with
    | none => rw [hm] at hx; cases hx
    | some d => rw [hm] at hx; exact ⟨d, rfl, (Option.some.inj hx).symm⟩
  have hdm : d ∈ ds := List.mem_of_getElem? hm
  have hd0 := ri.d d hdm
  clear hx hds hp hsm no ho
  walk_at "rd"
  refine ⟨d, 3, "xy", rfl, by decide, .inl rfl, hd0, fun v1 t1 H3 e3 hd3 ht1 td1 tn1 => ⟨d, 3, "xy", rfl, by decide, .inl rfl, hd3, fun v2 t2 H4 e4 hd4 ht2 td2 tn2 => ⟨d, 2, "xy", rfl, by decide, .inl rfl, hd4, fun v3 t3 H5 e5 hd5 ht3 td3 tn3 => ⟨by decide, fun pt H6 e6 hpt => ⟨_, hpt, rfl, _, _, rfl, _, _, rfl, _, _, rfl, rfl, ?_⟩⟩⟩⟩⟩
  have o1 : TOk t1 4 := ⟨td1, fun x hx => (tn1 x hx).2⟩
  have o2 : TOk t2 4 := ⟨td2, fun x hx => (tn2 x hx).2⟩
  have o3 : TOk t3 3 := ⟨td3, fun x hx => (tn3 x hx).2⟩
  have e26 : Ext [d] H2' H6 := ((e3.trans e4).trans e5).trans e6.any
  have hd6 := DiceAt.ext0 e6 hd5
  have r6 := ri.step hpd hod hdm e26 hd6
  have ht1 := ((ht1.ext e4).ext e5).ext e6
  have ht2 := (ht2.ext e5).ext e6
  have ht3 := ht3.ext e6
  clear e26 e3 e4 e5 e6 hd3 hd4 hd5 td1 td2 td3 tn1 tn2 tn3 hpt
  rw [hideS_eq]
  walk_at "rd"
  intro p1 np1
  have nd1 : p1 ∉ [d] := fun z => by
    have z' : p1 = d := by simpa using z
    obtain ⟨x, y, z, q⟩ := hd6
    rw [z', q] at np1
    cases np1
  have eN : Ext [] H6 (upd H6 p1 (.dK [])) := Ext.new np1
  refine ⟨d, 2, "", rfl, by decide, .inr rfl, DiceAt.ext0 eN hd6, fun y1 g1 H7 e7 hd7 hg1 gd1 gn1 => ⟨d, 2, "", rfl, by decide, .inr rfl, hd7, fun y2 g2 H8 e8 hd8 hg2 gd2 gn2 => ⟨(e7.trans e8).dK upd_same nd1, [(.inr "x", y1), (.inr "y", y2)], rfl, by show 2 ≤ 15; decide, ?_⟩⟩⟩
  have h8 := (e7.trans e8).dK upd_same nd1
  have gz : ∀ g : Tr, (∀ x ∈ g.names, (("" : Str) = "xy") ∧ (x = "x" ∨ x = "y")) → g.names = [] := fun g h => by
    cases e : g.names with
    | nil => rfl
    | cons w ws => exact absurd (h w (by rw [e]; exact List.mem_cons_self)).1 (by decide)
  have k1 : Gnd g1 3 := ⟨gd1, gz g1 gn1⟩
  have k2 : Gnd g2 3 := ⟨gd2, gz g2 gn2⟩
  generalize hH9 : upd H8 p1 (HO.dK (mergeK [] [(Sum.inr (Str.ofString "x"), y1), (Sum.inr (Str.ofString "y"), y2)])) = H9
  have e89 : Ext [p1] H8 H9 := by rw [← hH9]; exact Ext.setD List.mem_cons_self h8
  have e69 : Ext [d] H6 H9 := (eN.any.trans (e7.trans e8)).overS np1 e89
  have nd2 : d ∉ [p1] := fun z => nd1 (by simpa using (show d = p1 by simpa using z).symm)
  have hd9 : DiceAt H9 d := by obtain ⟨x, y, z, q⟩ := hd8; exact ⟨x, y, z, e89.lst q nd2⟩
  have S9 : TS K ds p o tb p1 v1 v2 v3 t1 t2 t3 g1 g2 H9 := ⟨r6.step hpd hod hdm e69 hd9, ⟨_, dctF_dK (by rw [← hH9]; exact upd_same), .cons ((hg1.ext e8).ext e89) (.cons (hg2.ext e89) .nil)⟩, ht1.ext e69, ht2.ext e69, ht3.ext e69⟩
  clear hH9 e89 e69 nd2 hd9 eN h8 gz e7 e8 hd7 hd8 hg1 hg2 gd1 gd2 gn1 gn2 nd1 np1 hd6 r6 ht1 ht2 ht3 ri hd0
  have f1 := o1.fill k1 k2
  have f2 := o2.fill k1 k2
  have f3 := o3.fill k1 k2
  rw [hideS_eq]
  walk_at "rd"
  refine ⟨v1, rfl, S9.ri.tb, by decide, .inl ⟨t1.data, S9.h1, Tr.shaped nsp_ok o1.ns (by have := o1.dep; omega), by rw [Tr.depth_data]; have := o1.dep; omega, fun H10 e10 => ⟨_, rfl, ?_⟩⟩⟩
  rw [isT_data, if_neg (by decide)]
  have S10 := S9.ext0 e10
  refine ⟨v1, t1, p1, _, rfl, S10.h1, by have := o1.dep; omega, S10.T, fun w1 H11 e11 hw1 => ⟨v1, t1, p1, _, rfl, (S10.ext0 e11).h1, by have := o1.dep; omega, (S10.ext0 e11).T, fun w2 H12 e12 hw2 => eq_same (hw1.ext e12) hw2 f1.ns (by have := f1.dep; omega) ⟨_, rfl, ?_⟩⟩⟩
  rw [if_neg (by decide)]
  have S12 := S10.ext0 (e11.trans e12)
  clear S9 S10 e10 e11 e12 hw1 hw2
  rw [hideS_eq]
  walk_at "rd"
  refine ⟨v1, t1, rfl, S12.h1, by have := o1.dep; omega, o1.ns, fun ph hs H13 e13 hph hmem hnod hsort => ?_⟩
  refine ⟨ph, rfl, _, hph, fun lh H14 n14 e14 h14 => ?_⟩
  have S14 := S12.ext0 (e13.trans e14)
  have hlist := names_list o1.nm hmem hnod hsort
  subst hlist
  clear hmem hnod hsort S12
  refine lc_go walk_str (fun D => PvN t1 H14) (fun D hD => ⟨rfl, Ext.new hD⟩) (fun _ _ _ _ _ => trivial) (fun D j z ys H' H'' hD hj ⟨hys, e⟩ hyl hH y => ?_) fun D ys H' hD ⟨hys, e⟩ hH _ => ?_
  · obtain ⟨rfl, c0, hc, rfl⟩ := y
    have hj : j < 2 := hj
    obtain ⟨n, hn, hn1, hnxy⟩ : ∃ n : Str, NV2[j]? = some n ∧ (⟨#[c0]⟩ : Str) = n ∧ (n = "x" ∨ n = "y") := by
      match j, hj with
      | 0, _ => have : some 120 = some c0 := hc
                cases this; exact ⟨"x", rfl, rfl, .inl rfl⟩
      | 1, _ => have : some 121 = some c0 := hc
                cases this; exact ⟨"y", rfl, rfl, .inr rfl⟩
    rw [hn1]
    clear hc hn1
    walk_at "rd"
    have hs1 : (10000 : Nat) < sizeLine := by decide
    have app : n ∈ t1.names → ∀ H3, Ext [] H'' H3 → ∃ acc, H3 D = some (HO.lst acc) ∧ acc.length < sizeLine ∧ LcN D (PvN t1 H14) (j + 1) (upd H3 D (HO.lst (acc ++ [V.str n]))) := fun hm H3 e3 =>
      ⟨ys, e3.lst0 hH, by omega, ys ++ [.str n], by rw [List.length_append, List.length_singleton]; omega, upd_same, by rw [take_snoc hn, List.filter_append, List.map_append, hys]; simp [hm], (e.trans e3).over hD (Ext.setL List.mem_cons_self (e3.lst0 hH))⟩
    have noapp : n ∉ t1.names → ∀ H3, Ext [] H'' H3 → LcN D (PvN t1 H14) (j + 1) H3 := fun hm H3 e3 =>
      ⟨ys, by omega, e3.lst0 hH, by rw [take_snoc hn, List.filter_append, List.map_append, hys]; simp [hm], e.trans e3⟩
    have hnN : n ∈ NSP := nv2_sub n (by rcases hnxy with q | q <;> subst q <;> decide)
    have shv : SeqAt.shaped (Tr.v n).data = true := Tr.shaped nsp_ok (t := .v n) (fun x hx => by
      have : x = n := by simpa [Tr.names] using hx
      rw [this]; exact hnN) (by simp [Tr.dep])
    refine ⟨by decide, fun pv H3 e3 hpv => ⟨(Tr.v n).data, t1.data, .tup hpv (.cons (.str _) (.cons (.str _) .nil)), (S14.ext0 (e.trans e3)).h1, shv, Tr.shaped nsp_ok o1.ns (by have := o1.dep; omega), _, rfl, ?_⟩⟩
    rw [if_neg Bool.false_ne_true, Tr.eqv_data]
    by_cases hv1 : Tr.v n = t1
    · rw [decide_eq_true hv1, if_pos rfl]
      exact app (by rw [← hv1]; simp [Tr.names]) H3 e3
    · rw [decide_eq_false hv1, if_neg (by decide)]
      obtain ⟨dd, hdd⟩ : ∃ dd, t1.data = .tuple dd := by cases t1 <;> exact ⟨_, rfl⟩
      have hsh := Tr.shaped nsp_ok o1.ns (show t1.dep ≤ 64 by have := o1.dep; omega)
      have htd := (S14.ext0 (e.trans e3)).h1
      have hso := show_ok t1
      have htl := txt_len t1 o1.nm
      have hsz := sz_5 (t := t1) (by have := o1.dep; omega)
      have ho := occ_txt hnxy t1 o1.nm
      unfold txt at ho htl
      rw [hdd] at hsh htd hso ho htl
      refine ⟨by rcases hnxy with q | q <;> subst q <;> decide +kernel, by rcases hnxy with q | q <;> subst q <;> decide +kernel, v1, dd, rfl, htd, hsh, hso, ?_, _, rfl, ?_⟩
      · have : (PyData.tuple dd).shown.length = (PyData.tuple dd).shown.cps.toList.length := by simp [Str.length]
        omega
      · have hoc := occ_in (PyData.tuple dd).shown (Str.ofString "('v', '" ++ n ++ Str.ofString "')")
        have hpat : (Str.ofString "('v', '" ++ n ++ Str.ofString "')").cps.toList = pat n := by
          rw [Str.cps_append, Str.cps_append, Array.toList_append, Array.toList_append, List.append_assoc]; rfl
        rw [hpat, ho] at hoc
        by_cases hm : n ∈ t1.names
        · rw [if_pos (hoc.mpr hm)]; exact app hm H3 e3
        · rw [if_neg (fun z => hm (hoc.mp z))]; exact noapp hm H3 e3
  · walk_at "rd"
    have e2 : NV2.take (Str.ofString "xy").cps.size = NV2 := rfl
    rw [e2] at hys
    subst hys
    have hN : ∀ n ∈ NV2.filter (fun n => decide (n ∈ t1.names)), n ∈ NSP := fun n hn => nv2_sub n (List.mem_filter.mp hn).1
    refine ⟨_, e.lst0 h14, _, hH, _, strs_td _, _, strs_td _, strs_shaped hN, strs_shaped hN, ?_⟩
    rw [strs_eqv, if_neg (by decide)]
    have S15 := S14.ext0 e
    clear S14 hN
    rw [hideS_eq]
    walk_at "rd"
    have d1 : t1.dep ≤ 4 := o1.dep
    have d2 : t2.dep ≤ 4 := o2.dep
    have d3 : t3.dep ≤ 3 := o3.dep
    have z1 : t1.sz ≤ 31 := sz_5 (by omega)
    have z3 : t3.sz ≤ 31 := sz_5 (by omega)
    refine ⟨v1, t1, p1, _, rfl, S15.h1, by omega, S15.T, fun w1 H16 e16 hw1 => ?_⟩
    have S16 := S15.ext0 e16
    refine ⟨v1, w1, t1, t1.fill (lk (tabXY g1 g2)), rfl, S16.h1, hw1, ⟨o1.ns, by omega⟩, ⟨f1.ns, by have := f1.dep; omega⟩, by omega, fun H' no _ => absurd rfl (no _), fun a' l H17 hfl _ _ _ e17 T17 => ?_⟩
    have S17 := S16.ext0 e17
    dsimp only
    rw [if_neg (by simp)]
    refine ⟨v1, t1, a', l, rfl, S17.h1, by omega, T17, fun w2 H18 e18 hw2 => ⟨v1, t1, p1, _, rfl, (S17.ext0 e18).h1, by omega, (S17.ext0 e18).T, fun w3 H19 e19 hw3 => eq_same (s := t1.fill (lk (tabXY g1 g2))) (by rw [← hfl]; exact hw2.ext e19) hw3 f1.ns (by have := f1.dep; omega) ⟨_, rfl, ?_⟩⟩⟩
    rw [if_neg (by decide)]
    have S19 := S17.ext0 (e18.trans e19)
    clear S15 S16 S17 e16 e17 e18 e19 hw1 hw2 hw3 hfl T17
    rw [hideS_eq]
    walk_at "rd"
    generalize hT : hideS _ _ = T
    suffices tail : ∀ (x8 : Option V) (H' : Hp), Ext [] H19 H' → T [some (V.ref a), some (V.ref o), some (V.ref d), some v1, some v2, some v3, some (V.ref p1), x7, x8, x9, x10, x11, x12, x13, x14, x15, x16, x17] H' by
      refine ⟨v3, v2, t3, t2, rfl, S19.h3, S19.h2, ⟨o3.ns, by omega⟩, ⟨o2.ns, by omega⟩, by omega, fun H' _ e' => ?_, fun a' l H' hfl _ _ _ e' T' => ?_⟩
      · dsimp only
        rw [if_neg (by decide)]
        exact tail _ _ e'
      · dsimp only
        rw [if_pos (by simp)]
        refine ⟨v3, t3, a', l, rfl, (S19.ext0 e').h3, by omega, T', fun w1 H20 e20 hw1 => eq_same (s := t2) (by rw [← hfl]; exact hw1) (S19.ext0 (e'.trans e20)).h2 o2.ns (by omega) ⟨_, rfl, ?_⟩⟩
        rw [if_neg (by decide)]
        exact tail _ _ (e'.trans e20)
    intro y8 H20 e20
    subst hT
    have S20 := S19.ext0 e20
    clear S19 e20
    rw [hideS_eq]
    walk_at "rd"
    refine made_best S20.h1 S20.h2 o1 o2 fun x9 H21 e21 best => ⟨by decide, fun pw H22 nw e22 hw => ?_⟩
    have S22 := S20.ext0 (e21.trans e22)
    replace best := best.ext0 e22
    clear S20 e21 e22 nw
    obtain ⟨svs, hsv, htv⟩ := S22.ri.o
    have hsl := htv.length
    have small : ∀ {j : Nat} {x : V} {H' : Hp}, svs[j]? = some x → Ext [] H22 H' → ∃ t, Gnd t 3 ∧ Td K H' x t.data := fun {j x H'} hx e => by
      obtain ⟨d, hd, htd⟩ := htv.get hx
      rw [List.getElem?_map] at hd
      cases hg : smalls[j]? with
      | none => rw [hg] at hd; cases hd
      | some t => rw [hg] at hd; cases hd; exact ⟨t, small_ok t (List.mem_of_getElem? hg), htd.ext e⟩
    refine ⟨svs, hsv, ?_⟩
    refine for_go walk_list (fun j σ' H' => (∃ x11 x12 pw ws, σ' = [some (V.ref a), some (V.ref o), some (V.ref d), some v1, some v2, some v3, some (V.ref p1), x7, y8, some x9, some (V.ref pw), x11, x12, x13, x14, x15, x16, x17] ∧ H' pw = some (.lst ws) ∧ ws.length ≤ 10 * j ∧ ∀ y ∈ ws, WayAt K t1 t2 y H') ∧ Ext [] H22 H') ⟨⟨_, _, pw, [], rfl, hw, by simp, (fun y hy => by cases hy)⟩, Ext.refl _ _⟩ (fun j σ' H' _ ⟨_, e⟩ => SqL.of (e.lst0 hsv))
      (fun j z σ' H' H'' hj ⟨⟨x11, x12, pw', ws, hσ, hpw, hwl, hway⟩, e⟩ y => ?_) fun σ' H' ⟨⟨x11, x12, pw', ws, hσ, hpw, hwl, hway⟩, e⟩ => ?_
    · obtain ⟨rfl, hz⟩ := y
      subst hσ
      obtain ⟨w1, gw1, hw1⟩ := small hz e
      walk_at "rd"
      have hs1 : (10000 : Nat) < sizeLine := by decide
      have h5 : (smalls.map Tr.data).length = 5 := rfl
      have hj5 : j < 5 := by omega
      refine ⟨svs, e.lst0 hsv, ?_⟩
      refine lc_go walk_list (fun D i ys H3 => (∀ y ∈ ys, WayAt K t1 t2 y H3) ∧ Ext [] H'' H3) (fun D hD => ⟨(fun y hy => by cases hy), Ext.new hD⟩) (fun D i ys H3 ⟨_, e3⟩ => SqL.of (e3.lst0 (e.lst0 hsv))) (fun D i z2 ys H3 H4 hD hi ⟨hys, e3⟩ hyl hH y => ?_) fun D ys H3 hD ⟨hys, e3⟩ hH hyl => ?_
      · obtain ⟨rfl, hz2⟩ := y
        obtain ⟨w2, gw2, hw2⟩ := small hz2 (e.trans e3)
        walk_at "rd"
        have gf1 := o1.fill gw1 gw2
        have gf2 := o2.fill gw1 gw2
        have SH := S22.ext0 (e.trans e3)
        have hw1' := hw1.ext e3
        intro pa npa
        have A := newTab npa hw1' hw2
        refine ⟨upd_same, [(.inr "x", z), (.inr "y", z2)], rfl, by show 2 ≤ 15; decide, v1, t1, pa, tabXY w1 w2, rfl, SH.h1.ext A.1, by omega, A.2, fun r1 H5 e5 hr1 => fun pb npb => ?_⟩
        have eA := A.1.trans e5
        have B' := newTab npb (hw1'.ext eA) (hw2.ext eA)
        refine ⟨upd_same, [(.inr "x", z), (.inr "y", z2)], rfl, by show 2 ≤ 15; decide, v2, t2, pb, tabXY w1 w2, rfl, (SH.ext0 (eA.trans B'.1)).h2, by omega, B'.2, fun r2 H6 e6 hr2 => ?_⟩
        refine ⟨_, _, hr1.ext (B'.1.trans e6), hr2, Tr.shaped nsp_ok gf1.ns (by have := gf1.dep; omega), Tr.shaped nsp_ok gf2.ns (by have := gf2.dep; omega), _, rfl, ?_⟩
        rw [if_neg Bool.false_ne_true, Tr.eqv_data]
        have eAll := eA.trans (B'.1.trans e6)
        by_cases hf : t1.fill (lk (tabXY w1 w2)) = t2.fill (lk (tabXY w1 w2))
        · rw [decide_eq_true hf, if_pos rfl]
          intro pc npc
          have C := newTab npc (hw1'.ext eAll) (hw2.ext eAll)
          have hHD := C.1.lst0 (eAll.lst0 hH)
          refine ⟨upd_same, [(.inr "x", z), (.inr "y", z2)], rfl, by show 2 ≤ 15; decide, ys, hHD, by omega, ys ++ [.ref pc], by rw [List.length_append, List.length_singleton]; omega, upd_same, fun y hy => ?_, ((e3.trans eAll).trans C.1).over hD (Ext.setL List.mem_cons_self hHD)⟩
          rcases List.mem_append.mp hy with q | q
          · exact ((hys y q).ext0 (eAll.trans C.1)).set hHD
          · have : y = .ref pc := by simpa using q
            subst this
            exact WayAt.set hHD ⟨pc, w1, w2, rfl, C.2, gw1, gw2, hf⟩
        · rw [decide_eq_false hf, if_neg (by decide)]
          exact ⟨ys, by omega, eAll.lst0 hH, fun y hy => (hys y hy).ext0 eAll, e3.trans eAll⟩
      · refine ⟨D, rfl, ws, e3.lst0 hpw, ys, hH, by omega, fun pq H5 n5 e5 h5 => ⟨⟨_, _, pq, ⟨rfl, rfl, rfl⟩, _, h5, by rw [List.length_append]; omega, fun y hy => ?_⟩, (e.trans e3).trans e5⟩⟩
        rcases List.mem_append.mp hy with q | q
        · exact (hway y q).ext0 (e3.trans e5)
        · exact (hys y q).ext0 e5
    · subst hσ
      have S23 := S22.ext0 e
      replace best := best.ext0 e
      rw [hideS_eq]
      walk_at "rd"
      generalize hT : hideS _ _ _ = T
      suffices tail : ∀ H2, Ext [] H' H2 → T H2 by
        rcases best with ⟨rfl, n, hn⟩ | ⟨ab, lb, rfl, Tb, U, n, hn⟩
        · rw [if_pos rfl]
          have hws : ws = [] := by
            cases ws with
            | nil => rfl
            | cons y ws =>
              obtain ⟨aw, w1, w2, _, _, _, _, hf⟩ := hway y List.mem_cons_self
              refine absurd hn (no_none (th := lk (tabXY w1 w2)) n [] [(t1, t2)] (ui_start o1 o2) (fun t u hm => ?_) (fun n t hm => by cases hm))
              have e : t = t1 ∧ u = t2 := by simpa using hm
              rw [e.1, e.2]; exact hf
          subst hws
          refine ⟨by decide, fun pe H24 ne e24 he => ⟨[], e24.lst0 hpw, [], he, [], .nil, [], .nil, by decide +kernel, by decide +kernel, ?_⟩⟩
          rw [Tr.eqvAll_nil, if_neg (by decide), if_neg (by decide)]
          exact tail _ e24
        · rw [if_neg (by simp), if_pos (by simp)]
          have hone := (run_one (th := lk []) n [] [(t1, t2)] lb (ui_start o1 o2) hn).2.1 t1 t2 (by simp)
          obtain ⟨b1, b2⟩ := best_fill U o1 (Nat.le_refl _)
          refine ⟨v1, t1, ab, lb, rfl, S23.h1, by omega, Tb, fun r1 H24 e24 hr1 => ⟨v2, t2, ab, lb, rfl, (S23.ext0 e24).h2, by omega, Tb.ext0 e24, fun r2 H25 e25 hr2 => eq_same (s := t1.fill (lk lb)) (hr1.ext e25) (by rw [hone]; exact hr2) b1 (by omega) ⟨_, rfl, ?_⟩⟩⟩
          rw [if_neg (by decide)]
          exact tail _ (e24.trans e25)
      intro H24 e24
      subst hT
      have S24 := S23.ext0 e24
      replace best := best.ext0 e24
      replace hpw := e24.lst0 hpw
      have hway' : ∀ y ∈ ws, WayAt K t1 t2 y H24 := fun y hy => (hway y hy).ext0 e24
      clear S23 S22 e24 e hway small hsv htv hw
      rw [hideS_eq]
      walk_at "rd"
      generalize hT : hideS _ _ = T
      suffices tail : ∀ (y13 : Option V) (H2 : Hp), Ext [] H24 H2 → T [some (V.ref a), some (V.ref o), some (V.ref d), some v1, some v2, some v3, some (V.ref p1), x7, y8, some x9, some (V.ref pw'), x11, x12, y13, x14, x15, x16, x17] H2 by
        rcases best with ⟨rfl, n, hn⟩ | ⟨ab, lb, rfl, Tb, U, n, hn⟩
        · rw [if_neg (by decide)]
          exact tail _ _ (Ext.refl _ _)
        · rw [if_pos (by simp)]
          refine ⟨ws, hpw, ?_⟩
          refine for_go walk_list (fun j σ' H' => (∃ y13, σ' = [some (V.ref a), some (V.ref o), some (V.ref d), some v1, some v2, some v3, some (V.ref p1), x7, y8, some (V.ref ab), some (V.ref pw'), x11, x12, y13, x14, x15, x16, x17]) ∧ Ext [] H24 H') ⟨⟨_, rfl⟩, Ext.refl _ _⟩ (fun j σ' H' _ ⟨_, e⟩ => SqL.of (e.lst0 hpw)) (fun j z σ' H' H'' hj ⟨⟨y13, hσ⟩, e⟩ y => ?_) fun σ' H' ⟨⟨y13, hσ⟩, e⟩ => ?_
          · obtain ⟨rfl, hz⟩ := y
            subst hσ
            obtain ⟨aw, w1, w2, rfl, Tw, gw1, gw2, hfw⟩ := (hway' z (List.mem_of_getElem? hz)).ext0 e
            have Sj := S24.ext0 e
            have Tbj := Tb.ext0 e
            have hcase := (run_one (th := lk (tabXY w1 w2)) n [] [(t1, t2)] lb (ui_start o1 o2) hn).2.2 (fun t u hm => by
              have e : t = t1 ∧ u = t2 := by simpa using hm
              rw [e.1, e.2]; exact hfw) (fun n t hm => by cases hm)
            walk_at "rd"
            refine lc_go walk_str (fun D j ys H3 => ys = [] ∧ Ext [] H'' H3) (fun D hD => ⟨rfl, Ext.new hD⟩) (fun _ _ _ _ _ => trivial) (fun D i z ys H3 H4 hD hi ⟨hys, e3⟩ hyl hH y => ?_) fun D ys H3 hD ⟨hys, e3⟩ hH _ => ?_
            · obtain ⟨rfl, c0, hc, rfl⟩ := y
              have hi : i < 2 := hi
              obtain ⟨m, hm1, hmxy⟩ : ∃ m : Str, (⟨#[c0]⟩ : Str) = m ∧ (m = "x" ∨ m = "y") := by
                match i, hi with
                | 0, _ => have : some 120 = some c0 := hc
                          cases this; exact ⟨"x", rfl, .inl rfl⟩
                | 1, _ => have : some 121 = some c0 := hc
                          cases this; exact ⟨"y", rfl, .inr rfl⟩
              rw [hm1]
              clear hc hm1
              walk_at "rd"
              have noN : ∀ q : Addr, q ∉ ([] : List Addr) := fun q z => nomatch z
              obtain ⟨kb, hkb, tkb⟩ := Tbj.ext0 e3
              obtain ⟨kw, hkw, tkw⟩ := Tw.ext0 e3
              refine ⟨kb, hkb, by decide, fun pd H5 e5 hpd => ⟨kb, dctF_ext e5 (noN _) hkb, ?_⟩⟩
              have hval : ∃ tr : Tr, Td K H5 ((valV kb (.inr m)).getD (.ref pd)) tr.data ∧ tr.fill (lk (tabXY w1 w2)) = (Tr.v m).fill (lk (tabXY w1 w2)) ∧ tr.dep ≤ 20 := by
                rcases tkb.val m with ⟨hl, hv0⟩ | ⟨w0, v0, hl, hv0, hw0⟩
                · rw [hv0]; exact ⟨.v m, .tup hpd (.cons (.str _) (.cons (.str _) .nil)), rfl, by simp [Tr.dep]⟩
                · rw [hv0]
                  refine ⟨w0, hw0.ext e5, (hcase m w0 (lk_mem hl)).symm, ?_⟩
                  have h1 := (U.vals m w0 (lk_mem hl)).2
                  have hE : EB lb.length ≤ 13 := by
                    have : 2 ^ lb.length ≤ 2 ^ 2 := Nat.pow_le_pow_right (by omega) (show lb.length ≤ 2 from U.len)
                    unfold EB; omega
                  omega
              obtain ⟨tr, htr, hfr, dtr⟩ := hval
              have hwy : ∃ (tw : Tr) (vw : V), lk (tabXY w1 w2) m = some tw ∧ valV kw (.inr m) = some vw ∧ Td K H4 vw tw.data ∧ Gnd tw 3 := by
                rcases tkw.val m with ⟨hl, _⟩ | ⟨t, v, q1, q2, q3⟩
                · rcases hmxy with q | q <;> subst q <;> cases hl
                · refine ⟨t, v, q1, q2, q3, ?_⟩
                  rcases hmxy with q | q <;> subst q <;> cases q1 <;> assumption
              obtain ⟨tw, vw, hlw, hvw, htw, gtw⟩ := hwy
              have hfin : tr.fill (lk (tabXY w1 w2)) = tw := by rw [hfr]; show (lk (tabXY w1 w2) m).getD _ = tw; rw [hlw]; rfl
              refine ⟨_, tr, aw, tabXY w1 w2, rfl, htr, by omega, Tw.ext0 (e3.trans e5), fun r1 H6 e6 hr1 => ⟨kw, dctF_ext (e5.trans e6) (noN _) hkw, vw, hvw, eq_same (s := tw) (by rw [← hfin]; exact hr1) (htw.ext (e5.trans e6)) gtw.ns (by have := gtw.dep; omega) ⟨_, rfl, ?_⟩⟩⟩
              rw [if_neg (by decide)]
              exact ⟨ys, by omega, (e5.trans e6).lst0 hH, hys, e3.trans (e5.trans e6)⟩
            · walk_at "rd"
              subst hys
              refine ⟨by decide, fun pe H5 ne e5 he => ⟨[], e5.lst0 hH, [], he, [], .nil, [], .nil, by decide +kernel, by decide +kernel, ?_⟩⟩
              rw [Tr.eqvAll_nil, if_neg (by decide)]
              exact ⟨⟨_, rfl⟩, (e.trans e3).trans e5⟩
          · subst hσ
            exact tail _ _ e
      intro y13 H25 e25
      subst hT
      have S25 := S24.ext0 e25
      clear S24 e25 best hpw hway'
      rw [hideS_eq]
      walk_at "rd"
      refine ⟨by decide, fun c1 H26 e26 hc1 => ⟨by decide, fun c2 H27 e27 hc2 => ⟨by decide, fun c3 H28 e28 hc3 => ?_⟩⟩⟩
      have ox : TOk (.v "x") 4 := ⟨by simp [Tr.dep], fun x hx => .inl (by simpa [Tr.names] using hx)⟩
      have oix : TOk (.i (.v "x")) 4 := ⟨by simp [Tr.dep], fun x hx => .inl (by simpa [Tr.names] using hx)⟩
      refine made_best (s := .v "x") (t := .i (.v "x")) (.tup (tupF_ext (e27.trans e28) hc1) (.cons (.str _) (.cons (.str _) .nil))) (.tup hc3 (.cons (.str _) (.cons (.tup (tupF_ext e28 hc2) (.cons (.str _) (.cons (.str _) .nil))) .nil))) ox oix fun x H29 e29 hb9 => ?_
      have hx9 : x = .non := by
        rcases hb9 with ⟨h, _⟩ | ⟨_, l, _, _, _, n, hn⟩
        · exact h
        · exfalso
          cases n with
          | zero => cases hn
          | succ n =>
            have : runU (n + 1) [] [(.v "x", .i (.v "x"))] = some none := rfl
            rw [this] at hn
            cases hn
      subst hx9
      rw [if_neg (by decide)]
      have S29 := S25.ext0 (((e26.trans e27).trans e28).trans e29)
      clear S25 e26 e27 e28 e29 hc1 hc2 hc3 hb9
      refine ⟨by decide, fun c4 H30 e30 hc4 => ⟨by decide, fun c5 H31 e31 hc5 => ?_⟩⟩
      have S31 := S29.ext0 (e30.trans e31)
      refine ⟨_, _, .i t1, .m t1 t2, rfl, .tup (tupF_ext e31 hc4) (.cons (.str _) (.cons S31.h1 .nil)), .tup hc5 (.cons (.str _) (.cons S31.h1 (.cons S31.h2 .nil))), rfl, rfl, by show ("i" : Str) ≠ "m"; decide, by simp only [Tr.dep]; omega, by simp only [Tr.dep]; omega, o1.ns, (fun x hx => by rcases List.mem_append.mp hx with z | z; exact o1.ns x z; exact o2.ns x z), fun H32 e32 => ?_⟩
      dsimp only
      rw [if_neg (by decide)]
      have S32 := S31.ext0 e32
      clear S29 S31 e30 e31 e32 hc4 hc5
      rw [hideS_eq]
      walk_at "rd"
      refine ⟨v3, t3, p1, _, rfl, S32.h3, by omega, S32.T, fun vl H33 e33 hvl => fun p4 np4 => ?_⟩
      have S33 := S32.ext0 e33
      have hd33 : DiceAt H33 d := S33.ri.d d hdm
      have nd3 : p4 ∉ [d] := fun z => by
        have z' : p4 = d := by simpa using z
        obtain ⟨x, y, z, q⟩ := hd33
        rw [z', q] at np4
        cases np4
      have eN : Ext [] H33 (upd H33 p4 (.dK [])) := Ext.new np4
      refine ⟨d, 2, "", rfl, by decide, .inr rfl, DiceAt.ext0 eN hd33, fun y3 g3 H34 e34 hd34 hg3 gd3 gn3 => ⟨d, 2, "", rfl, by decide, .inr rfl, hd34, fun y4 g4 H35 e35 hd35 hg4 gd4 gn4 => ⟨(e34.trans e35).dK upd_same nd3, [(.inr "x", y3), (.inr "y", y4)], rfl, by show 2 ≤ 15; decide, ?_⟩⟩⟩
      have h35 := (e34.trans e35).dK upd_same nd3
      have gz : ∀ g : Tr, (∀ x ∈ g.names, (("" : Str) = "xy") ∧ (x = "x" ∨ x = "y")) → g.names = [] := fun g h => by
        cases e : g.names with
        | nil => rfl
        | cons w ws => exact absurd (h w (by rw [e]; exact List.mem_cons_self)).1 (by decide)
      have k3 : Gnd g3 3 := ⟨gd3, gz g3 gn3⟩
      have k4 : Gnd g4 3 := ⟨gd4, gz g4 gn4⟩
      generalize hH36 : upd H35 p4 (HO.dK (mergeK [] [(Sum.inr (Str.ofString "x"), y3), (Sum.inr (Str.ofString "y"), y4)])) = H36
      have e56 : Ext [p4] H35 H36 := by rw [← hH36]; exact Ext.setD List.mem_cons_self h35
      have e36 : Ext [d] H33 H36 := (eN.any.trans (e34.trans e35)).overS np4 e56
      have nd4 : d ∉ [p4] := fun z => nd3 (by simpa using (show d = p4 by simpa using z).symm)
      have hd36 : DiceAt H36 d := by obtain ⟨x, y, z, q⟩ := hd35; exact ⟨x, y, z, e56.lst q nd4⟩
      have S36 := S33.step hpd hod hdm e36 hd36
      have T36 : TabA K H36 p4 (tabXY g3 g4) := ⟨_, dctF_dK (by rw [← hH36]; exact upd_same), .cons ((hg3.ext e35).ext e56) (.cons (hg4.ext e56) .nil)⟩
      replace hvl := hvl.ext e36
      clear hH36 e56 e36 nd4 hd36 eN h35 gz e34 e35 hd34 hd35 hg3 hg4 gd3 gd4 gn3 gn4 nd3 np4 hd33 S32 S33 e33
      have f4 := o3.fill k3 k4
      refine ⟨v3, t3, p4, _, rfl, S36.h3, by omega, T36, fun vh H37 e37 hvh => ⟨vl, vh, ⟨rfl, rfl⟩, ?_⟩⟩
      have S37 := S36.ext0 e37
      replace hvl := hvl.ext e37
      clear S36 T36 e37
      rw [hideS_eq]
      walk_at "rd"
      generalize hlo : t3.fill (lk (tabXY g1 g2)) = lo at *
      generalize hhi : t3.fill (lk (tabXY g3 g4)) = hi at *
      have dlo := f3.dep
      have dhi := f4.dep
      have zlo : lo.sz ≤ 31 := sz_5 (by omega)
      refine ⟨vl, vh, lo, hi, rfl, hvl, hvh, f3.nm, f4.nm, by omega, by omega, by omega, fun vc H38 e38 hvc => ?_⟩
      obtain ⟨F', hF1, hF2, hF3⟩ := sh_all f3.nm f4.nm zlo
      obtain ⟨nC, dC, zC⟩ := shF_names hF2 lo hi f3.nm f4.nm hF3
      rw [hF1] at hvc
      have nC' : ∀ x ∈ (shF F' lo hi).names, x ∈ NSP := fun x hx => by
        obtain ⟨k, hk, rfl⟩ := nC x hx
        exact pn_nsp (by omega)
      have S38 := S37.ext0 e38
      replace hvl := hvl.ext e38
      replace hvh := hvh.ext e38
      clear S37 e38
      refine ⟨vc, vl, shF F' lo hi, lo, rfl, hvc, hvl, ⟨nC', by omega⟩, ⟨f3.ns, by omega⟩, by omega, fun H' no _ => absurd (back_fst (by omega) lo hi f3.nm f4.nm hF3) (no _), fun aa l H39 _ _ _ _ e39 _ => ?_⟩
      dsimp only
      rw [if_neg (by simp)]
      refine ⟨vc, vh, shF F' lo hi, hi, rfl, hvc.ext e39, hvh.ext e39, ⟨nC', by omega⟩, ⟨f4.ns, by omega⟩, by omega, fun H' no _ => absurd (back_snd (by omega) lo hi f3.nm f4.nm hF3) (no _), fun aa l H40 _ _ _ _ e40 _ => ?_⟩
      dsimp only
      rw [if_neg (by simp)]
      have e3940 := e39.trans e40
      refine ⟨v3, vc, t3, shF F' lo hi, rfl, (S38.ext0 e3940).h3, hvc.ext e3940, ⟨o3.ns, by omega⟩, ⟨nC', by omega⟩, by omega, fun H' no _ => absurd ?_ (no fun z => some (shF F' ((lk (tabXY g1 g2) z).getD (.v z)) ((lk (tabXY g3 g4) z).getD (.v z)))), fun aa l H41 _ _ _ _ e41 _ => ?_⟩
      · rw [← hlo, ← hhi]
        exact (shF_fill F' (lk (tabXY g1 g2)) (lk (tabXY g3 g4)) t3).symm
      dsimp only
      rw [if_neg (by simp)]
      have S41 := S38.ext0 (e3940.trans e41)
      replace hvl := hvl.ext (e3940.trans e41)
      clear S38 e39 e40 e41 e3940 hvc hvh
      rw [hideS_eq]
      walk_at "rd"
      refine ⟨vl, vl, lo, lo, rfl, hvl, hvl, f3.nm, f3.nm, by omega, by omega, by omega, fun vs2 H42 e42 hvs2 => ?_⟩
      obtain ⟨F2, hG1, _, _⟩ := sh_all f3.nm f3.nm zlo
      rw [hG1, shF_self] at hvs2
      refine eq_same (s := lo) hvs2 (hvl.ext e42) f3.ns (by omega) ⟨_, rfl, ?_⟩
      rw [if_neg (by decide)]
      have S42 := S41.ext0 e42
      clear S41 e42 hvs2 hvl
      rw [hideS_eq]
      walk_at "rd"
      refine ⟨by decide, fun b1 H43 e43 hb1 => ⟨by decide, fun b2 H44 e44 hb2 => ⟨by decide, fun b3 H45 e45 hb3 => ⟨by decide, fun b4 H46 e46 hb4 => ⟨by decide, fun b5 H47 e47 hb5 => ⟨by decide, fun b6 H48 n48 e48 hb6 => ⟨by decide, fun pb H49 n49 e49 hpb => ?_⟩⟩⟩⟩⟩⟩⟩
      have y48 := e48.trans e49
      have y47 := e47.trans y48
      have y46 := e46.trans y47
      have y45 := e45.trans y46
      have y44 := e44.trans y45
      have S49 := S42.ext0 (e43.trans y44)
      have bads : ∀ x ∈ [V.non, .ref b1, .ref b2, .ref b3, .ref b4, .ref b5, .ref b6], BadAt K x H49 := by
        intro x hx
        simp only [List.mem_cons, List.not_mem_nil, or_false] at hx
        rcases hx with e | e | e | e | e | e | e <;> subst e
        · exact .inl ⟨.none, .non, by decide +kernel, by decide +kernel, by simp [isT]⟩
        · exact .inl ⟨.tuple [], .tup (tupF_ext y44 hb1) .nil, by decide +kernel, by decide +kernel, by simp [isT]⟩
        · exact .inl ⟨.tuple [.str "v"], .tup (tupF_ext y45 hb2) (.cons (.str _) .nil), by decide +kernel, by decide +kernel, by simp [isT]⟩
        · exact .inl ⟨.tuple [.str "v", .int 1], .tup (tupF_ext y46 hb3) (.cons (.str _) (.cons (.int _) .nil)), by decide +kernel, by decide +kernel, by simp [isT]⟩
        · exact .inl ⟨.tuple [.int 1], .tup (tupF_ext y47 hb4) (.cons (.int _) .nil), by decide +kernel, by decide +kernel, by simp [isT]⟩
        · exact .inl ⟨.tuple [.str "i", .str "a"], .tup (tupF_ext y48 hb5) (.cons (.str _) (.cons (.str _) .nil)), by decide +kernel, by decide +kernel, by simp only [isT, isTAll]; rw [if_neg (by decide)]; rfl⟩
        · exact .inr ⟨b6, _, rfl, e49.lst0 hb6⟩
      clear e43 e44 e45 e46 e47 e48 e49 y44 y45 y46 y47 y48 hb1 hb2 hb3 hb4 hb5 hb6 S42
      refine ⟨_, hpb, ?_⟩
      refine for_go walk_list (fun j σ' H' => (∃ y17, σ' = [some (V.ref a), some (V.ref o), some (V.ref d), some v1, some v2, some v3, some (V.ref p1), x7, y8, some x9, some (V.ref pw'), x11, x12, y13, some vl, some vh, some vc, y17]) ∧ Ext [] H49 H') ⟨⟨_, rfl⟩, Ext.refl _ _⟩ (fun j σ' H' _ ⟨_, e⟩ => SqL.of (e.lst0 hpb)) (fun j z σ' H' H'' hj ⟨⟨y17, hσ⟩, e⟩ y => ?_) fun σ' H' ⟨⟨y17, hσ⟩, e⟩ => ?_
      · obtain ⟨rfl, hz⟩ := y
        subst hσ
        have hb := (bads z (List.mem_of_getElem? hz)).ext0 e
        walk_at "rd"
        have Sz := S49.ext0 e
        refine ⟨z, rfl, Sz.ri.tb, by decide, ?_⟩
        rcases hb with ⟨dd, h1, h2, h3, h4⟩ | ⟨aa, ys, rfl, haa⟩
        · refine .inl ⟨dd, h1, h2, h3, fun H2 e2 => ⟨_, rfl, ?_⟩⟩
          rw [h4, if_neg (by decide)]
          exact ⟨⟨_, rfl⟩, e.trans e2⟩
        · refine .inr ⟨aa, ys, rfl, haa, fun H2 e2 => ⟨_, rfl, ?_⟩⟩
          rw [if_neg (by decide)]
          exact ⟨⟨_, rfl⟩, e.trans e2⟩
      · subst hσ
        exact ⟨⟨_, _, _, _, _, _, _, _, _, _, _, _, _, _, _, _, rfl⟩, (S49.ext0 e).ri⟩
end
end Sq
set_option Elab.async false
set_option linter.all false
set_option maxRecDepth 100000
set_option maxHeartbeats 4000000
namespace Sq
open PySem PySem.Spec PyProof.Rows L2
theorem law_at {l : PySem.W.OpenLaw} {w : World} {K : PySem.W.Frag} {mg : Str → Option Value} {h : Heap} {fa t_is_tree : Addr} {f_is_tree f_holes f_filled f_fits f_made_one f_shared f_share f__law_dice f__law_roll f__law_rounds f__law_tree f__law_fill f_law c_is_tree c_holes c_filled c_fits c_made_one c_shared c_share c__law_dice c__law_roll c__law_rounds c__law_tree c__law_fill c_law : Addr} {d_is_tree d_holes d_filled d_fits d_made_one d_shared d_share d__law_dice d__law_roll d__law_rounds d__law_tree d__law_fill : FuncData} {an : Option Addr} {kV dc pm ct : Value}
    (X : K.In h) (G : h.Ns mainGlobals mg) (hfa : mg "law" = some (.ref fa)) (B : Bl mg)
    (D_is_tree : Dn K mg "is_tree" s_is_tree f_is_tree d_is_tree c_is_tree)
    (D_holes : Dn K mg "holes" s_holes f_holes d_holes c_holes)
    (D_filled : Dn K mg "filled" s_filled f_filled d_filled c_filled)
    (D_fits : Dn K mg "fits" s_fits f_fits d_fits c_fits)
    (D_made_one : Dn K mg "made_one" s_made_one f_made_one d_made_one c_made_one)
    (D_shared : Dn K mg "shared" s_shared f_shared d_shared c_shared)
    (D_share : Dn K mg "share" s_share f_share d_share c_share)
    (D__law_dice : Dn K mg "_law_dice" s__law_dice f__law_dice d__law_dice c__law_dice)
    (D__law_roll : Dn K mg "_law_roll" s__law_roll f__law_roll d__law_roll c__law_roll)
    (D__law_rounds : Dn K mg "_law_rounds" s__law_rounds f__law_rounds d__law_rounds c__law_rounds)
    (D__law_tree : Dn K mg "_law_tree" s__law_tree f__law_tree d__law_tree c__law_tree)
    (D__law_fill : Dn K mg "_law_fill" s__law_fill f__law_fill d__law_fill c__law_fill)
    (D_law : Dn K mg "law" s_law f_law (PySem.W.fnOf "law" "law" (defArgs s_law) (defBody s_law) (defScope s_law) .none kV dc pm an (.ref c_law) ct) c_law)
    (T_is_tree : PySem.W.CodeHd h c_is_tree t_is_tree ∧ h.get? t_is_tree = some { cls := .none, data := .fields #[] })
    (nin : ∀ a ∈ [f_is_tree, f_holes, f_filled, f_fits, f_made_one, f_shared, f_share, f__law_dice, f__law_roll, f__law_rounds, f__law_tree, f__law_fill, f_law, c_is_tree, c_holes, c_filled, c_fits, c_made_one, c_shared, c_share, c__law_dice, c__law_roll, c__law_rounds, c__law_tree, c__law_fill, c_law], a ∉ ([t_is_tree] : List Addr)) : ∃ cs : List (Addr × Addr), (∀ p ∈ cs, h.get? p.2 = some { cls := .none, data := .fields #[] }) ∧ (∀ p ∈ cs, (dropT [t_is_tree] K).lookup p.2 = none) ∧ (∀ p ∈ cs, PySem.W.CodeHd h p.1 p.2) ∧ LawRun l w (dropT [t_is_tree] K) mg fa cs := by
  have e := hfa.symm.trans D_law.mgf
  cases e
  replace D_is_tree := D_is_tree.drop (nin f_is_tree (by simp)) (nin c_is_tree (by simp))
  replace D_holes := D_holes.drop (nin f_holes (by simp)) (nin c_holes (by simp))
  replace D_filled := D_filled.drop (nin f_filled (by simp)) (nin c_filled (by simp))
  replace D_fits := D_fits.drop (nin f_fits (by simp)) (nin c_fits (by simp))
  replace D_made_one := D_made_one.drop (nin f_made_one (by simp)) (nin c_made_one (by simp))
  replace D_shared := D_shared.drop (nin f_shared (by simp)) (nin c_shared (by simp))
  replace D_share := D_share.drop (nin f_share (by simp)) (nin c_share (by simp))
  replace D__law_dice := D__law_dice.drop (nin f__law_dice (by simp)) (nin c__law_dice (by simp))
  replace D__law_roll := D__law_roll.drop (nin f__law_roll (by simp)) (nin c__law_roll (by simp))
  replace D__law_rounds := D__law_rounds.drop (nin f__law_rounds (by simp)) (nin c__law_rounds (by simp))
  replace D__law_tree := D__law_tree.drop (nin f__law_tree (by simp)) (nin c__law_tree (by simp))
  replace D__law_fill := D__law_fill.drop (nin f__law_fill (by simp)) (nin c__law_fill (by simp))
  replace D_law := D_law.drop (nin fa (by simp)) (nin c_law (by simp))
  refine ⟨[(c_is_tree, t_is_tree)], fun p hp => ?_, fun p hp => ?_, fun p hp => ?_, fun base s H a ns KX hG hT en hH hS hl => ?_⟩
  · skip
    have e := List.mem_singleton.mp hp
    subst e; exact T_is_tree.2
  · skip
    have e := List.mem_singleton.mp hp
    subst e; exact dropT_in (by simp)
  · skip
    have e := List.mem_singleton.mp hp
    subst e; exact T_is_tree.1
  have B_is_tree := tabB_of (hT (c_is_tree, t_is_tree) (by simp))
  have H_is_tree : GxR.TabG H t_is_tree := ⟨#[], hH (c_is_tree, t_is_tree) (by simp), trivial⟩
  have g_dice := ok_dice (P := l.prog) (w := w) (base := base) D__law_dice B
  have g_roll := ok_roll (P := l.prog) (w := w) (base := base) D__law_roll B
  have g_rounds := ok_rounds (P := l.prog) (w := w) (base := base) (most := 3) (by decide) D__law_rounds B g_dice
  have g_tree := ok_tree (P := l.prog) (w := w) (base := base) D__law_tree B g_roll
  have g_holesS := ok_holesS (P := l.prog) (w := w) (base := base) (NS := NSP) D_holes B nsp_ok
  have g_holes := ok_holes (P := l.prog) (w := w) (base := base) (NS := NSP) D_holes B nsp_ok
  have g_filled := ok_filled (P := l.prog) (w := w) (base := base) D_filled B
  have g_lfill := ok_lfill (P := l.prog) (w := w) (base := base) D__law_fill B
  have g_isT := ok_isT (P := l.prog) (w := w) (base := base) D_is_tree B B_is_tree
  have g_fits := ok_fits (P := l.prog) (w := w) (base := base) D_fits B nsp_ok
  have g_made := ok_made (P := l.prog) (w := w) (base := base) (NS := NSP) (NV := NV2) D_made_one B nsp_ok (by decide) nv2_sub (g_holes 64) (g_filled 64)
  have g_madeU := ok_madeU (P := l.prog) (w := w) (base := base) (NS := NSP) D_made_one B nsp_ok (g_holes 64) (g_filled 64)
  have g_share := ok_share (P := l.prog) (w := w) (base := base) D_share B
  have g_shared := ok_shared (P := l.prog) (w := w) (base := base) D_shared (g_share 20)
  exact law_runs (tb := t_is_tree) D_law (fun s v => .of_eq rfl) B g_rounds (g_tree 10) (g_isT 60) (g_filled 64) (g_lfill 64) (g_holesS 64) g_fits g_made g_madeU g_shared en hS H_is_tree
end Sq
set_option Elab.async false
set_option linter.all false
open PySem PySem.W PyProof.Rows
set_option maxRecDepth 100000 in
set_option maxHeartbeats 0 in
theorem PySem.Challenge.cw_sequenthall_k28_trees_made_one_holds : PySem.Challenge.rw_sequenthall_k28_trees_made_one.Holds := by
  w_on; o_law; k_head; (case hw => w_witness2)
  k_fill
  refine' Sq.walk_G (l := PySem.Challenge.rw_sequenthall_k28_trees_made_one) rfl rfl ?F
  case F =>
    intro w mg fa h KX G hmg KO
    refine' Sq.dn_goT "is_tree" Sq.s_is_tree KX G ?a ?l ?c ?k ?lc ?t ?u KO ?rc ?_
    (case a => k_is); (case l => k_is); (case c => k_is); (case k => k_is); (case lc => k_is); (case t => rfl); (case u => decide +kernel); (case rc => decide +kernel)
    intro D_is_tree T_is_tree
    refine' Sq.dn_go "holes" Sq.s_holes KX G ?a ?l ?c ?k ?_
    (case a => k_is); (case l => k_is); (case c => k_is); (case k => k_is)
    intro D_holes
    refine' Sq.dn_go "filled" Sq.s_filled KX G ?a ?l ?c ?k ?_
    (case a => k_is); (case l => k_is); (case c => k_is); (case k => k_is)
    intro D_filled
    refine' Sq.dn_go "fits" Sq.s_fits KX G ?a ?l ?c ?k ?_
    (case a => k_is); (case l => k_is); (case c => k_is); (case k => k_is)
    intro D_fits
    refine' Sq.dn_go "made_one" Sq.s_made_one KX G ?a ?l ?c ?k ?_
    (case a => k_is); (case l => k_is); (case c => k_is); (case k => k_is)
    intro D_made_one
    refine' Sq.dn_go "shared" Sq.s_shared KX G ?a ?l ?c ?k ?_
    (case a => k_is); (case l => k_is); (case c => k_is); (case k => k_is)
    intro D_shared
    refine' Sq.dn_go "share" Sq.s_share KX G ?a ?l ?c ?k ?_
    (case a => k_is); (case l => k_is); (case c => k_is); (case k => k_is)
    intro D_share
    refine' Sq.dn_go "_law_dice" Sq.s__law_dice KX G ?a ?l ?c ?k ?_
    (case a => k_is); (case l => k_is); (case c => k_is); (case k => k_is)
    intro D__law_dice
    refine' Sq.dn_go "_law_roll" Sq.s__law_roll KX G ?a ?l ?c ?k ?_
    (case a => k_is); (case l => k_is); (case c => k_is); (case k => k_is)
    intro D__law_roll
    refine' Sq.dn_go "_law_rounds" Sq.s__law_rounds KX G ?a ?l ?c ?k ?_
    (case a => k_is); (case l => k_is); (case c => k_is); (case k => k_is)
    intro D__law_rounds
    refine' Sq.dn_go "_law_tree" Sq.s__law_tree KX G ?a ?l ?c ?k ?_
    (case a => k_is); (case l => k_is); (case c => k_is); (case k => k_is)
    intro D__law_tree
    refine' Sq.dn_go "_law_fill" Sq.s__law_fill KX G ?a ?l ?c ?k ?_
    (case a => k_is); (case l => k_is); (case c => k_is); (case k => k_is)
    intro D__law_fill
    refine' Sq.dn_go "law" Sq.s_law KX G ?a ?l ?c ?k ?_
    (case a => k_is); (case l => k_is); (case c => k_is); (case k => k_is)
    intro D_law
    have B : Sq.Bl mg := by
      refine' ⟨PySem.W.mg_none_of KX G ?b_len, PySem.W.mg_none_of KX G ?b_abs, PySem.W.mg_none_of KX G ?b_int, PySem.W.mg_none_of KX G ?b_str, PySem.W.mg_none_of KX G ?b_tuple, PySem.W.mg_none_of KX G ?b_list, PySem.W.mg_none_of KX G ?b_dict, PySem.W.mg_none_of KX G ?b_sorted, PySem.W.mg_none_of KX G ?b_sum, PySem.W.mg_none_of KX G ?b_any, PySem.W.mg_none_of KX G ?b_all, PySem.W.mg_none_of KX G ?b_max, PySem.W.mg_none_of KX G ?b_min, PySem.W.mg_none_of KX G ?b_range, PySem.W.mg_none_of KX G ?b_zip, PySem.W.mg_none_of KX G ?b_enumerate, PySem.W.mg_none_of KX G ?b_reversed, PySem.W.mg_none_of KX G ?b_isinstance⟩
      (case b_len => k_is)
      (case b_abs => k_is)
      (case b_int => k_is)
      (case b_str => k_is)
      (case b_tuple => k_is)
      (case b_list => k_is)
      (case b_dict => k_is)
      (case b_sorted => k_is)
      (case b_sum => k_is)
      (case b_any => k_is)
      (case b_all => k_is)
      (case b_max => k_is)
      (case b_min => k_is)
      (case b_range => k_is)
      (case b_zip => k_is)
      (case b_enumerate => k_is)
      (case b_reversed => k_is)
      (case b_isinstance => k_is)
    exact Sq.law_at KX G hmg B D_is_tree D_holes D_filled D_fits D_made_one D_shared D_share D__law_dice D__law_roll D__law_rounds D__law_tree D__law_fill D_law T_is_tree (by decide)
