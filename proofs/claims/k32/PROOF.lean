import PyProof.Rows.All
import Wide.All
import OpenK.AllK
import Wide.FinOn
import HandS.ForMost
import HandS.AnyAll
import HandS.GenOver
import HandS.Codes
import HandS.EndTab
import HandS.TupAny
import HandS.Zip
import HandS.DictComp
import HandS.Deep
import HandS.More
import HandS.Walk
import KE.KDictZip
import HandS.GenList
import PyProof.EnumMake
import PyProof.Draws
import PyProof.P3In
import HandS.Style
import KE.KNestM
import HandS.EndOwn
import PySem.Challenge.RW_sequenthall_k32_trees_in_order
set_option Elab.async false
set_option linter.all false
set_option maxRecDepth 100000
set_option maxHeartbeats 2000000
/-! Generator expressions with any element (calls, new objects), consumed by all, any, sum. -/
namespace Sq
open PySem PySem.Spec PyProof.Rows L2
open Sem (wp)

theorem ad_no {a b : Nat} (h : a < b) (e : a = b + 1) : False := by omega
theorem ad_lt {a b c d : Nat} (h1 : a < b) (h2 : c = b + 1) (h3 : d = c + 1) : a < d := by omega
theorem ad_ne {a b : Nat} (e : a = b + 1) : a ≠ b := by omega
theorem ad_le {b c d : Nat} (h2 : c = b + 1) (h3 : d = c + 1) : b ≤ d := by omega
theorem ad_lt' {b c d : Nat} (h2 : c = b + 1) (h3 : d = c + 1) : b < d := by omega
theorem ad_ge {a b : Nat} (e : a = b + 1) : b ≤ a := by omega
/-- the frame of a generator expression -/
abbrev gEnv (X : Cx) (scope : Scope) (C : Addr) (code : Value) : Env := genEnv scope (cloFrom X.env.cells scope.names []) C code builtinsNs X.env
/-- the context of a generator expression's turns, made at s -/
abbrev gCx (X : Cx) (s : Shared) (H : Hp) (cenv : Env) (fp : List Addr) : Cx :=
  { X with A := X.A.in1.in1.deeper cenv, s_0 := s, H_0 := H, env := cenv, outer := X.stack, stack := cenv :: X.stack, ex := fp, fn := fun _ => false, pn := [], xe := fun _ _ => False }

section
variable {X : Cx} {pins : List (Addr × Obj)} {σ : L2.St} {H : Hp} {s : Shared}
theorem gen_start {scope : Scope} {own : List (Str × Nat)} {fp : List Addr} {h' : Heap} {g' : Array GenState} {tk : Nat} {code : Value} {m : Str → Option Value} (I : Inv X pins σ H s) (ok : BlkOk X.N X.env.scope scope own) (hcell : ∀ y ∈ scope.names, y.2 ≠ .cell) (hN : X.N.Nodup)
    (hc : X.calm = true) (hfp : ∀ b ∈ fp, FpOk X pins H b ∧ b < s.heap.objs.size) (hns : h'.Ns s.heap.objs.size m) (kp : ∀ b o, s.heap.get? b = some o → h'.get? b = some o) (hg : AllBare g') :
    Inv (gCx X s H (gEnv X scope s.heap.objs.size code) fp) [] (wipe σ (own.map (·.2))) H { s with heap := h', gens := g', toks := tk } := by
  have hfree : ∀ y ∈ scope.names, y.2 = .free → ∃ c, X.env.cells.lookup y.1 = some c := fun y hy e => by
    rcases ok.free y hy e with k | k
    · exact I.ok.has _ (.inl k)
    · exact I.ok.has _ (.inr k)
  have cm : ∀ {y c}, (cloFrom X.env.cells scope.names []).lookup y = some c → X.env.cells.lookup y = some c ∧ c < s.heap.objs.size := fun {y c} e => by
    rcases cloFrom_mem (PySem.mem_of_lookup e) with hm | ⟨h1, h2⟩
    · cases hm
    · obtain ⟨c1, hc⟩ := hfree _ h1 rfl
      have hc : X.env.cells.lookup y = some c1 := hc
      have e2 : c = c1 := by
        rw [h2, hc] <;> rfl
      rw [e2]
      obtain ⟨w, z⟩ := I.cell _ _ hc
      exact ⟨hc, z.lt⟩
  have look : ∀ {y}, scope.names.lookup y = some .free → ∃ c, (cloFrom X.env.cells scope.names []).lookup y = some c := fun {y} hl => by
    have hy : (y, NameKind.free) ∈ scope.names := PySem.mem_of_lookup hl
    exact mem_lookup (cloFrom_has (cells := X.env.cells) (acc := []) hy)
  refine ⟨⟨I.ok.mod, ok.kind, I.ok.glob, rfl, Nat.le_refl _, fun y z c e1 e2 => I.ok.inj y z c (cm e1).1 (cm e2).1, fun y hy => ?_, fun y c z _ => ?_, fun _ => I.ok.hd hc, ?_, .inr ⟨rfl, rfl⟩, fun b hb => ⟨Nat.ne_of_lt (hfp b hb).2, fun y c e => (hfp b hb).1.2.2.2.2.1 y c (cm e).1⟩, I.bs, Nat.le_trans I.ok.bsz I.sz,
      fun b o e hb => ?_, fun b hb z => ?_, I.stack, I.stkFree⟩,
    rfl, hg, Un.kept kp, ⟨_, hns, fun i y v e1 e2 e3 => ?_⟩, fun y c e => ?_, I.hok.fresh (Nat.le_refl _), fun y c e => I.freeC y c (cm e).1, fun q hq => absurd (show q ∈ ([] : List (Addr × Obj)) ++ [] from hq) (by simp), I.hok.kept kp, by rw [wipe_length]; exact I.len⟩
  · have hy : scope.names.lookup y = some .cell ∨ scope.names.lookup y = some .free := hy
    rcases hy with hy | hy
    · exact absurd rfl (hcell _ (PySem.mem_of_lookup hy))
    · exact look hy
  · have z : false = true := z
    cases z
  · exact Around.frames_deeper (A := X.A.in1.in1) I.ok.frames
  · rcases (hfp b hb).1.2.2.2.1 with z | z
    · exact I.ok.noex b o e z
    · exact absurd (Nat.lt_of_lt_of_le (Heap.lt_size e) (Nat.le_trans I.ok.bsz z)) (Nat.lt_irrefl _)
  · rcases List.mem_cons.mp (I.stkSub b z) with z | z
    · exact (hfp b hb).1.2.1 z
    · exact (hfp b hb).1.2.2.1 z
  · obtain ⟨e2, hne⟩ := wipe_some e2
    have e3 : Vis scope y := e3
    have hfr : scope.names.lookup y = some .free := by
      rcases e3 with k | k | k
      · rcases ok.own _ (PySem.mem_of_lookup k) (.inl rfl) with e' | e'
        · obtain ⟨p, hp, hpy⟩ := List.mem_map.mp e'
          have e3 := ok.ix p hp
          have : p.1 = y := hpy
          rw [this] at e3
          exact absurd (List.mem_map.mpr ⟨p, hp, nodup_ix hN e3 e1⟩) hne
        · exact absurd (List.mem_of_getElem? e1) e'
      · exact absurd rfl (hcell _ (PySem.mem_of_lookup k))
      · exact k
    obtain ⟨m, hn, hl⟩ := I.loc
    have hvis : Vis X.env.scope y := (ok.free _ (PySem.mem_of_lookup hfr) rfl).elim (fun k => .inr (.inl k)) (fun k => .inr (.inr k))
    obtain ⟨w, r, q⟩ := hl i y v e1 e2 hvis
    obtain ⟨c, h1⟩ := look hfr
    refine ⟨w, r, .inr ⟨.inr hfr, c, h1, ?_⟩⟩
    have h2 := (cm h1).1
    rcases q with ⟨k, _⟩ | ⟨_, c', e', z⟩
    · have k : X.env.scope.names.lookup y = some .local := k
      rcases ok.free _ (PySem.mem_of_lookup hfr) rfl with k' | k' <;> rw [show X.env.scope.names.lookup y = _ from k'] at k <;> cases k
    · rw [h2] at e'; cases e'
      exact z.keeps kp
  · obtain ⟨w, z⟩ := I.cell y c (cm e).1
    exact ⟨w, z.keeps kp⟩
end

/-! ### a generator's turns -/
section
variable {τ : Type}
/-- what the turns are told: W by the turn, a measure, the consumer's word; N what a turn is to reach; Cons: what the consumer makes of a value; Fin: behind the last -/
def GW (J : It) (g : TG) (tt : TT) (te : TE) (vs : List Nat) (σ : L2.St) (W : Nat → Nat → τ → Hp → Prop) (Cons : τ → V → Hp → (τ → Hp → Prop) → Prop) (Fin : τ → Hp → Prop) : Prop :=
  ∀ i m t H, W i m t H → (J.stop i H ∧ Fin t H) ∨ (J.go i H ∧ ∃ N : τ → Hp → Prop, (∀ t' H', N t' H' → ∃ m', m' < m ∧ W (i + 1) m' t' H') ∧ ∀ x H', J.yld i H x H' → g x (wipe σ vs) H' fun σ2 H2 =>
    wipe σ2 vs = wipe σ vs ∧ tt σ2 H2 fun b H3 => if b = true then te σ2 H3 fun y H4 => Cons t y H4 N else N t H3)
/-- the objects at S stand, pinned -/
def PinS (S : List Addr) (h : Heap) (pl : List (Addr × Obj)) : Prop := ∀ b ∈ S, ∃ o, h.get? b = some o ∧ (b, o) ∈ pl
/-- woken again: what the generator leans on stands -/
def Wake (X : Cx) (S fp : List Addr) (σw : L2.St) (H : Hp) (s s' : Shared) : Prop := (∃ pl, Inv X pl σw H s' ∧ PinS S s'.heap pl) ∧ ∀ b ∈ fp, ∀ o, s.heap.get? b = some o → s'.heap.get? b = some o
def gY (X : Cx) (S fp : List Addr) (TQ : τ → Shared → Prop) (σw : L2.St) (Cons : τ → V → Hp → (τ → Hp → Prop) → Prop) : Protocol := fun n s₀ v s kap =>
  ∃ (t : τ) (N : τ → Hp → Prop) (x : V) (H : Hp), RelV x v ∧ TQ t s₀ ∧ Cons t x H N ∧ (∃ pl, Inv X pl σw H s ∧ PinS S s₀.heap pl) ∧ ∀ t' s'', Wake X S fp σw H s s'' → TQ t' s'' → N t' H → kap (.send .none) s''
def gR (X : Cx) (S : List Addr) (TQ : τ → Shared → Prop) (σw : L2.St) (Fin : τ → Hp → Prop) : GenEnd := fun n s₀ r s => r = .ok .next ∧ ∃ (t : τ) (H : Hp), TQ t s₀ ∧ Fin t H ∧ ∃ pl, Inv X pl σw H s ∧ PinS S s₀.heap pl

theorem over_gen {A : Around} {elt tg iter : Expr} {ifs : List Expr} {scope : Scope} {pos : Pos} {it acc : Value} {env : Env} : A.over (.compLoop (.GeneratorExp elt [⟨tg, iter, ifs, 0⟩] scope pos) 0 it acc env) [] = A.deeper env := by
  first
    | rfl
    | (obtain ⟨hd, d, fr, gs, u⟩ := A; simp [Around.over, Around.deeper, marksOver, frameCount, unitsOf, envsOf, guardsOf, pushEnvs, pushGuards, Code.envs, Code.env?, Code.isFrame, Code.guards, Code.isGuard, Code.weight, Code.frames, Code.isCreation, Code.isCaller, Code.cUnits])
theorem over_genS {A : Around} {elt tg iter : Expr} {ifs : List Expr} {scope : Scope} {pos : Pos} {it acc : Value} {env : Env} : A.over (.compStart (.GeneratorExp elt [⟨tg, iter, ifs, 0⟩] scope pos) 0 it acc env) [] = A.deeper env := by
  first
    | rfl
    | (obtain ⟨hd, d, fr, gs, u⟩ := A; simp [Around.over, Around.deeper, marksOver, frameCount, unitsOf, envsOf, guardsOf, pushEnvs, pushGuards, Code.envs, Code.env?, Code.isFrame, Code.guards, Code.isGuard, Code.weight, Code.frames, Code.isCreation, Code.isCaller, Code.cUnits])

theorem seg_gloop {X : Cx} {A : Around} {elt tg iter : Expr} {ifs : List Expr} {scope : Scope} {pos : Pos} {g : TG} {tt : TT} {te : TE} {vs : List Nat} {σ : L2.St} {J : It} {fp S : List Addr} {it : Addr} {tn : Nat → Heap → Prop} {TQ : τ → Shared → Prop}
    {W : Nat → Nat → τ → Hp → Prop} {Cons : τ → V → Hp → (τ → Hp → Prop) → Prop} {Fin : τ → Hp → Prop}
    (hA : A.deeper X.env = X.A) (hc : X.calm = true) (hco : X.env.scope.isCoroutine = false) (hpn : X.pn = []) (hxe : X.xe = fun _ _ => False) (hex : X.ex = fp) (T : Turn X.prog X.w X.K tg J fp it tn) (pg : PG X tg g) (pt : PTs X ifs tt) (pe : PE X elt te)
    (turn : GW J g tt te vs σ W Cons Fin) (hSf : ∀ b ∈ S, b ∉ fp) :
    ∀ (m n i : Nat) (t : τ) (pl : List (Addr × Obj)) (H : Hp) (s₀ s : Shared), m < n → W i m t H → Inv X pl (wipe σ vs) H s → tn i s.heap → (∀ b ∈ fp, H b = none) → PinS S s₀.heap pl → (∀ p ∈ pl, p.1 ∉ fp) → TQ t s₀ →
      Seg (model X.prog X.w) A (gR X S TQ (wipe σ vs) Fin) (gY X S fp TQ (wipe σ vs) Cons) n s₀
        (.compLoop (.GeneratorExp elt [⟨tg, iter, ifs, 0⟩] scope pos) 0 (.ref it) .none X.env)
        ((model X.prog X.w).den (.compLoop (.GeneratorExp elt [⟨tg, iter, ifs, 0⟩] scope pos) 0 (.ref it) .none X.env)) [] s := by
  intro m
  induction m using Nat.strongRecOn with
  | ind m ih =>
    intro n i t pl H s₀ s hmn w I st nfp hS hpl tq
    have stat : ∀ {σ' : L2.St} {H' : Hp} {s' : Shared}, Inv X pl σ' H' s' → (∀ b ∈ fp, H' b = none) → ∀ b ∈ fp, FpOk X pl H' b := fun {σ' H' s'} I' hn b hb =>
      ⟨hn b hb, (I'.ok.exf b (by rw [hex]; exact hb)).1, I'.ok.exfs b (by rw [hex]; exact hb), .inl (by rw [hex]; exact hb), fun x c e => (I'.ok.exf b (by rw [hex]; exact hb)).2 x c e, fun p hp => fun e => hpl p (by rw [hpn] at hp; simpa using hp) (by rw [e]; exact hb)⟩
    show Seg _ A _ _ _ s₀ _ ((compTurn (.GeneratorExp elt [⟨tg, iter, ifs, 0⟩] scope pos) 0 (.ref it) .none X.env).onRaise (leaving X.env)) [] s
    rw [compTurn_gen, Sem.onRaise_eq_wrap]
    refine seg_bind_wrap (wpAny_standAt ?_)
    rcases turn i m t H w with ⟨stop, fin⟩ | ⟨go, N, hN, step⟩
    · refine seg_bind_wrap ?_
      rw [over_gen, hA]
      refine thnF (T.done X rfl rfl rfl hc i pl s _ H (fun _ _ => False) I (stat I nfp) st stop) fun r s1 ⟨hr, I1⟩ => ?_
      subst hr
      exact seg_end (.ok .next) ⟨rfl, t, H, tq, fin, pl, I1, hS⟩
    · refine seg_bind_wrap ?_
      rw [over_gen, hA]
      refine thnF (T.item X rfl rfl rfl hc i pl s _ H (fun _ _ => False) I (stat I nfp) st go) fun r s6 ⟨u, hr, h6⟩ => ?_
      subst hr
      refine seg_bind_wrap ?_
      rw [over_gen, hA]
      refine thnF h6 fun _ s7 ⟨x, H7, I7, r7, y7, st7, n7⟩ => ?_
      have I7' := I7.pinned (stat I7 n7) (T.obj _ _ st7)
      have E0 : ∀ {α : Type} {t : Sem α} {Q Q' : α → Shared → Prop} {E : Value → Shared → Prop} {s : Shared}, wpAny (model X.prog X.w) X.A t Q X.xe s → (∀ a s, Q a s → Q' a s) → wpAny (model X.prog X.w) X.A t Q' E s := fun {α t Q Q' E s} h hQ => by
        rw [hxe] at h
        exact thnF h hQ
      refine seg_bind_wrap ?_
      rw [over_gen, hA]
      refine E0 (pg.run _ s7 _ H7 x u _ I7' r7 (step x H7 y7)) fun _ s8 ⟨σ8, H8, I8, hw8, q8⟩ => ?_
      refine seg_bind_wrap ?_
      rw [over_gen, hA]
      refine E0 (pt.run _ s8 σ8 H8 _ I8 q8) fun b s9 ⟨H9, I9, q9⟩ => ?_
      -- the turn's end
      have fin : ∀ {s' : Shared} {H' : Hp}, Inv X (pl ++ pinsAt fp s7.heap) σ8 H' s' → Inv X pl (wipe σ vs) H' s' ∧ tn (i + 1) s'.heap ∧ (∀ b ∈ fp, H' b = none) := fun {s' H'} I' => by
        have pin' : ∀ b ∈ fp, ∀ o, s7.heap.get? b = some o → s'.heap.get? b = some o ∧ H' b = none := fun b hb o e =>
          let z := I'.pin (b, o) (List.mem_append_right _ (List.mem_append_right _ (mem_pinsAt hb e)))
          ⟨z.1, z.2.1⟩
        have hl : (wipe σ vs).length = σ8.length := by rw [← hw8, wipe_length]
        refine ⟨I'.unpinned.weak hl (fun j v e => ?_), T.keep _ _ _ st7 fun b hb o e => (pin' b hb o e).1, fun b hb => ?_⟩
        · rw [← hw8] at e
          exact (wipe_some e).1
        · obtain ⟨o, e, _⟩ := T.obj _ _ st7 b hb
          exact (pin' b hb o e).2
      cases b with
      | false =>
        simp only [Bool.false_eq_true, if_false] at q9 ⊢
        obtain ⟨m', hm', w'⟩ := hN _ _ q9
        obtain ⟨J1, J2, J3⟩ := fin I9
        exact seg_again rfl (ih m' hm' n (i + 1) t pl H9 s₀ s9 (Nat.lt_trans hm' hmn) w' J1 J2 J3 hS hpl tq)
      | true =>
        simp only [if_true] at q9 ⊢
        have hy : ∀ v, yieldOut X.env v = yieldValue v := fun v => by simp only [yieldOut, hco, Bool.false_eq_true, if_false]
        simp only [hy]
        rw [Sem.bind_eq_wrap', Sem.bind_eq_wrap', Sem.wrap_wrap, Sem.wrap_wrap]
        refine seg_wrap ?_
        rw [over_gen, hA]
        refine E0 (pe.run _ s9 σ8 H9 _ I9 q9) fun z s10 ⟨yv, H10, I10, r10, cs⟩ => ?_
        obtain ⟨J1, J2, J3⟩ := fin I10
        cases n with
        | zero => exact absurd hmn (Nat.not_lt_zero _)
        | succ k =>
          refine seg_at (seg_yield rfl rfl rfl ⟨t, N, yv, H10, r10, tq, cs, ⟨pl, J1, hS⟩, fun t' s'' wk tq' nx => ?_⟩)
          obtain ⟨⟨pl', I'', hS'⟩, hk⟩ := wk
          obtain ⟨m', hm', w'⟩ := hN _ _ nx
          have hpl' : PinS S s''.heap (S.filterMap fun b => (s''.heap.get? b).map fun o => (b, o)) := fun b hb => by
            obtain ⟨o, e, _⟩ := hS' b hb
            exact ⟨o, e, List.mem_filterMap.mpr ⟨b, hb, by rw [e]; rfl⟩⟩
          have I3 : Inv X (S.filterMap fun b => (s''.heap.get? b).map fun o => (b, o)) (wipe σ vs) H10 s'' := I''.pins_of fun p hp => by
            obtain ⟨b, hb, e⟩ := List.mem_filterMap.mp hp
            obtain ⟨o, e1, hm⟩ := hS' b hb
            rw [e1] at e
            have e' : (b, o) = p := Option.some.inj e
            rw [← e']
            exact I''.pin _ (List.mem_append_right _ hm)
          refine seg_again rfl (ih m' hm' k (i + 1) t' _ H10 s'' s'' (by omega) w' I3 (T.keep _ _ _ J2 fun b hb o e => hk b hb o e) J3 hpl' (fun p hp => ?_) tq')
          obtain ⟨b, hb, e⟩ := List.mem_filterMap.mp hp
          cases e1 : s''.heap.get? b with
          | none => rw [e1] at e; cases e
          | some o =>
            rw [e1] at e
            have e' : (b, o) = p := Option.some.inj e
            rw [← e']
            exact hSf b hb

theorem seg_gstart {X : Cx} {A : Around} {elt tg iter : Expr} {ifs : List Expr} {scope : Scope} {pos : Pos} {J : It} {fp : List Addr} {it : Addr} {tn : Nat → Heap → Prop} {R : GenEnd} {Y : Protocol} {n : Nat} {s₀ s : Shared}
    (T : Turn X.prog X.w X.K tg J fp it tn) (st : tn 0 s.heap)
    (loop : Seg (model X.prog X.w) A R Y n s₀ (.compLoop (.GeneratorExp elt [⟨tg, iter, ifs, 0⟩] scope pos) 0 (.ref it) .none X.env)
        ((model X.prog X.w).den (.compLoop (.GeneratorExp elt [⟨tg, iter, ifs, 0⟩] scope pos) 0 (.ref it) .none X.env)) [] s) :
    Seg (model X.prog X.w) A R Y n s₀ (.compStart (.GeneratorExp elt [⟨tg, iter, ifs, 0⟩] scope pos) 0 (.ref it) .none X.env)
      ((model X.prog X.w).den (.compStart (.GeneratorExp elt [⟨tg, iter, ifs, 0⟩] scope pos) 0 (.ref it) .none X.env)) [] s := by
  show Seg _ A _ _ _ s₀ _ ((compStart (.GeneratorExp elt [⟨tg, iter, ifs, 0⟩] scope pos) 0 (.ref it) .none X.env).onRaise (leaving X.env)) [] s
  unfold compStart
  rw [Sem.onRaise_eq_wrap]
  show Seg _ A _ _ _ s₀ _ ((ask >>= _).wrap _ _ _ _) [] s
  refine seg_bind_wrap (wpAny_askSetting ?_)
  split
  · exact seg_again rfl loop
  · first
      | exact seg_bind_wrap (wpAny_rule (seg_bind_wrap (wpAny_standAt (seg_bind_wrap (T.self _ 0 s _ _ st (seg_again rfl loop))))))
      | (refine seg_bind_wrap (wpAny_rule ?_); show Seg _ A _ _ _ s₀ _ ((standAt iter.pos >>= _).wrap _ _ _ _) [] s; exact seg_bind_wrap (wpAny_standAt (seg_bind_wrap (T.self _ 0 s _ _ st (seg_again rfl loop)))))
end

theorem inv_gens {X : Cx} {pl : List (Addr × Obj)} {σ : L2.St} {H : Hp} {s : Shared} {g' : Array GenState} (I : Inv X pl σ H s) (hg : AllBare g') : Inv X pl σ H { s with gens := g' } :=
  ⟨I.ok, I.os, hg, I.base, I.loc, I.cell, I.free, I.freeC, I.pin, I.hok, I.len⟩
theorem inv_setGen {X : Cx} {pl : List (Addr × Obj)} {σ : L2.St} {H : Hp} {s : Shared} {g : Nat} {x : GenState} (I : Inv X pl σ H s) (hx : x.bare = true) : Inv X pl σ H (s.setGen g x) := by
  refine inv_gens I fun y hy => ?_
  rcases Array.mem_or_eq_of_mem_setIfInBounds hy with h | h
  · exact I.bare y h
  · rw [h]; exact hx

section
variable {τ : Type}
/-- the generator number gn at a, made in X, walks in X' -/
structure GenOn (X X' : Cx) (pins : List (Addr × Obj)) (σ σw : L2.St) (fp : List Addr) (a : Addr) (gn n : Nat) (t0 : τ) (Cons : τ → V → Hp → (τ → Hp → Prop) → Prop) (Fin : τ → Hp → Prop) (H2 : Hp) (s5 : Shared) : Prop where
  gen : s5.heap.IsGen a gn
  inv : ∃ o, s5.heap.get? a = some o ∧ Inv X' [(a, o)] σw H2 s5
  back : ∀ (pl : List (Addr × Obj)) (σ' : L2.St) (H' : Hp) (s' : Shared), Inv X' pl σ' H' s' → Inv X pins σ H' s'
  afp : a ∉ fp
  fpl : ∀ b ∈ fp, b < s5.heap.objs.size
  ex : X'.ex = fp
  pn : X'.pn = []
  sz : X'.s_0.heap.objs.size ≤ s5.heap.objs.size
  cells : ∀ x c, X'.env.cells.lookup x = some c → c < s5.heap.objs.size
  loc : X'.env.locals < s5.heap.objs.size
  fs : ∀ b ∈ X'.fs, b < s5.heap.objs.size
  gens : gn < s5.gens.size
  goes : ∃ gs, s5.gens[gn]? = some gs ∧ ∀ (S : List Addr) (TQ : τ → Shared → Prop), (∀ b ∈ S, b ∉ fp) → ∀ s'' : Shared, Wake X' S fp σw H2 s5 s'' → TQ t0 s'' →
    gs.Goes (model X.prog X.w) X.A.in1.in1 (gR X' S TQ σw Fin) (gY X' S fp TQ σw Cons) n (.send .none) s''

theorem gen_make {X : Cx} {pins : List (Addr × Obj)} {σ : L2.St} {H : Hp} {s : Shared} {c P : Addr} {elt tg iter : Expr} {ifs : List Expr} {gpos : Pos} {scope : Scope} {own : List (Str × Nat)} {wi : TI} {g : TG} {tt : TT} {te : TE} {k : Nat} {Q' : Value → Shared → Prop} {R : Hp → Prop}
    {t0 : τ} {Cons : τ → V → Hp → (τ → Hp → Prop) → Prop} {Fin : τ → Hp → Prop}
    (hr : Room k X.A) (hc : X.calm = true) (hN : X.N.Nodup) (TB : GxR.TabB X.base X.mg c P) (hcode : X.env.code = .ref c) (hi : PI X tg iter wi) (ok : BlkOk X.N X.env.scope scope own) (hcell : ∀ y ∈ scope.names, y.2 ≠ .cell) (hco : scope.isCoroutine = false) (hdot : scope.names.lookup (".0" : Str) = some NameKind.local)
    (hg : ∀ (s : Shared) (H : Hp) (C : Addr) (code : Value) (fp : List Addr), PG (gCx X s H (gEnv X scope C code) fp) tg g) (ht : ∀ (s : Shared) (H : Hp) (C : Addr) (code : Value) (fp : List Addr), PTs (gCx X s H (gEnv X scope C code) fp) ifs tt)
    (he : ∀ (s : Shared) (H : Hp) (C : Addr) (code : Value) (fp : List Addr), PE (gCx X s H (gEnv X scope C code) fp) elt te)
    (hs : ∀ v, genFold iter X.env v = pure v) (I : Inv X pins σ H s)
    (h : wi σ H fun J H1 => GxR.TabG H1 P ∧ ∀ H2, GxR.Tabbed P H1 H2 → ∃ W : Nat → Nat → τ → Hp → Prop, (∃ m, W 0 m t0 H2) ∧ GW J g tt te (own.map (·.2)) σ W Cons Fin)
    (hQ : ∀ (X' : Cx) (fp : List Addr) (a : Addr) (gn n : Nat) (H2 : Hp) (s5 : Shared), GenOn X X' pins σ (wipe σ (own.map (·.2))) fp a gn n t0 Cons Fin H2 s5 → X'.prog = X.prog → X'.w = X.w → Q' (.ref a) s5) :
    wpAny (model X.prog X.w) X.A (eval (.GeneratorExp elt [⟨tg, iter, ifs, 0⟩] scope gpos) X.env) Q' X.xe s := by
  have hfree : ∀ y ∈ scope.names, y.2 = .free → ∃ c, X.env.cells.lookup y.1 = some c := fun y hy e => by
    rcases ok.free y hy e with k | k
    · exact I.ok.has _ (.inl k)
    · exact I.ok.has _ (.inr k)
  refine wpAny_GeneratorExp_make hco (closure_ok hfree) hcell hdot ok.kind (by have := hr.dp; omega) ?_ hs
  refine thn (hi.run pins s σ H _ I h) fun xv s1 hx => thn hx fun itv s2 h2 => ?_
  obtain ⟨it, fp, tn, J, H1, e, I2, T, st2, f2, ⟨ps, hP, ht3⟩, q⟩ := h2
  subst e
  refine ⟨I2.nolimit, ?_⟩
  have hPs : s2.heap.get? P = some { cls := .none, data := .fields ps } := I2.hok P _ hP
  have cd : PySem.W.CodeHd s2.heap c P := TB.code.keeps fun b u e => I2.bk b u e
  have cont : ∀ (code : Value) (h3 : Heap) (tk : Nat) (more : Array Value), Heap.ExtBut P s2.heap h3 → s2.heap.objs.size ≤ h3.objs.size → h3.get? P = some { cls := .none, data := .fields (ps ++ more) } → TriplesOk (ps ++ more).toList →
      wpAny (model X.prog X.w) X.A (builtinsFor X.env.globals X.env.builtins) (fun bi s₄ =>
        ∀ h', h'.Ns s₄.heap.objs.size (fun y => if y = ".0" then some (.ref it) else none) → Heap.SameBut s₄.heap.objs.size (s₄.heap.push { cls := .type "frame", data := .dict #[] }) h' →
          Q' (.ref h'.objs.size) { s₄ with
            gens := s₄.gens.push (.fresh (.compStart (.GeneratorExp elt [⟨tg, iter, ifs, 0⟩] scope gpos) 0 (.ref it) .none (genEnv scope (cloFrom X.env.cells scope.names []) s₄.heap.objs.size code bi X.env))),
            toks := s₄.toks + 1 + 1 + 1,
            heap := h'.push { cls := .type "generator", data := .fields #[.int s₄.gens.size 0, .str "<genexpr>" (s₄.toks + 1), .str (X.env.qual ++ "<genexpr>") (s₄.toks + 1 + 1)] } }) X.xe { s2 with heap := h3, toks := tk } := by
    intro code h3 tk more hx hsz hP3 ht4
    obtain ⟨bm, ob, e1, e2, e3, e4, e5, e6, e7, e8⟩ := TB.bm
    have keep3 : ∀ b u, b ≠ P → s2.heap.get? b = some u → h3.get? b = some u := fun b u hb e => hx b u hb e
    refine wpAny_builtinsFor (m := X.mg) (by rw [I2.ok.glob]; exact (I2.mod.glob.keeps I2.bk).extBut hx TB.gP) e1 e2 (keep3 _ _ e4 (I2.bk _ _ e5)) e6 e7 e8 ?_
    intro h' hn' hs'
    have I4 : Inv X pins σ (upd H1 P (.tbl (ps ++ more))) { s2 with heap := h3, toks := tk } := GxR.inv_tab (more := more) (h' := h3) (g' := s2.gens) (d' := s2.drawn) (t' := tk) I2 hP keep3 hP3 I2.bare
    have hTb : GxR.Tabbed P H1 (upd H1 P (.tbl (ps ++ more))) := ⟨⟨ps ++ more, upd_same, ht4⟩, fun b hb => upd_ne hb⟩
    obtain ⟨W, ⟨m0, w0⟩, gw⟩ := q _ hTb
    generalize hH2 : upd H1 P (.tbl (ps ++ more)) = H2 at I4 w0
    generalize hs4 : ({ s2 with heap := h3, toks := tk } : Shared) = s4 at I4 hn' hs' ⊢
    have hh4 : s4.heap = h3 := by rw [← hs4]
    have hsz' : h'.objs.size = s4.heap.objs.size + 1 := by rw [hs'.1, Heap.size_push]
    have keep' : ∀ b o, s4.heap.get? b = some o → h'.get? b = some o := fun b o e => hs'.extBut b o (Nat.ne_of_lt (Heap.lt_size e)) (Heap.get?_push_of_some _ e)
    have fpP : ∀ b ∈ fp, b ≠ P := fun b hb z => by
      have := (f2 b hb).1
      rw [z, hP] at this
      cases this
    have f4 : ∀ b ∈ fp, FpOk X pins H2 b ∧ b < s4.heap.objs.size := fun b hb => by
      obtain ⟨o, e, _⟩ := T.obj _ _ st2 b hb
      refine ⟨⟨?_, (f2 b hb).2⟩, ?_⟩
      · rw [← hH2, upd_ne (fpP b hb)]
        exact (f2 b hb).1
      · rw [hh4]
        exact Heap.lt_size (keep3 b o (fpP b hb) e)
    have st4 : tn 0 s4.heap := T.keep _ _ _ st2 fun b hb o e => by rw [hh4]; exact keep3 b o (fpP b hb) e
    generalize hh5 : h'.push { cls := .type "generator", data := .fields #[.int s4.gens.size 0, .str "<genexpr>" (s4.toks + 1), .str (X.env.qual ++ "<genexpr>") (s4.toks + 1 + 1)] } = h5
    have hget : h5.get? h'.objs.size = some { cls := .type "generator", data := .fields #[.int s4.gens.size 0, .str "<genexpr>" (s4.toks + 1), .str (X.env.qual ++ "<genexpr>") (s4.toks + 1 + 1)] } := by
      rw [← hh5]; exact Heap.get?_push_size _ rfl
    have h5sz : h5.objs.size = h'.objs.size + 1 := by rw [← hh5, Heap.size_push]
    have keep5 : ∀ b o, h'.get? b = some o → h5.get? b = some o := fun b o e => by rw [← hh5]; exact Heap.get?_push_of_some _ e
    have hns5 : h5.Ns s4.heap.objs.size (fun y => if y = ".0" then some (.ref it) else none) := by rw [← hh5]; exact hn'.push _
    have bare5 : AllBare (s4.gens.push (.fresh (.compStart (.GeneratorExp elt [⟨tg, iter, ifs, 0⟩] scope gpos) 0 (.ref it) .none (genEnv scope (cloFrom X.env.cells scope.names []) s4.heap.objs.size code builtinsNs X.env)))) := I4.bare.push rfl
    have I5 := gen_start (h' := h5) (g' := s4.gens.push (.fresh (.compStart (.GeneratorExp elt [⟨tg, iter, ifs, 0⟩] scope gpos) 0 (.ref it) .none (genEnv scope (cloFrom X.env.cells scope.names []) s4.heap.objs.size code builtinsNs X.env)))) (tk := s4.toks + 1 + 1 + 1) (code := code) I4 ok hcell hN hc f4 hns5 (fun b o e => keep5 b o (keep' b o e)) bare5
    refine hQ (gCx X s4 H2 (gEnv X scope s4.heap.objs.size code) fp) fp h'.objs.size s4.gens.size (m0 + 1) H2 _ ?_ rfl rfl
    have afp : h'.objs.size ∉ fp := fun hm => by
      exact ad_no (f4 _ hm).2 hsz'
    have cm : ∀ {y c}, (cloFrom X.env.cells scope.names []).lookup y = some c → c < s4.heap.objs.size := fun {y c} e => by
      rcases cloFrom_mem (PySem.mem_of_lookup e) with hm | ⟨h1, h2⟩
      · cases hm
      · obtain ⟨c1, hc1⟩ := hfree _ h1 rfl
        have hc1 : X.env.cells.lookup y = some c1 := hc1
        have e2 : c = c1 := by
          rw [h2, hc1] <;> rfl
        rw [e2]
        obtain ⟨w, z⟩ := I4.cell _ _ hc1
        exact z.lt
    have fsl : ∀ b ∈ frs X.stack, b < s4.heap.objs.size := fun b hb => by
      rcases List.mem_cons.mp (I4.stkSub b hb) with z | z
      · rw [z]; exact I4.lt
      · rcases Nat.lt_or_ge b s4.heap.objs.size with y | y
        · exact y
        · exact absurd z (I4.nofs y)
    refine ⟨⟨_, _, _, hget, rfl, rfl, rfl⟩, ⟨_, hget, I5.pins_of fun p hp => ?_⟩, fun pl σ' H' s' I' => ?_, afp, fun b hb => ?_, rfl, rfl, ?_, fun x c e => ?_, ?_, fun b hb => ?_, ?_, ⟨_, Array.getElem?_push_size .., fun S TQ hSf s'' wk tq => ⟨rfl, ?_⟩⟩⟩
    · have hp' : p = (h'.objs.size, ({ cls := .type "generator", data := .fields #[.int s4.gens.size 0, .str "<genexpr>" (s4.toks + 1), .str (X.env.qual ++ "<genexpr>") (s4.toks + 1 + 1)] } : Obj)) := List.mem_singleton.mp hp
      subst hp'
      refine ⟨hget, I4.hok.fresh (ad_ge hsz'), ?_, fun z => ?_, fun v q => by cases q⟩
      · show h'.objs.size ≠ s4.heap.objs.size
        exact ad_ne hsz'
      · exact ad_no (fsl _ z) hsz'
    · refine I4.call' (ch := fp) I'.os I'.base I'.hok I'.bare fun b hb => ⟨(f4 b hb).1.2.2.2.1, (f4 b hb).1.2.1, (f4 b hb).1.2.2.2.2.1, (f4 b hb).1.2.2.2.2.2⟩
    · exact ad_lt (f4 b hb).2 hsz' h5sz
    · exact ad_le hsz' h5sz
    · exact ad_lt (cm e) hsz' h5sz
    · exact ad_lt' hsz' h5sz
    · exact ad_lt (fsl b hb) hsz' h5sz
    · show s4.gens.size < (s4.gens.push _).size
      rw [Array.size_push]; omega
    · obtain ⟨⟨pl, I6, hS⟩, hk⟩ := wk
      have hpl' : PinS S s''.heap (S.filterMap fun b => (s''.heap.get? b).map fun o => (b, o)) := fun b hb => by
        obtain ⟨o, e, _⟩ := hS b hb
        exact ⟨o, e, List.mem_filterMap.mpr ⟨b, hb, by rw [e]; rfl⟩⟩
      have I7 : Inv (gCx X s4 H2 (gEnv X scope s4.heap.objs.size code) fp) (S.filterMap fun b => (s''.heap.get? b).map fun o => (b, o)) (wipe σ (own.map (·.2))) H2 s'' := I6.pins_of fun p hp => by
        obtain ⟨b, hb, e⟩ := List.mem_filterMap.mp hp
        obtain ⟨o, e1, hm⟩ := hS b hb
        rw [e1] at e
        have e' : (b, o) = p := Option.some.inj e
        rw [← e']
        exact I6.pin _ (List.mem_append_right _ hm)
      have st7 : tn 0 s''.heap := T.keep _ _ _ st4 fun b hb o e => hk b hb o (keep5 b o (keep' b o e))
      refine seg_gstart (X := gCx X s4 H2 (gEnv X scope s4.heap.objs.size code) fp) T st7 (seg_gloop (X := gCx X s4 H2 (gEnv X scope s4.heap.objs.size code) fp) rfl hc hco rfl rfl rfl T (hg _ _ _ _ _) (ht _ _ _ _ _) (he _ _ _ _ _) gw hSf m0 (m0 + 1) 0 t0 _ H2 s'' s'' (Nat.lt_succ_self _) w0 I7 st7 (fun b hb => (f4 b hb).1.1) hpl' (fun p hp => ?_) tq)
      obtain ⟨b, hb, e⟩ := List.mem_filterMap.mp hp
      cases e1 : s''.heap.get? b with
      | none => rw [e1] at e; cases e
      | some o =>
        rw [e1] at e
        have e' : (b, o) = p := Option.some.inj e
        rw [← e']
        exact hSf b hb
  cases hf : codeAmong gpos ps.toList with
  | none =>
    refine wpAny_genexprCodeX hcode (cd.code hPs ht3) (cd.tab hPs) hf fun c' h' tk hx hge hlt hco' _ htab' _ => ?_
    obtain ⟨o1, vs, f1, tf, fl, tg', inF, tx, tt', op, _, _, _, _, _, _, _, _, _, htr, _⟩ := hco'
    exact cont _ h' tk _ hx (Nat.le_trans hge (Nat.le_of_lt hlt)) htab'.2 htr
  | some cv =>
    refine wpAny_genexprCode_hit hcode (cd.code hPs ht3) hf ?_
    have e0 : ps ++ #[] = ps := by simp
    exact cont cv s2.heap s2.toks #[] (Heap.ExtBut.refl _ _) (Nat.le_refl _) (by rw [e0]; exact hPs) (by rw [e0]; exact ht3)
end

/-! ### the consumers -/
section
variable {X X' : Cx} {pins : List (Addr × Obj)} {σ σw : L2.St} {fp : List Addr} {a : Addr} {gn : Nat}
/-- all, any: between two turns -/
def TruSt (X X' : Cx) (σw : L2.St) (fp : List Addr) (a : Addr) (gn n : Nat) (Cons : Unit → V → Hp → (Unit → Hp → Prop) → Prop) (Fin : Unit → Hp → Prop) (s : Shared) : Prop :=
  s.heap.IsGen a gn ∧ s.heap.NoLimit ∧ gn < s.gens.size ∧ ∃ gs, s.gens[gn]? = some gs ∧ gs.Goes (model X.prog X.w) X.A.in1.in1 (gR X' [a] (fun _ _ => True) σw Fin) (gY X' [a] fp (fun _ _ => True) σw Cons) n (.send .none) (s.setGen gn .running)
theorem gen_pin {s : Shared} {h : Heap} {pl : List (Addr × Obj)} {S : List Addr} {σ' : L2.St} {H : Hp} {s0 : Shared} (hb : a ∈ S) (hg : h.IsGen a gn) (hS : PinS S h pl) (I : Inv X' pl σ' H s0) : s0.heap.IsGen a gn := by
  obtain ⟨o, e, hm⟩ := hS a hb
  obtain ⟨o', nm, qn, e', r⟩ := hg
  rw [e] at e'
  cases e'
  exact ⟨o, nm, qn, (I.pin _ (List.mem_append_right _ hm)).1, r⟩
theorem setGen_at {s : Shared} {g : Nat} {x : GenState} (h : g < s.gens.size) : (s.setGen g x).gens[g]? = some x := by
  simp [Shared.setGen, h]
theorem setGen_sz {s : Shared} {g : Nat} {x : GenState} : (s.setGen g x).gens.size = s.gens.size := GenW.setGen_size s g x

/-- one turn of a consumer's loop: the generator hands out a value, or is through -/
theorem next_gen {τ : Type} {Cons : τ → V → Hp → (τ → Hp → Prop) → Prop} {Fin : τ → Hp → Prop} {S : List Addr} {TQ : τ → Shared → Prop} {n : Nat} {s : Shared} {Q : Option Value → Shared → Prop} {E : Value → Shared → Prop} {k : Nat}
    (hr : Room k X.A) (hS : a ∈ S) (hg : s.heap.IsGen a gn) (hl : s.heap.NoLimit) (hgn : gn < s.gens.size) (hgo : ∃ gs, s.gens[gn]? = some gs ∧ gs.Goes (model X.prog X.w) X.A.in1.in1 (gR X' S TQ σw Fin) (gY X' S fp TQ σw Cons) n (.send .none) (s.setGen gn .running))
    (hY : ∀ (v : Value) (x : V) (t : τ) (N : τ → Hp → Prop) (H : Hp) (s1 : Shared) (gs' : GenState) (pl : List (Addr × Obj)), RelV x v → TQ t (s.setGen gn .running) → Cons t x H N → gs'.bare = true → Inv X' pl σw H s1 → PinS S s.heap pl → gn < s1.gens.size → s1.heap.IsGen a gn →
      (∀ t' s'', Wake X' S fp σw H s1 s'' → TQ t' s'' → N t' H → ∃ m, m + 1 = n ∧ gs'.Goes (model X.prog X.w) X.A.in1.in1 (gR X' S TQ σw Fin) (gY X' S fp TQ σw Cons) m (.send .none) s'') → Q (some v) (s1.setGen gn gs'))
    (hF : ∀ (t : τ) (H : Hp) (s1 : Shared) (pl : List (Addr × Obj)) (h' : Heap), TQ t (s.setGen gn .running) → Fin t H → Inv X' pl σw H { s1.setGen gn .finished with heap := h' } → PinS S s.heap pl → Q none { s1.setGen gn .finished with heap := h' }) :
    wpAny (model X.prog X.w) X.A.in1 (pyNext (.ref a)) Q E s := by
  obtain ⟨gs, hgs, hgo⟩ := hgo
  refine GenW.wpAny_gsz (n := gn + 1) hgn ?_
  refine wpAny_pyNext_genexpQ (A := X.A.in1) (P := fun n s₀ s1 => ∃ (t : τ) (H : Hp), TQ t s₀ ∧ Fin t H ∧ ∃ pl, Inv X' pl σw H s1 ∧ PinS S s₀.heap pl) hr.hd hl (by have := hr.dp; show X.A.depth < _; omega) hg hgs hgo (fun v s1 gs' hb hv hsz => ?_) (fun s1 hp h' hk _ => ?_)
  · obtain ⟨t, N, x, H, rv, tq, cs, ⟨pl, I1, hpl⟩, kap⟩ := hv
    rw [setGen_sz] at hsz
    refine hY v x t N H s1 gs' pl rv tq cs hb I1 hpl hsz (gen_pin (s := s1) hS hg hpl I1) fun t' s'' wk tq' nx => ?_
    have z := kap t' s'' wk tq' nx
    cases n with
    | zero => exact z.elim
    | succ m => exact ⟨m, rfl, z⟩
  · obtain ⟨t, H, tq, fin, pl, I1, hpl⟩ := hp
    exact hF t H s1 pl h' tq fin ((inv_setGen I1 rfl).kept (t' := s1.toks) hk) hpl

theorem all_loop {k : Nat} {Qf : Hp → Prop} {Fin : Unit → Hp → Prop} {R : Result → Shared → Prop} (hr : Room k X.A)
    (back : ∀ (pl : List (Addr × Obj)) (σ' : L2.St) (H' : Hp) (s' : Shared), Inv X' pl σ' H' s' → Inv X pins σ H' s')
    (hT : ∀ H s', Inv X pins σ H s' → Fin () H → R (.ok (.ret (.bool true))) s') (hF : ∀ H s', Inv X pins σ H s' → Qf H → R (.ok (.ret (.bool false))) s') :
    ∀ (n : Nat) (s : Shared), TruSt X X' σw fp a gn n (fun _ y H N => ∃ b, y = .bl b ∧ if b = true then N () H else Qf H) Fin s → codeAny (model X.prog X.w) X.A (.builtin "all.loop" ⟨[.ref a], []⟩) R s := by
  intro n
  induction n using Nat.strongRecOn with
  | ind n ih =>
    intro s ⟨hg, hl, hgn, hgo⟩
    refine codeAny_builtin F.entry_all_loop ?_
    rw [Around.under_plainId F.plain_all_loop _]
    show wpAny _ X.A.in1 (pyNext (.ref a) >>= _) _ _ s
    refine wpAny_bind (next_gen (S := [a]) (TQ := fun _ _ => True) hr List.mem_cons_self hg hl hgn hgo (fun v x t N H s1 gs' pl rv _ cs hb I1 hpl hgn1 hg1 kap => ?_) (fun t H s1 pl h' _ fin I1 hpl => ?_))
    · obtain ⟨b, rfl, q⟩ := cs
      obtain rfl : v = Value.bool b := rv
      refine wpAny_bind (wpAny_holding (wpAny_truthy_bool ?_))
      refine wpAny_bind (wpAny_letGo ?_)
      have J1 : Inv X' pl σw H (s1.setGen gn gs') := inv_setGen I1 hb
      cases b with
      | true =>
        simp only [if_true] at q ⊢
        have J2 : Inv X' pl σw H ((s1.setGen gn gs').setGen gn .running) := inv_setGen J1 rfl
        obtain ⟨m, hm, z⟩ := kap () _ ⟨⟨pl, J2, fun b hb => (by
          obtain ⟨o, _, hm⟩ := hpl b hb
          exact ⟨o, (I1.pin _ (List.mem_append_right _ hm)).1, hm⟩)⟩, fun b _ o e => e⟩ trivial q
        refine wpAny_pure ⟨plainId_quiet F.plain_all_loop _, ih m (by omega) _ ⟨hg1, J1.nolimit, by rw [setGen_sz]; exact hgn1, gs', setGen_at hgn1, z⟩⟩
      | false =>
        simp only [Bool.false_eq_true, if_false] at q ⊢
        exact wpAny_bind (wpAny_rule (wpAny_pure (hF H _ (back _ _ _ _ J1) q)))
    · exact wpAny_bind (wpAny_rule (wpAny_pure (hT H _ (back _ _ _ _ I1) fin)))

theorem any_loop {k : Nat} {Qt : Hp → Prop} {Fin : Unit → Hp → Prop} {R : Result → Shared → Prop} (hr : Room k X.A)
    (back : ∀ (pl : List (Addr × Obj)) (σ' : L2.St) (H' : Hp) (s' : Shared), Inv X' pl σ' H' s' → Inv X pins σ H' s')
    (hF : ∀ H s', Inv X pins σ H s' → Fin () H → R (.ok (.ret (.bool false))) s') (hT : ∀ H s', Inv X pins σ H s' → Qt H → R (.ok (.ret (.bool true))) s') :
    ∀ (n : Nat) (s : Shared), TruSt X X' σw fp a gn n (fun _ y H N => ∃ b, y = .bl b ∧ if b = true then Qt H else N () H) Fin s → codeAny (model X.prog X.w) X.A (.builtin "any.loop" ⟨[.ref a], []⟩) R s := by
  intro n
  induction n using Nat.strongRecOn with
  | ind n ih =>
    intro s ⟨hg, hl, hgn, hgo⟩
    refine codeAny_builtin F.entry_any_loop ?_
    rw [Around.under_plainId F.plain_any_loop _]
    show wpAny _ X.A.in1 (pyNext (.ref a) >>= _) _ _ s
    refine wpAny_bind (next_gen (S := [a]) (TQ := fun _ _ => True) hr List.mem_cons_self hg hl hgn hgo (fun v x t N H s1 gs' pl rv _ cs hb I1 hpl hgn1 hg1 kap => ?_) (fun t H s1 pl h' _ fin I1 hpl => ?_))
    · obtain ⟨b, rfl, q⟩ := cs
      obtain rfl : v = Value.bool b := rv
      refine wpAny_bind (wpAny_holding (wpAny_truthy_bool ?_))
      refine wpAny_bind (wpAny_letGo ?_)
      have J1 : Inv X' pl σw H (s1.setGen gn gs') := inv_setGen I1 hb
      cases b with
      | false =>
        simp only [Bool.false_eq_true, if_false] at q ⊢
        have J2 : Inv X' pl σw H ((s1.setGen gn gs').setGen gn .running) := inv_setGen J1 rfl
        obtain ⟨m, hm, z⟩ := kap () _ ⟨⟨pl, J2, fun b hb => (by
          obtain ⟨o, _, hm⟩ := hpl b hb
          exact ⟨o, (I1.pin _ (List.mem_append_right _ hm)).1, hm⟩)⟩, fun b _ o e => e⟩ trivial q
        refine wpAny_pure ⟨plainId_quiet F.plain_any_loop _, ih m (by omega) _ ⟨hg1, J1.nolimit, by rw [setGen_sz]; exact hgn1, gs', setGen_at hgn1, z⟩⟩
      | true =>
        simp only [if_true] at q ⊢
        exact wpAny_bind (wpAny_rule (wpAny_pure (hT H _ (back _ _ _ _ J1) q)))
    · exact wpAny_bind (wpAny_rule (wpAny_pure (hF H _ (back _ _ _ _ I1) fin)))

/-! sum: the total stands in a list of the consumer's own, at Z -/
def TotAt (Z : Addr) (t : Int) (s : Shared) : Prop := ∃ (tk : Tok) (c : Nat), s.heap.get? Z = some { cls := .type "list", dict := none, data := .seq #[.int t tk] c, slots := #[] }
theorem TotAt.inj {Z : Addr} {t u : Int} {s : Shared} (h : TotAt Z t s) (h' : TotAt Z u s) : t = u := by
  obtain ⟨tk, c, e⟩ := h
  obtain ⟨tk', c', e'⟩ := h'
  rw [e] at e'
  have z := Option.some.inj e'
  injection z with z1 z2 z3 z4
  injection z3 with z5 z6
  have z7 : ([.int t tk] : List Value) = [.int u tk'] := congrArg Array.toList z5
  injection z7 with z8 _
  injection z8
/-- the list at Z is out of the generator's reach -/
structure ZOk (X' : Cx) (fp : List Addr) (a Z : Addr) : Prop where
  sz : X'.s_0.heap.objs.size ≤ Z
  loc : Z ≠ X'.env.locals
  fs : Z ∉ X'.fs
  cells : ∀ x c, X'.env.cells.lookup x = some c → c ≠ Z
  za : Z ≠ a
  zfp : Z ∉ fp
  afp : a ∉ fp
  pn : X'.pn = []
def SumSt (X X' : Cx) (σw : L2.St) (fp : List Addr) (a Z : Addr) (gn n : Nat) (t : Int) (Cons : Int → V → Hp → (Int → Hp → Prop) → Prop) (Fin : Int → Hp → Prop) (s : Shared) : Prop :=
  s.heap.IsGen a gn ∧ s.heap.NoLimit ∧ gn < s.gens.size ∧ TotAt Z t s ∧ ∃ gs, s.gens[gn]? = some gs ∧ gs.Goes (model X.prog X.w) X.A.in1.in1 (gR X' [a, Z] (TotAt Z) σw Fin) (gY X' [a, Z] fp (TotAt Z) σw Cons) n (.send .none) (s.setGen gn .running)
theorem sum_loop {Z : Addr} {k : Nat} {Fin : Int → Hp → Prop} {R : Result → Shared → Prop} (hr : Room k X.A) (z : ZOk X' fp a Z)
    (back : ∀ (pl : List (Addr × Obj)) (σ' : L2.St) (H' : Hp) (s' : Shared), Inv X' pl σ' H' s' → Inv X pins σ H' s')
    (hF : ∀ t H s' tk, Inv X pins σ H s' → Fin t H → R (.ok (.ret (.int t tk))) s') :
    ∀ (n : Nat) (t : Int) (s : Shared), SumSt X X' σw fp a Z gn n t (fun t y H N => ∃ j, y = .int j ∧ (InLong j ∧ InLong (t + j)) ∧ N (t + j) H) Fin s →
      codeAny (model X.prog X.w) X.A (.builtin "sum.loop" ⟨[.ref a, .ref Z, rawInt 0, rawInt 0], []⟩) R s := by
  intro n
  induction n using Nat.strongRecOn with
  | ind n ih =>
    intro t s ⟨hg, hl, hgn, hZ, hgo⟩
    obtain ⟨tA, c, hS⟩ := id hZ
    refine codeAny_builtin F.entry_sum_loop ?_
    rw [Around.under_plainId F.plain_sum_loop _]
    show wpAny _ X.A.in1 (seqItems? (.ref Z) >>= _) _ _ s
    refine wpAny_bind (wpAny_seqItems hS rfl ?_)
    show wpAny _ X.A.in1 (tryCatch (pyNext (.ref a)) _ >>= _) _ _ s
    refine wpAny_bind (wpAny_tryCatch (next_gen (S := [a, Z]) (TQ := TotAt Z) hr List.mem_cons_self hg hl hgn hgo (fun v x t' N H s1 gs' pl rv tq cs hb I1 hpl hgn1 hg1 kap => ?_) (fun t' H s1 pl h' tq fin I1 hpl => ?_)))
    · have et : t' = t := TotAt.inj tq hZ
      subst et
      obtain ⟨j, rfl, ⟨⟨f1, f2⟩, f3, f4⟩, nx⟩ := cs
      obtain ⟨tv, rfl⟩ : ∃ tv, v = Value.int j tv := rv
      have hc : ((decide (-(2 ^ 63) ≤ j) && decide (j < 2 ^ 63)) && (decide (-(2 ^ 63) ≤ t' + j) && decide (t' + j < 2 ^ 63))) = true := by
        simp only [Bool.and_eq_true, decide_eq_true_eq]
        exact ⟨⟨f1, f2⟩, f3, f4⟩
      obtain ⟨oz, ez, hmz⟩ := hpl Z (List.mem_cons_of_mem _ List.mem_cons_self)
      obtain ⟨oa, ea, hma⟩ := hpl a List.mem_cons_self
      rw [hS] at ez
      cases ez
      obtain ⟨pz1, pz2, pz3, pz4, _⟩ := I1.pin _ (List.mem_append_right _ hmz)
      obtain ⟨pa1, pa2, pa3, pa4, pa5⟩ := I1.pin _ (List.mem_append_right _ hma)
      have J1 : Inv X' [(a, oa)] σw H (s1.setGen gn gs') := (inv_setGen I1 hb).pins_of fun p hp => by
        rw [List.mem_singleton.mp hp]
        exact ⟨pa1, pa2, pa3, pa4, pa5⟩
      show wpAny _ X.A.in1 (if (_ : Bool) = true then (mkInt (t' + j) >>= _) else _) _ _ _
      split
      · refine wpAny_bind (wpAny_mkInt ?_)
        show wpAny _ X.A.in1 (updateSeq Z (fun _ => #[.int (t' + j) s1.toks]) >>= _) _ _ _
        refine wpAny_bind ?_
        refine wpAny_updateSeq pz1 rfl (wpAny_pure ⟨plainId_quiet F.plain_sum_loop _, ?_⟩)
        have kh : ∀ b o, b ≠ Z → s1.heap.get? b = some o → (s1.heap.update Z (Obj.mapSeq fun _ => #[.int (t' + j) s1.toks])).get? b = some o := fun b o hb e => (Heap.get?_update_other _ _ (fun h : Z = b => hb h.symm)).trans e
        have J2 : Inv X' [(a, oa)] σw H { s1.setGen gn gs' with heap := s1.heap.update Z (Obj.mapSeq fun _ => #[.int (t' + j) s1.toks]), toks := s1.toks + 1 } :=
          J1.turned (t' := s1.toks + 1) kh pz2 z.loc (.inr z.sz) z.cells fun p hp => by
            rw [z.pn] at hp
            have hp2 : p = (a, oa) := by simpa using hp
            rw [hp2]
            exact fun e => z.za e.symm
        have eZ := Heap.get?_update_self (h := s1.heap) (Obj.mapSeq fun _ => #[.int (t' + j) s1.toks]) pz1 rfl
        have J3 : Inv X' [(a, oa), (Z, (Obj.mapSeq (fun _ => #[.int (t' + j) s1.toks])) { cls := .type "list", dict := none, data := .seq #[.int t' tA] c, slots := #[] })] σw H { s1.setGen gn gs' with heap := s1.heap.update Z (Obj.mapSeq fun _ => #[.int (t' + j) s1.toks]), toks := s1.toks + 1 } := J2.pins_of fun p hp => by
          rcases List.mem_cons.mp hp with hp | hp
          · exact J2.pin p (List.mem_append_right _ (by rw [hp]; exact List.mem_cons_self))
          · rw [List.mem_singleton.mp hp]
            exact ⟨eZ, pz2, pz3, pz4, fun v q => by cases q⟩
        obtain ⟨m, hm, zz⟩ := kap (t' + j) (({ s1.setGen gn gs' with heap := s1.heap.update Z (Obj.mapSeq fun _ => #[.int (t' + j) s1.toks]), toks := s1.toks + 1 } : Shared).setGen gn .running) ⟨⟨_, inv_setGen J3 rfl, fun b hb => (by
          rcases List.mem_cons.mp hb with hb | hb
          · rw [hb]
            exact ⟨oa, (J3.pin _ (List.mem_append_right _ List.mem_cons_self)).1, List.mem_cons_self⟩
          · rw [List.mem_singleton.mp hb]
            exact ⟨_, eZ, List.mem_cons_of_mem _ List.mem_cons_self⟩)⟩, fun b hb o e => kh b o (fun q => z.zfp (by rw [← q]; exact hb)) e⟩ ⟨s1.toks, _, eZ⟩ nx
        refine ih m (by omega) (t' + j) _ ⟨?_, J3.nolimit, by show gn < (s1.setGen gn gs').gens.size; rw [setGen_sz]; exact hgn1, ⟨s1.toks, _, eZ⟩, gs', setGen_at hgn1, zz⟩
        obtain ⟨o, nm, qn, e, r⟩ := hg1
        exact ⟨o, nm, qn, kh a o (fun q => z.za q.symm) e, r⟩
      · rename_i hneg
        exact absurd hc hneg
    · have et : t' = t := TotAt.inj tq hZ
      subst et
      exact wpAny_pure (hF t' H _ tA (back _ _ _ _ I1) fin)
end

/-! ### the rules -/
/-- all(elt for target in iter if ..) -/
def tAllG (P : Addr) (wi : TI) (g : TG) (tt : TT) (te : TE) (vs : List Nat) : TE := fun σ H Q => wi σ H fun J H1 => GxR.TabG H1 P ∧ ∀ H2, GxR.Tabbed P H1 H2 → ∃ W : Nat → Nat → Unit → Hp → Prop, (∃ m, W 0 m () H2) ∧
  GW J g tt te vs σ W (fun _ y H N => ∃ b, y = .bl b ∧ if b = true then N () H else Q (.bl false) H) (fun _ H => Q (.bl true) H)
def tAnyG (P : Addr) (wi : TI) (g : TG) (tt : TT) (te : TE) (vs : List Nat) : TE := fun σ H Q => wi σ H fun J H1 => GxR.TabG H1 P ∧ ∀ H2, GxR.Tabbed P H1 H2 → ∃ W : Nat → Nat → Unit → Hp → Prop, (∃ m, W 0 m () H2) ∧
  GW J g tt te vs σ W (fun _ y H N => ∃ b, y = .bl b ∧ if b = true then Q (.bl true) H else N () H) (fun _ H => Q (.bl false) H)
def tSumG (P : Addr) (wi : TI) (g : TG) (tt : TT) (te : TE) (vs : List Nat) : TE := fun σ H Q => wi σ H fun J H1 => GxR.TabG H1 P ∧ ∀ H2, GxR.Tabbed P H1 H2 → ∃ W : Nat → Nat → Int → Hp → Prop, (∃ m, W 0 m 0 H2) ∧
  GW J g tt te vs σ W (fun t y H N => ∃ j, y = .int j ∧ (InLong j ∧ InLong (t + j)) ∧ N (t + j) H) (fun t H => Q (.int t) H)
section
variable {X : Cx}
theorem pe_allG {c P : Addr} {elt tg iter : Expr} {ifs : List Expr} {gpos p pos : Pos} {scope : Scope} {own : List (Str × Nat)} {wi : TI} {g : TG} {tt : TT} {te : TE} {k : Nat}
    (hr : Room k X.A) (hc : X.calm = true) (hN : X.N.Nodup) (hgl : Gl X "all") (hm : X.mg "all" = none) (TB : GxR.TabB X.base X.mg c P) (hcode : X.env.code = .ref c) (hi : PI X tg iter wi) (ok : BlkOk X.N X.env.scope scope own) (hcell : ∀ y ∈ scope.names, y.2 ≠ .cell) (hco : scope.isCoroutine = false) (hdot : scope.names.lookup (".0" : Str) = some NameKind.local)
    (hg : ∀ (s : Shared) (H : Hp) (C : Addr) (code : Value) (fp : List Addr), PG (gCx X s H (gEnv X scope C code) fp) tg g) (ht : ∀ (s : Shared) (H : Hp) (C : Addr) (code : Value) (fp : List Addr), PTs (gCx X s H (gEnv X scope C code) fp) ifs tt)
    (he : ∀ (s : Shared) (H : Hp) (C : Addr) (code : Value) (fp : List Addr), PE (gCx X s H (gEnv X scope C code) fp) elt te)
    (hs : ∀ v, genFold iter X.env v = pure v := by intro _; rfl)
    (hb : bootBuiltins "all" = some (.builtin "all") := by decide +kernel)
    (hse : starEach [.GeneratorExp elt [⟨tg, iter, ifs, 0⟩] scope gpos] X.env = (false, eval (.GeneratorExp elt [⟨tg, iter, ifs, 0⟩] scope gpos) X.env) :: starEach [] X.env := by rfl) :
    PE X (.Call (.Name "all" p) [.GeneratorExp elt [⟨tg, iter, ifs, 0⟩] scope gpos] [] pos) (tAllG P wi g tt te (own.map (·.2))) := by
  refine ⟨fun pins s σ H Q I h => ?_⟩
  refine wpAny_Call_Name_kw (ld_blt I hgl hm hb ?_)
  refine PyProof.Rows.callWith_builtin1 ?_ hse (by rfl)
  rw [hse]
  show wpAny _ _ (spliced ((false, eval (.GeneratorExp elt [⟨tg, iter, ifs, 0⟩] scope gpos) X.env) :: backTo pos (starEach [] X.env))) _ _ s
  refine Calls.spliced_cons (gen_make (R := fun _ => True) hr hc hN TB hcode hi ok hcell hco hdot hg ht he hs I h fun X' fp a gn n H2 s5 G e1 e2 => ?_)
  refine Calls.spliced_nil ?_
  refine call_function_tree F.kind_all F.plain_all F.entry_all (F.args_all1 _) ?_
  unfold Builtin.«all»
  refine wpAny_bind (m := oneArg "all" _) (wpAny_pure ?_)
  refine wpAny_bind (wpAny_pyIter_gen G.gen ?_)
  obtain ⟨o, ho, I5⟩ := G.inv
  obtain ⟨gs, hgs, hgoes⟩ := G.goes
  refine wpAny_pure ⟨plainId_quiet F.plain_all_loop _, all_loop (Qf := fun H => Q (.bl false) H) (Fin := fun _ H => Q (.bl true) H) hr G.back (fun H' s' J q => ⟨.bl true, H', J, rfl, q⟩) (fun H' s' J q => ⟨.bl false, H', J, rfl, q⟩) n s5
    ⟨G.gen, I5.nolimit, G.gens, gs, hgs, hgoes [a] (fun _ _ => True) (fun b hb => by rw [List.mem_singleton.mp hb]; exact G.afp) _ ⟨⟨_, inv_setGen I5 rfl, fun b hb => ⟨o, by rw [List.mem_singleton.mp hb]; exact ho, by rw [List.mem_singleton.mp hb]; exact List.mem_cons_self⟩⟩, fun b _ o e => e⟩ trivial⟩⟩

theorem pe_anyG {c P : Addr} {elt tg iter : Expr} {ifs : List Expr} {gpos p pos : Pos} {scope : Scope} {own : List (Str × Nat)} {wi : TI} {g : TG} {tt : TT} {te : TE} {k : Nat}
    (hr : Room k X.A) (hc : X.calm = true) (hN : X.N.Nodup) (hgl : Gl X "any") (hm : X.mg "any" = none) (TB : GxR.TabB X.base X.mg c P) (hcode : X.env.code = .ref c) (hi : PI X tg iter wi) (ok : BlkOk X.N X.env.scope scope own) (hcell : ∀ y ∈ scope.names, y.2 ≠ .cell) (hco : scope.isCoroutine = false) (hdot : scope.names.lookup (".0" : Str) = some NameKind.local)
    (hg : ∀ (s : Shared) (H : Hp) (C : Addr) (code : Value) (fp : List Addr), PG (gCx X s H (gEnv X scope C code) fp) tg g) (ht : ∀ (s : Shared) (H : Hp) (C : Addr) (code : Value) (fp : List Addr), PTs (gCx X s H (gEnv X scope C code) fp) ifs tt)
    (he : ∀ (s : Shared) (H : Hp) (C : Addr) (code : Value) (fp : List Addr), PE (gCx X s H (gEnv X scope C code) fp) elt te)
    (hs : ∀ v, genFold iter X.env v = pure v := by intro _; rfl)
    (hb : bootBuiltins "any" = some (.builtin "any") := by decide +kernel)
    (hse : starEach [.GeneratorExp elt [⟨tg, iter, ifs, 0⟩] scope gpos] X.env = (false, eval (.GeneratorExp elt [⟨tg, iter, ifs, 0⟩] scope gpos) X.env) :: starEach [] X.env := by rfl) :
    PE X (.Call (.Name "any" p) [.GeneratorExp elt [⟨tg, iter, ifs, 0⟩] scope gpos] [] pos) (tAnyG P wi g tt te (own.map (·.2))) := by
  refine ⟨fun pins s σ H Q I h => ?_⟩
  refine wpAny_Call_Name_kw (ld_blt I hgl hm hb ?_)
  refine PyProof.Rows.callWith_builtin1 ?_ hse (by rfl)
  rw [hse]
  show wpAny _ _ (spliced ((false, eval (.GeneratorExp elt [⟨tg, iter, ifs, 0⟩] scope gpos) X.env) :: backTo pos (starEach [] X.env))) _ _ s
  refine Calls.spliced_cons (gen_make (R := fun _ => True) hr hc hN TB hcode hi ok hcell hco hdot hg ht he hs I h fun X' fp a gn n H2 s5 G e1 e2 => ?_)
  refine Calls.spliced_nil ?_
  refine call_function_tree F.kind_any F.plain_any F.entry_any (F.args_any1 _) ?_
  unfold Builtin.«any»
  refine wpAny_bind (m := oneArg "any" _) (wpAny_pure ?_)
  refine wpAny_bind (wpAny_pyIter_gen G.gen ?_)
  obtain ⟨o, ho, I5⟩ := G.inv
  obtain ⟨gs, hgs, hgoes⟩ := G.goes
  refine wpAny_pure ⟨plainId_quiet F.plain_any_loop _, any_loop (Qt := fun H => Q (.bl true) H) (Fin := fun _ H => Q (.bl false) H) hr G.back (fun H' s' J q => ⟨.bl false, H', J, rfl, q⟩) (fun H' s' J q => ⟨.bl true, H', J, rfl, q⟩) n s5
    ⟨G.gen, I5.nolimit, G.gens, gs, hgs, hgoes [a] (fun _ _ => True) (fun b hb => by rw [List.mem_singleton.mp hb]; exact G.afp) _ ⟨⟨_, inv_setGen I5 rfl, fun b hb => ⟨o, by rw [List.mem_singleton.mp hb]; exact ho, by rw [List.mem_singleton.mp hb]; exact List.mem_cons_self⟩⟩, fun b _ o e => e⟩ trivial⟩⟩

theorem pe_sumG {c P : Addr} {elt tg iter : Expr} {ifs : List Expr} {gpos p pos : Pos} {scope : Scope} {own : List (Str × Nat)} {wi : TI} {g : TG} {tt : TT} {te : TE} {k : Nat}
    (hr : Room k X.A) (hc : X.calm = true) (hN : X.N.Nodup) (hgl : Gl X "sum") (hm : X.mg "sum" = none) (TB : GxR.TabB X.base X.mg c P) (hcode : X.env.code = .ref c) (hi : PI X tg iter wi) (ok : BlkOk X.N X.env.scope scope own) (hcell : ∀ y ∈ scope.names, y.2 ≠ .cell) (hco : scope.isCoroutine = false) (hdot : scope.names.lookup (".0" : Str) = some NameKind.local)
    (hg : ∀ (s : Shared) (H : Hp) (C : Addr) (code : Value) (fp : List Addr), PG (gCx X s H (gEnv X scope C code) fp) tg g) (ht : ∀ (s : Shared) (H : Hp) (C : Addr) (code : Value) (fp : List Addr), PTs (gCx X s H (gEnv X scope C code) fp) ifs tt)
    (he : ∀ (s : Shared) (H : Hp) (C : Addr) (code : Value) (fp : List Addr), PE (gCx X s H (gEnv X scope C code) fp) elt te)
    (hs : ∀ v, genFold iter X.env v = pure v := by intro _; rfl)
    (hb : bootBuiltins "sum" = some (.builtin "sum") := by decide +kernel)
    (hse : starEach [.GeneratorExp elt [⟨tg, iter, ifs, 0⟩] scope gpos] X.env = (false, eval (.GeneratorExp elt [⟨tg, iter, ifs, 0⟩] scope gpos) X.env) :: starEach [] X.env := by rfl) :
    PE X (.Call (.Name "sum" p) [.GeneratorExp elt [⟨tg, iter, ifs, 0⟩] scope gpos] [] pos) (tSumG P wi g tt te (own.map (·.2))) := by
  refine ⟨fun pins s σ H Q I h => ?_⟩
  refine wpAny_Call_Name_kw (ld_blt I hgl hm hb ?_)
  refine PyProof.Rows.callWith_builtin1 ?_ hse (by rfl)
  rw [hse]
  show wpAny _ _ (spliced ((false, eval (.GeneratorExp elt [⟨tg, iter, ifs, 0⟩] scope gpos) X.env) :: backTo pos (starEach [] X.env))) _ _ s
  refine Calls.spliced_cons (gen_make (R := fun _ => True) hr hc hN TB hcode hi ok hcell hco hdot hg ht he hs I h fun X' fp a gn n H2 s5 G e1 e2 => ?_)
  refine Calls.spliced_nil ?_
  refine call_function_tree F.kind_sum F.plain_sum F.entry_sum (F.args_sum1 _) ?_
  unfold Builtin.«sum»
  simp only [List.length_cons, List.length_nil]
  rw [if_neg (by decide)]
  refine wpAny_bind (wpAny_of_eq (show Builtin.Builtins.bindParams "sum" ["start"] 0 { } = pure [none] from rfl) ?_)
  refine wpAny_bind (wpAny_pyIter_gen G.gen ?_)
  refine wpAny_bind (wpAny_mkInt ?_)
  refine wpAny_bind (wpAny_pure ?_)
  simp only [List.forIn_cons, List.forIn_nil]
  refine wpAny_bind (wpAny_bind (wpAny_bind (wpAny_isInstance (T := "int") (b := false) (typeIs_int _ _ _) PySem.sub_int_str ?_)))
  simp only [Bool.false_eq_true, if_false]
  refine wpAny_pure (wpAny_bind (wpAny_bind (wpAny_isInstance (T := "int") (b := false) (typeIs_int _ _ _) PySem.sub_int_bytes ?_)))
  simp only [Bool.false_eq_true, if_false]
  refine wpAny_pure (wpAny_bind (wpAny_bind (wpAny_isInstance (T := "int") (b := false) (typeIs_int _ _ _) PySem.sub_int_bytearray ?_)))
  simp only [Bool.false_eq_true, if_false]
  refine wpAny_pure (wpAny_pure ?_)
  refine wpAny_bind (wpAny_newObj_type ?_)
  obtain ⟨o, ho, I5⟩ := G.inv
  obtain ⟨gs, hgs, hgoes⟩ := G.goes
  have zok : ZOk X' fp a s5.heap.objs.size := by
    refine ⟨G.sz, Nat.ne_of_gt G.loc, fun z => Nat.lt_irrefl _ (G.fs _ z), fun x c e => Nat.ne_of_lt (G.cells x c e), Nat.ne_of_gt (Heap.lt_size ho), fun z => Nat.lt_irrefl _ (G.fpl _ z), G.afp, G.pn⟩
  generalize hs6 : ({ s5 with heap := s5.heap.push { cls := .type "list", data := .seq ([Value.int 0 s5.toks] : List Value).toArray }, toks := s5.toks + 1 } : Shared) = s6
  have hh6 : s6.heap = s5.heap.push { cls := .type "list", data := .seq ([Value.int 0 s5.toks] : List Value).toArray } := by rw [← hs6]
  have kp : ∀ b u, s5.heap.get? b = some u → s6.heap.get? b = some u := fun b u e => by rw [hh6]; exact Heap.get?_push_of_some _ e
  have I6 : Inv X' [(a, o)] (wipe σ (own.map (·.2))) H2 s6 := by
    rw [← hs6]
    exact I5.kept (t' := s5.toks + 1) fun b u e => Heap.get?_push_of_some _ e
  have hZ : s6.heap.get? s5.heap.objs.size = some { cls := .type "list", data := .seq ([Value.int 0 s5.toks] : List Value).toArray } := by
    rw [hh6]; exact Heap.get?_push_size _ rfl
  have I7 : Inv X' [(a, o), (s5.heap.objs.size, { cls := .type "list", data := .seq ([Value.int 0 s5.toks] : List Value).toArray })] (wipe σ (own.map (·.2))) H2 s6 := I6.pins_of fun p hp => by
    rcases List.mem_cons.mp hp with hp | hp
    · exact I6.pin p (List.mem_append_right _ (by rw [hp]; exact List.mem_cons_self))
    · rw [List.mem_singleton.mp hp]
      exact ⟨hZ, I5.hok.fresh (Nat.le_refl _), zok.loc, zok.fs, fun v q => by cases q⟩
  have hgn : s6.gens = s5.gens := by rw [← hs6]
  refine wpAny_pure ⟨plainId_quiet F.plain_sum_loop _, ?_⟩
  refine sum_loop (Z := s5.heap.objs.size) (Fin := fun t H => Q (.int t) H) hr zok G.back (fun t H' s' tk J q => ⟨.int t, H', J, ⟨tk, rfl⟩, q⟩) n 0 s6
    ⟨G.gen.keeps kp, I6.nolimit, by rw [hgn]; exact G.gens, ⟨s5.toks, 0, hZ⟩, gs, by rw [hgn]; exact hgs, hgoes [a, s5.heap.objs.size] (TotAt s5.heap.objs.size) (fun b hb => ?_) _ ⟨⟨_, inv_setGen I7 rfl, fun b hb => ?_⟩, fun b _ o e => kp b o e⟩ ⟨s5.toks, 0, hZ⟩⟩
  · rcases List.mem_cons.mp hb with hb | hb
    · rw [hb]; exact G.afp
    · rw [List.mem_singleton.mp hb]; exact zok.zfp
  · rcases List.mem_cons.mp hb with hb | hb
    · rw [hb]
      exact ⟨o, kp _ _ ho, List.mem_cons_self⟩
    · rw [List.mem_singleton.mp hb]
      exact ⟨_, hZ, List.mem_cons_of_mem _ List.mem_cons_self⟩
end
end Sq
set_option Elab.async false
set_option linter.all false
set_option maxRecDepth 100000
set_option maxHeartbeats 2000000
namespace Sq
open PySem PySem.Spec PyProof.Rows L2
/-! ### what stays: all but the objects at S; tables may grow -/
structure Ext (S : List Addr) (H H' : Hp) : Prop where
  keep : ∀ b o, H b = some o → b ∉ S → (∀ ps, o ≠ .tbl ps) → H' b = some o
  tup : ∀ b xs, H b = some (.tup xs) → H' b = some (.tup xs)
  frz : ∀ b o u, H b = some (.frz o u) → H' b = some (.frz o u)
  tab : ∀ P, GxR.TabG H P → GxR.TabG H' P
section
variable {S S' : List Addr} {H H1 H2 H' : Hp} {a p : Addr} {o : HO}
theorem Ext.refl (S : List Addr) (H : Hp) : Ext S H H := ⟨fun _ _ h _ _ => h, fun _ _ h => h, fun _ _ _ h => h, fun _ h => h⟩
theorem Ext.trans (a : Ext S H H1) (b : Ext S H1 H2) : Ext S H H2 :=
  ⟨fun c o h n m => b.keep c o (a.keep c o h n m) n m, fun c o h => b.tup c o (a.tup c o h), fun c o u h => b.frz c o u (a.frz c o u h), fun P h => b.tab P (a.tab P h)⟩
theorem Ext.mono (h : Ext S H H') (s : ∀ b ∈ S, b ∈ S') : Ext S' H H' := ⟨fun b o e n m => h.keep b o e (fun z => n (s b z)) m, h.tup, h.frz, h.tab⟩
theorem Ext.any (h : Ext [] H H') : Ext S H H' := h.mono fun _ z => nomatch z
theorem Ext.new (h : H p = none) : Ext S H (upd H p o) := by
  have k : ∀ b u, H b = some u → upd H p o b = some u := fun b u e => by rw [upd_ne (ne_of_none e h)]; exact e
  exact ⟨fun b u e _ _ => k b u e, fun b u e => k b _ e, fun b u v e => k b _ e, fun P ⟨ps, e, t⟩ => ⟨ps, k P _ e, t⟩⟩
theorem Ext.set {u : HO} (hm : p ∈ S) (hp : H p = some u) (h1 : ∀ xs, u ≠ .tup xs) (h2 : ∀ o v, u ≠ .frz o v) (h3 : ∀ ps, u ≠ .tbl ps) : Ext S H (upd H p o) := by
  have k : ∀ b v, H b = some v → v ≠ u → upd H p o b = some v := fun b v e n => by
    rw [upd_ne fun z => n (by rw [z, hp] at e; exact (Option.some.inj e).symm)]; exact e
  exact ⟨fun b v e n _ => by rw [upd_ne fun z => n (by rw [z]; exact hm)]; exact e, fun b xs e => k b _ e (h1 xs).symm, fun b u v e => k b _ e (h2 u v).symm, fun P ⟨ps, e, t⟩ => ⟨ps, k P _ e (h3 ps).symm, t⟩⟩
theorem Ext.setL {xs : List V} (hm : p ∈ S) (hp : H p = some (.lst xs)) : Ext S H (upd H p o) := Ext.set hm hp (fun _ z => by cases z) (fun _ _ z => by cases z) (fun _ z => by cases z)
theorem Ext.setD {kvs : List (Key × V)} (hm : p ∈ S) (hp : H p = some (.dK kvs)) : Ext S H (upd H p o) := Ext.set hm hp (fun _ z => by cases z) (fun _ _ z => by cases z) (fun _ z => by cases z)
theorem Ext.tabbed (t : GxR.TabG H p) (h : GxR.Tabbed p H H') : Ext S H H' := by
  obtain ⟨ps, e0, _⟩ := t
  have k : ∀ b u, H b = some u → (∀ ps, u ≠ .tbl ps) → H' b = some u := fun b u e n => by
    rw [h.2 b fun z => n ps (by rw [z, e0] at e; exact (Option.some.inj e).symm)]; exact e
  refine ⟨fun b u e _ m => k b u e m, fun b xs e => k b _ e (fun _ z => by cases z), fun b u v e => k b _ e (fun _ z => by cases z), fun P t => ?_⟩
  by_cases hP : P = p
  · rw [hP]; exact h.1
  · obtain ⟨qs, e, t⟩ := t
    exact ⟨qs, by rw [h.2 P hP]; exact e, t⟩
theorem Ext.lst {xs : List V} (h : Ext S H H') (e : H a = some (.lst xs)) (n : a ∉ S) : H' a = some (.lst xs) := h.keep a _ e n fun _ z => by cases z
theorem Ext.dK {xs : List (Key × V)} (h : Ext S H H') (e : H a = some (.dK xs)) (n : a ∉ S) : H' a = some (.dK xs) := h.keep a _ e n fun _ z => by cases z
theorem Ext.lst0 {xs : List V} (h : Ext [] H H') (e : H a = some (.lst xs)) : H' a = some (.lst xs) := h.lst e (fun z => nomatch z)
theorem Ext.dK0 {xs : List (Key × V)} (h : Ext [] H H') (e : H a = some (.dK xs)) : H' a = some (.dK xs) := h.dK e (fun z => nomatch z)
theorem Ext.sqT {K : PySem.W.Frag} {xs : List V} (h : Ext S H H') (e : SqT K H a xs) : SqT K H' a xs := by
  rcases e with (e | ⟨o, e⟩) | e
  · exact .inl (.inl (h.tup _ _ e))
  · exact .inl (.inr ⟨o, h.frz _ _ _ e⟩)
  · exact .inr e
theorem Ext.sqL {K : PySem.W.Frag} {xs : List V} (h : Ext S H H') (e : SqL K H a xs) (n : a ∉ S) : SqL K H' a xs := by
  rcases e with (e | ⟨o, e⟩) | e
  · exact .inl (.inl (h.lst e n))
  · exact .inl (.inr ⟨o, h.frz _ _ _ e⟩)
  · exact .inr e
theorem Ext.sqL0 {K : PySem.W.Frag} {xs : List V} (h : Ext [] H H') (e : SqL K H a xs) : SqL K H' a xs := h.sqL e (fun z => nomatch z)
/-- what is new behind an extension was not there -/
theorem Ext.ne (h : Ext S H H') (e : H a = some o) (n : a ∉ S) (m : ∀ ps, o ≠ .tbl ps) (f : H' p = none) : a ≠ p := ne_of_none (h.keep a o e n m) f
end

/-! ### defs by their names, and their tables -/
abbrev Cal (P : Program) (w : World) (K : PySem.W.Frag) (mg : Str → Option Value) (base : Heap) (k : Nat) (x : Str) (sp : Sp) : Prop := C8.Cal P w K mg base k x sp []
/-- a def that stands under its name -/
structure Dn (K : PySem.W.Frag) (mg : Str → Option Value) (x : Str) (st : Stmt) (f : Addr) (fd : FuncData) (c : Addr) : Prop where
  ex : ∃ (oc : Value) (od : Option Addr) (kV doc pm : Value) (an : Option Addr) (ct : Value) (osl : Array (Option Value)),
    fd = PySem.W.fnOf x x (defArgs st) (defBody st) (defScope st) .none kV doc pm an (.ref c) ct ∧ K.lookup f = some ⟨oc, od, .func fd, osl⟩ ∧ PySem.W.codeIn K (.ref c) x = true
  mgf : mg x = some (.ref f)
  kp : PySem.W.keepIn K (.ref f) = true
section
variable {P : Program} {w : World} {K : PySem.W.Frag} {mg : Str → Option Value} {base : Heap} {x : Str} {st : Stmt} {f c : Addr} {fd : FuncData} {N ps : List Str} {k : Nat} {sp : Sp}
/-- the context of a def's body -/
abbrev CxD (P : Program) (w : World) (K : PySem.W.Frag) (mg : Str → Option Value) (base : Heap) (N : List Str) (x : Str) (st : Stmt) (f c : Addr) (A : Around) (outer : List Env) (s : Shared) (H : Hp) (E : XK) : Cx :=
  (cxOf CX0 P w K mg base N x (defScope st) f (.ref c) A outer s H E).nox
theorem Dn.ok (F : Dn K mg x st f fd c) (S : FnScope N ps (defScope st)) (len : ∀ vs H Q E, sp vs H Q E → vs.length = ps.length)
    (hbody : ∀ (A : Around) (outer : List Env) (s : Shared) (H : Hp) (vs : List V) (Q : VK) (E : XK), Room k (A.deeper (envOfC x (defScope st) s.heap.objs.size f (.ref c))) → sp vs H Q E →
      ∃ t, PSs (CxD P w K mg base N x st f c A outer s H E) (defBody st) t ∧ t { nx := fun _ H' => Q .non H', rt := Q } (start N vs) H) : FnOk P w K mg base CX0 (k + 1) f fd ps sp := by
  obtain ⟨oc, od, kV, doc, pm, an, ct, osl, rfl, lk, hcd⟩ := F.ex
  refine fn_of lk hcd S len fun A outer s H vs Q E hr hsp => ?_
  obtain ⟨t, h, q⟩ := hbody A outer s H vs Q E hr hsp
  exact ⟨t, h.nox, q⟩
/-- how its arguments bind -/
def BindOk (x : Str) (st : Stmt) (ps : List Str) : Prop := ∀ (kV doc pm : Value) (an : Option Addr) (cdv ct : Value) (us : List Value), us.length = ps.length → bindArgs (PySem.W.fnOf x x (defArgs st) (defBody st) (defScope st) .none kV doc pm an cdv ct) ⟨us, []⟩ = pure (ps.zip us)
theorem Dn.binds (F : Dn K mg x st f fd c) (h : BindOk x st ps) : Binds K fd ps [] := by
  obtain ⟨oc, od, kV, doc, pm, an, ct, osl, rfl, lk, hcd⟩ := F.ex
  exact .all (h kV doc pm an (.ref c) ct)
theorem Dn.cal (F : Dn K mg x st f fd c) (hb : BindOk x st ps) (S : FnScope N ps (defScope st)) (len : ∀ vs H Q E, sp vs H Q E → vs.length = ps.length)
    (hbody : ∀ (A : Around) (outer : List Env) (s : Shared) (H : Hp) (vs : List V) (Q : VK) (E : XK), Room k (A.deeper (envOfC x (defScope st) s.heap.objs.size f (.ref c))) → sp vs H Q E →
      ∃ t, PSs (CxD P w K mg base N x st f c A outer s H E) (defBody st) t ∧ t { nx := fun _ H' => Q .non H', rt := Q } (start N vs) H) : Cal P w K mg base (k + 1) x sp :=
  ⟨f, fd, ps, [], F.ok S len hbody, F.mgf, F.kp, F.binds hb, .nil⟩
/-- a def that calls itself: by its depth -/
theorem Dn.calRec {sp : Nat → Sp} (F : Dn K mg x st f fd c) (hb : BindOk x st ps) (h0 : ∀ vs H Q E, ¬ sp 0 vs H Q E) (hs : ∀ k, Cal P w K mg base k x (sp k) → FnOk P w K mg base CX0 (k + 1) f fd ps (sp (k + 1))) :
    ∀ k, Cal P w K mg base k x (sp k)
  | 0 => ⟨f, fd, ps, [], ⟨fun vs H Q E h => absurd h (h0 vs H Q E), fun A outer s H args us vs Q E _ _ _ _ h => absurd h (h0 vs H Q E)⟩, F.mgf, F.kp, F.binds hb, .nil⟩
  | k + 1 => ⟨f, fd, ps, [], hs k (Dn.calRec F hb h0 hs k), F.mgf, F.kp, F.binds hb, .nil⟩
/-- a def that calls itself from a generator expression: two levels each -/
theorem Dn.calRec2 {sp : Nat → Sp} (F : Dn K mg x st f fd c) (hb : BindOk x st ps) (h0 : ∀ vs H Q E, ¬ sp 0 vs H Q E) (h1 : ∀ vs H Q E, ¬ sp 1 vs H Q E) (hs : ∀ k, Cal P w K mg base k x (sp k) → FnOk P w K mg base CX0 (k + 2) f fd ps (sp (k + 2))) :
    ∀ k, Cal P w K mg base k x (sp k)
  | 0 => ⟨f, fd, ps, [], ⟨fun vs H Q E h => absurd h (h0 vs H Q E), fun A outer s H args us vs Q E _ _ _ _ h => absurd h (h0 vs H Q E)⟩, F.mgf, F.kp, F.binds hb, .nil⟩
  | 1 => ⟨f, fd, ps, [], ⟨fun vs H Q E h => absurd h (h1 vs H Q E), fun A outer s H args us vs Q E _ _ _ _ h => absurd h (h1 vs H Q E)⟩, F.mgf, F.kp, F.binds hb, .nil⟩
  | k + 2 => ⟨f, fd, ps, [], hs k (Dn.calRec2 F hb h0 h1 hs k), F.mgf, F.kp, F.binds hb, .nil⟩
end
theorem Room.gen {A : Around} {k : Nat} {cenv : Env} (h : Room (k + 1) A) : Room k (A.in1.in1.deeper cenv) :=
  ⟨h.hd, by have := h.dp; show A.depth + 1 + 3 * k + 5 < _; omega, by have := h.un; show A.units + 1 + 1 + 3 + 16 * k + 200 < _; omega⟩
theorem Cal.mono {P : Program} {w : World} {K : PySem.W.Frag} {mg : Str → Option Value} {base : Heap} {j k : Nat} {x : Str} {sp : Sp} (h : Cal P w K mg base j x sp) (hk : j ≤ k) : Cal P w K mg base k x sp := by
  obtain ⟨f, fd, ps, ds, F, r⟩ := h
  exact ⟨f, fd, ps, ds, ⟨F.len, fun A outer s H args us vs Q E hr => F.run A outer s H args us vs Q E (hr.mono hk)⟩, r⟩
end Sq
set_option Elab.async false
set_option linter.all false
set_option maxRecDepth 100000
set_option maxHeartbeats 2000000
namespace Sq
open PySem PySem.Spec PyProof.Rows L2
/-! ### the items of a tuple, as a function -/
def WrT (K : PySem.W.Frag) (a : Addr) (xs : List V) : Prop := ∃ (o : Obj) (its : Array Value) (n : Nat), K.lookup a = some o ∧ o.cls = .type "tuple" ∧ o.data = .seq its n ∧ its.size ≤ sizeLine ∧ Vals xs its.toList
theorem WrT.inj {K : PySem.W.Frag} {a : Addr} {xs ys : List V} (h : WrT K a xs) (h' : WrT K a ys) : xs = ys := by
  obtain ⟨o, its, n, e, _, d, _, r⟩ := h
  obtain ⟨o', its', n', e', _, d', _, r'⟩ := h'
  rw [e] at e'; cases e'
  rw [d] at d'; cases d'
  exact r.inj r'
open Classical in
noncomputable def tupF (K : PySem.W.Frag) (H : Hp) (a : Addr) : Option (List V) :=
  if h : ∃ xs, WrT K a xs then some (Classical.choose h) else match H a with
    | some (.tup xs) => some xs
    | some (.frz _ (.tup xs)) => some xs
    | _ => none
theorem tupF_wr {K : PySem.W.Frag} {H : Hp} {a : Addr} {xs : List V} (h : WrT K a xs) : tupF K H a = some xs := by
  have hx : ∃ xs, WrT K a xs := ⟨xs, h⟩
  unfold tupF
  rw [dif_pos hx]
  exact congrArg some ((Classical.choose_spec hx).inj h)
theorem tupF_sq {K : PySem.W.Frag} {H : Hp} {a : Addr} {xs : List V} (h : tupF K H a = some xs) : SqT K H a xs := by
  unfold tupF at h
  split at h
  · rename_i hx
    cases h
    exact .inr (Classical.choose_spec hx)
  · split at h
    · rename_i e; cases h; exact .inl (.inl e)
    · rename_i o _ e; cases h; exact .inl (.inr ⟨o, e⟩)
    · cases h
theorem tupF_ext {K : PySem.W.Frag} {S : List Addr} {H H' : Hp} {a : Addr} {xs : List V} (e : Ext S H H') (h : tupF K H a = some xs) : tupF K H' a = some xs := by
  unfold tupF at h ⊢
  split at h
  · rename_i hx
    rw [dif_pos hx]; exact h
  · rename_i hx
    rw [dif_neg hx]
    split at h
    · rename_i q; cases h; rw [e.tup _ _ q]
    · rename_i q; cases h; rw [e.frz _ _ _ q]
    · cases h
theorem tupF_at {K : PySem.W.Frag} {H : Hp} {p : Addr} {xs : List V} (n : K.lookup p = none) (e : H p = some (.tup xs)) : tupF K H p = some xs := by
  unfold tupF
  rw [dif_neg (fun ⟨ys, o, its, k, h, _⟩ => by rw [n] at h; cases h), e]
/-- a new tuple -/
theorem tupF_new {K : PySem.W.Frag} {H : Hp} {p : Addr} {xs : List V} (n : ∀ ys, ¬ WrT K p ys) : tupF K (upd H p (.tup xs)) p = some xs := by
  unfold tupF
  rw [dif_neg (fun ⟨ys, h⟩ => n ys h), upd_same]

/-! ### data of tuples: it never changes -/
mutual
inductive Td (K : PySem.W.Frag) (H : Hp) : V → PyData → Prop
  | non : Td K H .non .none
  | bl (b : Bool) : Td K H (.bl b) (.bool b)
  | int (i : Int) : Td K H (.int i) (.int i)
  | str (x : Str) : Td K H (.str x) (.str x)
  | tup {a : Addr} {xs : List V} {ds : List PyData} : tupF K H a = some xs → TdAll K H xs ds → Td K H (.ref a) (.tuple ds)
inductive TdAll (K : PySem.W.Frag) (H : Hp) : List V → List PyData → Prop
  | nil : TdAll K H [] []
  | cons {v : V} {vs : List V} {d : PyData} {ds : List PyData} : Td K H v d → TdAll K H vs ds → TdAll K H (v :: vs) (d :: ds)
end
mutual
theorem Td.ext {K : PySem.W.Frag} {S : List Addr} {H H' : Hp} {v : V} {d : PyData} (e : Ext S H H') : Td K H v d → Td K H' v d
  | .non => .non
  | .bl b => .bl b
  | .int i => .int i
  | .str x => .str x
  | .tup h r => .tup (tupF_ext e h) (TdAll.ext e r)
theorem TdAll.ext {K : PySem.W.Frag} {S : List Addr} {H H' : Hp} {vs : List V} {ds : List PyData} (e : Ext S H H') : TdAll K H vs ds → TdAll K H' vs ds
  | .nil => .nil
  | .cons h r => .cons (Td.ext e h) (TdAll.ext e r)
end
mutual
theorem Td.dp {K : PySem.W.Frag} {H : Hp} {v : V} {d : PyData} : Td K H v d → Dp K H v d
  | .non => .non
  | .bl b => .bl b
  | .int i => .int i
  | .str x => .str x
  | .tup h r => .tup (tupF_sq h) (TdAll.dp r)
theorem TdAll.dp {K : PySem.W.Frag} {H : Hp} {vs : List V} {ds : List PyData} : TdAll K H vs ds → DpAll K H vs ds
  | .nil => .nil
  | .cons h r => .cons (Td.dp h) (TdAll.dp r)
end
theorem TdAll.length {K : PySem.W.Frag} {H : Hp} : ∀ {vs : List V} {ds : List PyData}, TdAll K H vs ds → vs.length = ds.length
  | _, _, .nil => rfl
  | _, _, .cons _ r => congrArg Nat.succ r.length
theorem TdAll.get {K : PySem.W.Frag} {H : Hp} : ∀ {vs : List V} {ds : List PyData} {i : Nat} {v : V}, TdAll K H vs ds → vs[i]? = some v → ∃ d, ds[i]? = some d ∧ Td K H v d
  | _, _, 0, _, .cons h _, e => ⟨_, rfl, by cases e; exact h⟩
  | _, _, _ + 1, _, .cons _ r, e => r.get (by simpa using e)
theorem TdAll.getD {K : PySem.W.Frag} {H : Hp} : ∀ {vs : List V} {ds : List PyData} {i : Nat} {d : PyData}, TdAll K H vs ds → ds[i]? = some d → ∃ v, vs[i]? = some v ∧ Td K H v d
  | _, _, 0, _, .cons h _, e => ⟨_, rfl, by cases e; exact h⟩
  | _, _, _ + 1, _, .cons _ r, e => r.getD (by simpa using e)
theorem TdAll.append {K : PySem.W.Frag} {H : Hp} : ∀ {vs ws : List V} {ds es : List PyData}, TdAll K H vs ds → TdAll K H ws es → TdAll K H (vs ++ ws) (ds ++ es)
  | _, _, _, _, .nil, s => s
  | _, _, _, _, .cons h r, s => .cons h (r.append s)
theorem TdAll.drop {K : PySem.W.Frag} {H : Hp} : ∀ (n : Nat) {vs : List V} {ds : List PyData}, TdAll K H vs ds → TdAll K H (vs.drop n) (ds.drop n)
  | 0, _, _, r => r
  | _ + 1, _, _, .nil => .nil
  | n + 1, _, _, .cons _ r => r.drop n
theorem TdAll.take {K : PySem.W.Frag} {H : Hp} : ∀ (n : Nat) {vs : List V} {ds : List PyData}, TdAll K H vs ds → TdAll K H (vs.take n) (ds.take n)
  | 0, _, _, _ => .nil
  | _ + 1, _, _, .nil => .nil
  | n + 1, _, _, .cons h r => .cons h (r.take n)
theorem TdAll.snoc {K : PySem.W.Frag} {H : Hp} {vs : List V} {ds : List PyData} {v : V} {d : PyData} (r : TdAll K H vs ds) (h : Td K H v d) : TdAll K H (vs ++ [v]) (ds ++ [d]) := r.append (.cons h .nil)
/-- what is written is not tracked -/
def NK (K : PySem.W.Frag) (H : Hp) : Prop := ∀ b o, K.lookup b = some o → H b = none
theorem inv_nk {X : Cx} {pins : List (Addr × Obj)} {σ : L2.St} {H : Hp} {s : Shared} (I : Inv X pins σ H s) : NK X.K H := fun b o e => (I.bs b o (I.ok.mod.kin b o e)).2
theorem NK.at {K : PySem.W.Frag} {H : Hp} {p : Addr} {o : HO} (n : NK K H) (e : H p = some o) : K.lookup p = none := by
  cases h : K.lookup p with
  | none => rfl
  | some u => rw [n p u h] at e; cases e
theorem ep_nk {X : Cx} {pins : List (Addr × Obj)} {σ : L2.St} {Q : VK} {u : Value} {s : Shared} (h : EP X pins σ (fun v H => NK X.K H → Q v H) u s) : EP X pins σ Q u s :=
  let ⟨v, H, I, r, q⟩ := h; ⟨v, H, I, r, q (inv_nk I)⟩
theorem PE.nk {X : Cx} {e : Expr} {t : TE} (h : PE X e t) : PE X e (fun σ H Q => t σ H fun v H' => NK X.K H' → Q v H') :=
  ⟨fun pins s σ H Q I q => thn (h.run pins s σ H _ I q) fun _ _ x => ep_nk x⟩
theorem OpR.nk {X : Cx} {f : Value → Value → Sem Value} {r : R2} (h : OpR X f r) : OpR X f (fun x y H Q => r x y H fun v H' => NK X.K H' → Q v H') :=
  fun pins s σ H x y v u Q I rx ry q => thn (h pins s σ H x y v u _ I rx ry q) fun _ _ x => ep_nk x
theorem CallR.nk {X : Cx} {f : Value} {r : List V → Hp → VK → Prop} (h : CallR X f r) : CallR X f (fun xs H Q => r xs H fun v H' => NK X.K H' → Q v H') :=
  fun pins s σ H xs us Q I rx q => thn (h pins s σ H xs us _ I rx q) fun _ _ x => ep_nk x
theorem SlR.nk {X : Cx} {r : V → Option Int → Option Int → Hp → VK → Prop} (h : SlR X r) : SlR X (fun x lo hi H Q => r x lo hi H fun v H' => NK X.K H' → Q v H') :=
  fun pins s σ H x v vl vu lo hi sl Q I rx hs pl pu q => by
    obtain ⟨T, id, e1, e2, e3⟩ := h pins s σ H x v vl vu lo hi sl _ I rx hs pl pu q
    exact ⟨T, id, e1, e2, thn e3 fun _ _ x => ep_nk x⟩
theorem MtR.nk {X : Cx} {id : String} {r : V → List V → Hp → VK → Prop} (h : MtR X id r) : MtR X id (fun x xs H Q => r x xs H fun v H' => NK X.K H' → Q v H') :=
  fun pins s σ H x xs v us Q I rx rv q => thn (h pins s σ H x xs v us _ I rx rv q) fun _ _ x => ep_nk x

/-! ### rules that speak of tupF, of what stays, of tracked lists -/
section
variable {X : Cx}
/-- (a, b, ..) -/
def tTupF (K : PySem.W.Frag) (t : TA) : TE := fun σ H Q => t σ H fun xs H1 => xs.length ≤ sizeLine ∧ ∀ p H2, Ext [] H1 H2 → tupF K H2 p = some xs → Q (.ref p) H2
theorem pe_tupF {es : List Expr} {x1 : Nat} {pos : Pos} {t : TA} (h : PA X es t) : PE X (.Tuple es x1 pos) (tTupF X.K t) := by
  refine ⟨fun pins s σ H Q I hq => ?_⟩
  refine wpAny_Tuple_spliced (thn (h.run pos pins s σ H _ I hq) fun us s1 ⟨xs, H1, I1, r, z, q⟩ => ⟨by rw [← r.length]; exact z, ?_⟩)
  have hf : H1 s1.heap.objs.size = none := I1.hok.fresh (Nat.le_refl _)
  refine ep_nk ⟨.ref s1.heap.objs.size, upd H1 s1.heap.objs.size (.tup xs), I1.laid (t' := s1.toks) (fun b u e => Heap.get?_push_of_some _ e) (Nat.le_refl _) ?_, rfl, fun n => q _ _ (Ext.new hf) (tupF_at (NK.at n upd_same) upd_same)⟩
  exact ⟨z, us, r, ⟨_, Heap.get?_push_size _ rfl, rfl, _, rfl⟩⟩
/-- [a, b, ..] -/
def tLstF (t : TA) : TE := fun σ H Q => t σ H fun xs H1 => xs.length ≤ sizeLine ∧ ∀ p H2, H1 p = none → Ext [] H1 H2 → H2 p = some (.lst xs) → Q (.ref p) H2
theorem pe_lstF {es : List Expr} {pos : Pos} {t : TA} (h : PA X es t) : PE X (.List es pos) (tLstF t) := by
  refine ⟨fun pins s σ H Q I hq => ?_⟩
  refine wpAny_List_spliced (thn (h.run pos pins s σ H _ I hq) fun us s1 ⟨xs, H1, I1, r, z, q⟩ => ⟨by rw [← r.length]; exact z, ?_⟩)
  have hf : H1 s1.heap.objs.size = none := I1.hok.fresh (Nat.le_refl _)
  refine ⟨.ref s1.heap.objs.size, upd H1 s1.heap.objs.size (.lst xs), I1.laid (t' := s1.toks) (fun b u e => Heap.get?_push_of_some _ e) (Nat.le_refl _) ?_, rfl, q _ _ hf (Ext.new hf) upd_same⟩
  exact ⟨z, us, 0, r, Heap.get?_push_size _ rfl⟩
/-- t[i], xs[i] -/
def rIxF (K : PySem.W.Frag) : R2 := fun x y H Q => ∃ p xs i v, x = .ref p ∧ y = .int i ∧ tupF K H p = some xs ∧ atI xs i = some v ∧ Q v H
theorem ix_tupF : IxR X (rIxF X.K) := fun value slice pins s σ H x y v u Q I rx ry ⟨p, xs, i, z, e1, e2, h, e3, q⟩ hs => ix_tup value slice pins s σ H x y v u Q I rx ry ⟨p, xs, i, z, e1, e2, tupF_sq h, e3, q⟩ hs
def rIxG : R2 := fun x y H Q => ∃ p xs i v, x = .ref p ∧ y = .int i ∧ H p = some (.lst xs) ∧ atI xs i = some v ∧ Q v H
theorem ix_lstF : IxR X rIxG := fun value slice pins s σ H x y v u Q I rx ry ⟨p, xs, i, z, e1, e2, h, e3, q⟩ hs => ix_list value slice pins s σ H x y v u Q I rx ry ⟨p, xs, i, z, e1, e2, SqL.of h, e3, q⟩ hs
/-- xs[i] = v -/
def rSetF : V → V → V → Hp → (Hp → Prop) → Prop := fun o i v H Q => ∃ p xs k j, o = .ref p ∧ i = .int k ∧ H p = some (.lst xs) ∧ ixN xs.length k = some j ∧ ∀ H2, Ext [p] H H2 → H2 p = some (.lst (xs.set j v)) → Q H2
theorem set_lstF : PSet X rSetF := fun pins s σ H o i v ov iv u Q I ro ri rv ⟨p, xs, k, j, e1, e2, h, e3, q⟩ => set_list pins s σ H o i v ov iv u Q I ro ri rv ⟨p, xs, k, j, e1, e2, h, e3, q _ (Ext.setL List.mem_cons_self h) upd_same⟩
/-- t[lo:hi] -/
def rSlF (K : PySem.W.Frag) : V → Option Int → Option Int → Hp → VK → Prop := fun x lo hi H Q => ∃ a xs, x = .ref a ∧ tupF K H a = some xs ∧ ∀ p H2, Ext [] H H2 → tupF K H2 p = some (cutV xs lo hi) → Q (.ref p) H2
theorem cutV_whole {xs : List V} {lo hi : Option Int} (h : HT.sIx xs.length 0 lo = 0 ∧ HT.sIx xs.length xs.length hi = xs.length) : cutV xs lo hi = xs := by
  unfold cutV
  rw [h.1, h.2, List.drop_zero, Nat.sub_zero, List.take_length]
theorem sl_tupF : SlR X (rSlF X.K) := fun pins s σ H x v vl vu lo hi sl Q I rx hs pl pu ⟨a, xs, e1, h, q⟩ =>
  (SlR.nk sl_tupA) pins s σ H x v vl vu lo hi sl Q I rx hs pl pu ⟨a, xs, e1, tupF_sq h, fun hw _ => q a H (Ext.refl _ _) (by rw [cutV_whole hw]; exact h), fun _ p hp n => q p _ (Ext.new hp) (tupF_at (NK.at n upd_same) upd_same)⟩
/-- t + u -/
def rCatF (K : PySem.W.Frag) : R2 := fun x y H Q => ∃ a b xs ys, x = .ref a ∧ y = .ref b ∧ tupF K H a = some xs ∧ tupF K H b = some ys ∧ xs.length + ys.length ≤ sizeLine ∧ ∀ p H2, Ext [] H H2 → tupF K H2 p = some (xs ++ ys) → Q (.ref p) H2
theorem op_catF : OpR X (binaryOp .Add) (rCatF X.K) := fun pins s σ H x y v u Q I rx ry ⟨a, b, xs, ys, e1, e2, ha, hb, hz, q⟩ =>
  (OpR.nk op_catA) pins s σ H x y v u Q I rx ry ⟨a, b, xs, ys, e1, e2, tupF_sq ha, tupF_sq hb, hz, fun h0 _ => q b H (Ext.refl _ _) (by rw [h0]; exact hb), fun _ h0 _ => q a H (Ext.refl _ _) (by rw [h0, List.append_nil]; exact ha), fun _ _ p hp n => q p _ (Ext.new hp) (tupF_at (NK.at n upd_same) upd_same)⟩
/-- xs + ys -/
def rCatL : R2 := fun x y H Q => ∃ l b xs zs, x = .ref l ∧ y = .ref b ∧ H l = some (.lst xs) ∧ H b = some (.lst zs) ∧ xs.length + zs.length ≤ sizeLine ∧ ∀ p H2, H p = none → Ext [] H H2 → H2 p = some (.lst (xs ++ zs)) → Q (.ref p) H2
theorem op_catL : OpR X (binaryOp .Add) rCatL := fun pins s σ H x y v u Q I rx ry ⟨a, b, xs, ys, e1, e2, ha, hb, hz, q⟩ => op_cat pins s σ H x y v u Q I rx ry ⟨a, b, xs, ys, e1, e2, ha, hb, hz, fun p hp => q p _ hp (Ext.new hp) upd_same⟩
/-- tuple(a list) -/
def rTupL (K : PySem.W.Frag) : List V → Hp → VK → Prop := fun xs H Q => ∃ p ys, xs = [.ref p] ∧ H p = some (.lst ys) ∧ ∀ q H2, Ext [] H H2 → tupF K H2 q = some ys → Q (.ref q) H2
theorem call_tupleL : CallR X (.type "tuple") (rTupL X.K) := fun pins s σ H xs us Q I r ⟨p, ys, e, h, q⟩ =>
  (CallR.nk call_tuple_of) pins s σ H xs us Q I r ⟨p, ys, e, .inl ⟨SqL.of h, fun l hl n => q l _ (Ext.new hl) (tupF_at (NK.at n upd_same) upd_same)⟩⟩
/-- list(a tuple), list(a list) -/
def rListT (K : PySem.W.Frag) : List V → Hp → VK → Prop := fun xs H Q => ∃ p ys, xs = [.ref p] ∧ tupF K H p = some ys ∧ ∀ q H2, H q = none → Ext [] H H2 → H2 q = some (.lst ys) → Q (.ref q) H2
theorem call_listT : CallR X (.type "list") (rListT X.K) := fun pins s σ H xs us Q I r ⟨p, ys, e, h, q⟩ => call_list_of pins s σ H xs us Q I r ⟨p, ys, e, .inr (tupF_sq h), fun l hl => q l _ hl (Ext.new hl) upd_same⟩
def rListL : List V → Hp → VK → Prop := fun xs H Q => ∃ p ys, xs = [.ref p] ∧ H p = some (.lst ys) ∧ ∀ q H2, H q = none → Ext [] H H2 → H2 q = some (.lst ys) → Q (.ref q) H2
theorem call_listL : CallR X (.type "list") rListL := fun pins s σ H xs us Q I r ⟨p, ys, e, h, q⟩ => call_list_of pins s σ H xs us Q I r ⟨p, ys, e, .inl (SqL.of h), fun l hl => q l _ hl (Ext.new hl) upd_same⟩
/-- len -/
def rLenT (K : PySem.W.Frag) : List V → Hp → VK → Prop := fun xs H Q => ∃ p ys, xs = [.ref p] ∧ tupF K H p = some ys ∧ Q (.int ys.length) H
theorem call_lenT : CallR X (.builtin "len") (rLenT X.K) := fun pins s σ H xs us Q I r ⟨p, ys, e, h, q⟩ => call_len_seq pins s σ H xs us Q I r ⟨p, ys, e, .inr (tupF_sq h), q⟩
def rLenL : List V → Hp → VK → Prop := fun xs H Q => ∃ p ys, xs = [.ref p] ∧ H p = some (.lst ys) ∧ Q (.int ys.length) H
theorem call_lenL : CallR X (.builtin "len") rLenL := fun pins s σ H xs us Q I r ⟨p, ys, e, h, q⟩ => call_len_seq pins s σ H xs us Q I r ⟨p, ys, e, .inl (SqL.of h), q⟩
/-- a, b = t -/
def gTupF (K : PySem.W.Frag) (n : Nat) (t : TGs) : TG := fun v σ H Q => ∃ a xs, v = .ref a ∧ tupF K H a = some xs ∧ xs.length = n ∧ t xs σ H Q
theorem pg_tupF {es : List Expr} {k : Nat} {pos : Pos} {t : TGs} {n : Nat} (hc : X.calm = true) (h : PGs X es t)
    (hn : (assignEach es X.env).length = n := by rfl) (hst : (assignEach es X.env).findIdx? (·.1) = none := by rfl) : PG X (.Tuple es k pos) (gTupF X.K n t) :=
  ⟨fun pins s σ H v u Q I r ⟨a, xs, e1, hq, hl, hw⟩ => (pg_tup hc h hn hst).run pins s σ H v u Q I r ⟨a, xs, e1, tupF_sq hq, hl, hw⟩⟩
/-- a tuple is walked -/
def iTupF (K : PySem.W.Frag) (tl : TE) : TI := fun σ H R => tl σ H fun x H1 => ∃ a xs, x = .ref a ∧ tupF K H1 a = some xs ∧ R (Itt K a) H1
theorem pi_tupF {tg l : Expr} {tl : TE} (hl : PE X l tl) : PI X tg l (iTupF X.K tl) := by
  refine ⟨fun pins s σ H R I h => ?_⟩
  refine thn (hl.run pins s σ H _ I h) fun v s1 ⟨x, H1, I1, r1, q1⟩ => ?_
  obtain ⟨a, xs, e, hq, q⟩ := q1
  subst e
  cases r1
  obtain ⟨its, rv, p, hz⟩ := I1.tuple (tupF_sq hq)
  refine wpAny_pyIter_tuple (show s1.heap.IsTuple a its.toArray from p) ?_
  refine ⟨s1.heap.objs.size, [s1.heap.objs.size], _, _, H1, rfl, I1.kept (t' := s1.toks) fun b o e => Heap.get?_push_of_some _ e, turn_tuple a _, ⟨_, Heap.get?_push_size _ rfl, rfl, rfl⟩, fun b hb => ?_, q⟩
  have e : b = s1.heap.objs.size := by simpa using hb
  subst e
  exact I1.fpOk (Nat.le_refl _) (I1.hok.fresh (Nat.le_refl _))
/-- a list is walked -/
def iLstF (tl : TE) : PySem.W.Frag → TI := fun K σ H R => tl σ H fun x H1 => ∃ a xs, x = .ref a ∧ H1 a = some (.lst xs) ∧ R (Itl K a) H1
theorem pi_lstF {tg l : Expr} {tl : TE} (hl : PE X l tl) : PI X tg l (iLstF tl X.K) := by
  refine ⟨fun pins s σ H R I h => ?_⟩
  refine thn (hl.run pins s σ H _ I h) fun v s1 ⟨x, H1, I1, r1, q1⟩ => ?_
  obtain ⟨a, xs, e, hq, q⟩ := q1
  subst e
  cases r1
  obtain ⟨its, rv, p, hz⟩ := I1.list (SqL.of hq)
  refine wpAny_pyIter_list p.isList ?_
  refine ⟨s1.heap.objs.size, [s1.heap.objs.size], _, _, H1, rfl, I1.kept (t' := s1.toks) fun b o e => Heap.get?_push_of_some _ e, turn_list a _, ⟨_, Heap.get?_push_size _ rfl, rfl, rfl⟩, fun b hb => ?_, q⟩
  have e : b = s1.heap.objs.size := by simpa using hb
  subst e
  exact I1.fpOk (Nat.le_refl _) (I1.hok.fresh (Nat.le_refl _))
/-- xs.append(y), xs.extend(ys), xs.pop() -/
def rAppF : V → List V → Hp → VK → Prop := fun x vs H Q => ∃ l xs y, x = .ref l ∧ vs = [y] ∧ H l = some (.lst xs) ∧ xs.length < sizeLine ∧ ∀ H2, Ext [l] H H2 → H2 l = some (.lst (xs ++ [y])) → Q .non H2
theorem mt_appF : MtM X "list.append" rAppF := fun pins s σ H x xs v us Q I rx rv ⟨l, ys, y, e1, e2, h, hz, q⟩ => mt_append pins s σ H x xs v us Q I rx rv ⟨l, ys, y, e1, e2, h, hz, q _ (Ext.setL List.mem_cons_self h) upd_same⟩
def rExtF : V → List V → Hp → VK → Prop := fun x vs H Q => ∃ l b xs zs, x = .ref l ∧ vs = [.ref b] ∧ H l = some (.lst xs) ∧ H b = some (.lst zs) ∧ xs.length + zs.length ≤ sizeLine ∧ ∀ H2, Ext [l] H H2 → H2 l = some (.lst (xs ++ zs)) → Q .non H2
theorem mt_extF : MtM X "list.extend" rExtF := fun pins s σ H x xs v us Q I rx rv ⟨l, b, ys, zs, e1, e2, h, hb, hz, q⟩ => mt_extend pins s σ H x xs v us Q I rx rv ⟨l, b, ys, zs, e1, e2, h, hb, hz, q _ (Ext.setL List.mem_cons_self h) upd_same⟩
def rPopF : V → List V → Hp → VK → Prop := fun x vs H Q => ∃ l xs y, x = .ref l ∧ vs = [] ∧ H l = some (.lst xs) ∧ xs[xs.length - 1]? = some y ∧ ∀ H2, Ext [l] H H2 → H2 l = some (.lst xs.dropLast) → Q y H2
theorem mt_popF : MtM X "list.pop" rPopF := fun pins s σ H x xs v us Q I rx rv ⟨l, ys, y, e1, e2, h, hy, q⟩ => mt_pop pins s σ H x xs v us Q I rx rv ⟨l, ys, y, e1, e2, h, hy, q _ (Ext.setL List.mem_cons_self h) upd_same⟩
theorem tyV_lst {K : PySem.W.Frag} {H : Hp} {p : Addr} {xs : List V} (h : H p = some (.lst xs)) : tyV K "list" (.ref p) H := .inl ⟨rfl, _, SqL.of h⟩
/-- a == b, a != b of data of tuples -/
def rEqF (K : PySem.W.Frag) (neg : Bool) : R2 := fun x y H Q => ∃ d e, Td K H x d ∧ Td K H y e ∧ SeqAt.shaped d = true ∧ SeqAt.shaped e = true ∧ Q (.bl (if neg then !PyData.eqv d e else PyData.eqv d e)) H
theorem op_eqF (hu : X.A.units + 64 < cLine) : OpR X (compareOp .Eq) (rEqF X.K false) := fun pins s σ H x y v u Q I rx ry ⟨d, e, h1, h2, h3, h4, q⟩ => op_eqD hu pins s σ H x y v u Q I rx ry ⟨d, e, h1.dp, h2.dp, h3, h4, q⟩
theorem op_neF (hu : X.A.units + 64 < cLine) : OpR X (compareOp .NotEq) (rEqF X.K true) := fun pins s σ H x y v u Q I rx ry ⟨d, e, h1, h2, h3, h4, q⟩ => op_neD hu pins s σ H x y v u Q I rx ry ⟨d, e, h1.dp, h2.dp, h3, h4, q⟩
end
end Sq
set_option Elab.async false
set_option linter.all false
set_option maxRecDepth 100000
set_option maxHeartbeats 2000000
namespace Sq
open PySem PySem.Spec PyProof.Rows L2
/-! ### small equivalences for readings -/
theorem ex1 {α : Type} {a : α} {p : α → Prop} : (∃ x, a = x ∧ p x) ↔ p a := ⟨fun ⟨x, e, h⟩ => e ▸ h, fun h => ⟨a, rfl, h⟩⟩
theorem ex1' {α : Type} {a : α} {p : α → Prop} : (∃ x, x = a ∧ p x) ↔ p a := ⟨fun ⟨x, e, h⟩ => e ▸ h, fun h => ⟨a, rfl, h⟩⟩
theorem exI {a : Int} {p : Int → Prop} : (∃ x, V.int a = V.int x ∧ p x) ↔ p a := ⟨fun ⟨x, e, h⟩ => by cases e; exact h, fun h => ⟨a, rfl, h⟩⟩
theorem exI2 {a b : Int} {p : Int → Int → Prop} : (∃ x y, V.int a = V.int x ∧ V.int b = V.int y ∧ p x y) ↔ p a b := ⟨fun ⟨x, y, e, e', h⟩ => by cases e; cases e'; exact h, fun h => ⟨a, b, rfl, rfl, h⟩⟩
theorem exB {a : Bool} {p : Bool → Prop} : (∃ x, V.bl a = V.bl x ∧ p x) ↔ p a := ⟨fun ⟨x, e, h⟩ => by cases e; exact h, fun h => ⟨a, rfl, h⟩⟩
theorem exS {a : Str} {p : Str → Prop} : (∃ x, V.str a = V.str x ∧ p x) ↔ p a := ⟨fun ⟨x, e, h⟩ => by cases e; exact h, fun h => ⟨a, rfl, h⟩⟩
theorem exR {a : Addr} {p : Addr → Prop} : (∃ x, V.ref a = V.ref x ∧ p x) ↔ p a := ⟨fun ⟨x, e, h⟩ => by cases e; exact h, fun h => ⟨a, rfl, h⟩⟩
theorem exSl {v : V} {p : V → Prop} : (∃ x, some (some v) = some (some x) ∧ p x) ↔ p v := ⟨fun ⟨x, e, h⟩ => by cases e; exact h, fun h => ⟨v, rfl, h⟩⟩
section
variable {α : Type} {a b c d : α} {r : List α}
theorem at_ix {xs : List α} {k : Nat} (h : k < xs.length) : atI xs ((k : Nat) : Int) = xs[k]? := by
  unfold atI ixN
  rw [if_pos (by omega), if_pos (by omega)]
  rfl
theorem atI_0 : atI (a :: r) (0 : Int) = some a := at_ix (k := 0) (by simp)
theorem atI_1 : atI (a :: b :: r) (1 : Int) = some b := at_ix (k := 1) (by simp)
theorem atI_2 : atI (a :: b :: c :: r) (2 : Int) = some c := at_ix (k := 2) (by simp)
theorem atI_3 : atI (a :: b :: c :: d :: r) (3 : Int) = some d := at_ix (k := 3) (by simp)
theorem ixN_k {n k : Nat} (h : k < n) : ixN n ((k : Nat) : Int) = some k := by
  unfold ixN
  rw [if_pos (by omega), if_pos (by omega)]
  rfl
theorem ixN_0 {n : Nat} : ixN (n + 1) (0 : Int) = some 0 := ixN_k (k := 0) (by omega)
theorem ixN_1 {n : Nat} : ixN (n + 1 + 1) (1 : Int) = some 1 := ixN_k (k := 1) (by omega)
theorem ixN_2 {n : Nat} : ixN (n + 1 + 1 + 1) (2 : Int) = some 2 := ixN_k (k := 2) (by omega)
end
theorem cutV_from {xs : List V} {k : Nat} : cutV xs (some ((k : Nat) : Int)) none = xs.drop k := by
  unfold cutV
  rw [HT.sIx_nat, HT.sIx_none]
  by_cases h : k ≤ xs.length
  · rw [Nat.min_eq_left h, ← List.length_drop, List.take_length]
  · rw [Nat.min_eq_right (by omega), List.drop_eq_nil_of_le (by omega), List.drop_eq_nil_of_le (by omega), List.take_nil]
theorem cutV_to {xs : List V} {k : Nat} : cutV xs none (some ((k : Nat) : Int)) = xs.take k := by
  unfold cutV
  rw [HT.sIx_nat, HT.sIx_none, List.drop_zero, Nat.sub_zero]
  by_cases h : k ≤ xs.length
  · rw [Nat.min_eq_left h]
  · rw [Nat.min_eq_right (by omega), List.take_length, List.take_of_length_le (by omega)]
theorem cutV_1 {x : V} {xs : List V} : cutV (x :: xs) (some 1) none = xs := cutV_from (k := 1)
theorem cutV_2 {x y : V} {xs : List V} : cutV (x :: y :: xs) (some 2) none = xs := cutV_from (k := 2)
end Sq
set_option Elab.async false
set_option linter.all false
set_option maxRecDepth 100000
set_option maxHeartbeats 2000000
namespace Sq
open PySem PySem.Spec PyProof.Rows L2
/-! ### a list made by a comprehension -/
/-- behind the walked thing's making -/
def LcB (J : It) (g : TG) (tt : TT) (te : TE) (vs : List Nat) (σ : L2.St) (H1 : Hp) (Q : VK) : Prop := ∀ D, H1 D = none → ∃ W : Nat → Nat → Hp → Prop, (∃ m, W 0 m (upd H1 D (.lst []))) ∧ ∀ i m H, W i m H →
  (J.stop i H ∧ Q (.ref D) H) ∨ (J.go i H ∧ ∃ Nx : Hp → Prop, (∀ H', Nx H' → ∃ m', m' < m ∧ W (i + 1) m' H') ∧ ∀ x H', J.yld i H x H' → g x (wipe σ vs) H' fun σ2 H2 => wipe σ2 vs = wipe σ vs ∧ tt σ2 H2 fun b H3 =>
    if b = true then te σ2 H3 fun y H4 => ∃ acc, H4 D = some (.lst acc) ∧ acc.length < sizeLine ∧ Nx (upd H4 D (.lst (acc ++ [y]))) else Nx H3)
def tLcF (wi : TI) (g : TG) (tt : TT) (te : TE) (vs : List Nat) : TE := fun σ H Q => wi σ H fun J H1 => LcB J g tt te vs σ H1 Q
theorem pe_lcF {X : Cx} {elt tg iter : Expr} {ifs : List Expr} {scope : Scope} {own : List (Str × Nat)} {pos : Pos} {wi : TI} {g : TG} {tt : TT} {te : TE} (hc : X.calm = true) (hN : X.N.Nodup) (hi : PI X tg iter wi) (ok : BlkOk X.N X.env.scope scope own)
    (hg : ∀ (s : Shared) (H : Hp) (C : Addr) (cl : List (Str × Addr)) (fp : List Addr), PG (X.blk s H scope (compEnvC scope cl C X.env) fp) tg g) (ht : ∀ (s : Shared) (H : Hp) (C : Addr) (cl : List (Str × Addr)) (fp : List Addr), PTs (X.blk s H scope (compEnvC scope cl C X.env) fp) ifs tt)
    (he : ∀ (s : Shared) (H : Hp) (C : Addr) (cl : List (Str × Addr)) (fp : List Addr), PE (X.blk s H scope (compEnvC scope cl C X.env) fp) elt te) (hs : ∀ x, foldedSetIterable iter X.env x = pure x := by intro _; rfl) :
    PE X (.ListComp elt [⟨tg, iter, ifs, 0⟩] scope pos) (tLcF wi g tt te (own.map (·.2))) := pe_lc hc hN hi ok hg ht he hs
theorem ps_setLcF {X : Cx} {i : Nat} {y : Str} {py : Pos} {elt tg iter : Expr} {ifs : List Expr} {scope : Scope} {own : List (Str × Nat)} {pos spos : Pos} {wi : TI} {g : TG} {tt : TT} {te : TE} (hc : X.calm = true) (hN : X.N.Nodup) (hy : X.N[i]? = some y) (hyl : X.env.scope.names.lookup y = some .local)
    (hsw : swapsWith (.ListComp elt [⟨tg, iter, ifs, 0⟩] scope pos) (some (.Name y py)) spos.line X.env = pure true) (hi : PI X tg iter wi) (ok : BlkOk X.N X.env.scope scope own)
    (hg : ∀ (s : Shared) (H : Hp) (C : Addr) (cl : List (Str × Addr)) (fp : List Addr), PG (X.blk s H scope (compEnvC scope cl C X.env) fp) tg g) (ht : ∀ (s : Shared) (H : Hp) (C : Addr) (cl : List (Str × Addr)) (fp : List Addr), PTs (X.blk s H scope (compEnvC scope cl C X.env) fp) ifs tt)
    (he : ∀ (s : Shared) (H : Hp) (C : Addr) (cl : List (Str × Addr)) (fp : List Addr), PE (X.blk s H scope (compEnvC scope cl C X.env) fp) elt te) (hs : ∀ x, foldedSetIterable iter X.env x = pure x := by intro _; rfl) :
    PS X (.Assign [.Name y py] (.ListComp elt [⟨tg, iter, ifs, 0⟩] scope pos) spos) (tAsg (tLcF wi g tt te (own.map (·.2))) (gName i)) := ps_setLc hc hN hy hyl hsw hi ok hg ht he hs
/-- the list at D holds what was made so far -/
def LcN (D : Addr) (Pv : Nat → List V → Hp → Prop) (i : Nat) (H : Hp) : Prop := ∃ ys, ys.length ≤ i ∧ H D = some (.lst ys) ∧ Pv i ys H
theorem lc_end {D : Addr} {Pv : Nat → List V → Hp → Prop} {i : Nat} {ys : List V} {y : V} {H : Hp} (hD : ∀ i ys H zs o, H D = some (.lst zs) → Pv i ys H → Pv i ys (upd H D (.lst o))) (hi : i < 100000) (hl : ys.length ≤ i) (h1 : H D = some (.lst ys)) (h2 : Pv (i + 1) (ys ++ [y]) H) :
    ∃ acc, H D = some (.lst acc) ∧ acc.length < sizeLine ∧ LcN D Pv (i + 1) (upd H D (.lst (acc ++ [y]))) :=
  ⟨ys, h1, Nat.lt_of_le_of_lt hl (Nat.lt_of_lt_of_le hi (by decide)), ys ++ [y], by rw [List.length_append, List.length_singleton]; omega, upd_same, hD _ _ _ _ _ h1 h2⟩
section
variable {K : PySem.W.Frag} {a : Addr} {xs : List V} {g : TG} {tt : TT} {te : TE} {vs : List Nat} {σ : L2.St} {H1 : Hp} {Q : VK}
/-- over anything that is walked -/
theorem lc_go {J : It} {n : Nat} {G : Hp → Prop} {Y : Nat → Hp → V → Hp → Prop} (w : Walk J n G Y) (Pv : Addr → Nat → List V → Hp → Prop) (h0 : ∀ D, H1 D = none → Pv D 0 [] (upd H1 D (.lst [])))
    (hG : ∀ D i ys H, Pv D i ys H → G H)
    (hs : ∀ D i x ys H H', H1 D = none → i < n → Pv D i ys H → ys.length ≤ i → H D = some (.lst ys) → Y i H x H' → g x (wipe σ vs) H' fun σ2 H2 => wipe σ2 vs = wipe σ vs ∧ tt σ2 H2 fun b H3 =>
      if b = true then te σ2 H3 fun y H4 => ∃ acc, H4 D = some (.lst acc) ∧ acc.length < sizeLine ∧ LcN D (Pv D) (i + 1) (upd H4 D (.lst (acc ++ [y]))) else LcN D (Pv D) (i + 1) H3)
    (hd : ∀ D ys H, H1 D = none → Pv D n ys H → H D = some (.lst ys) → ys.length ≤ n → Q (.ref D) H) : LcB J g tt te vs σ H1 Q := fun D hD =>
  lc_it w (LcN D (Pv D)) ⟨[], Nat.le_refl _, upd_same, h0 D hD⟩ (fun i H _ ⟨ys, _, _, p⟩ => hG D i ys H p) (fun i x H H' hi ⟨ys, hl, e, p⟩ y => hs D i x ys H H' hD hi p hl e y) fun H ⟨ys, hl, e, p⟩ => hd D ys H hD p e hl
end
/-! ### a for -/
def ForB (J : It) (g : TG) (tb : TS) (D : Ends) (σ : L2.St) (H1 : Hp) : Prop := ∃ W : Nat → Nat → L2.St → Hp → Prop, (∃ m, W 0 m σ H1) ∧ ∀ i m σ H, W i m σ H →
  (J.stop i H ∧ D.nx σ H) ∨ (J.go i H ∧ ∃ N : L2.St → Hp → Prop, (∀ σ' H', N σ' H' → ∃ m', m' < m ∧ W (i + 1) m' σ' H') ∧ ∀ x H', J.yld i H x H' → g x σ H' fun σ2 H2 => tb { D with nx := N, ct := N, bk := D.nx } σ2 H2)
def tForF (wi : TI) (g : TG) (tb : TS) : TS := fun D σ H => wi σ H fun J H1 => ForB J g tb D σ H1
theorem ps_forF {X : Cx} {tg iter : Expr} {body : List Stmt} {wi : TI} {g : TG} {tb : TS} {pos : Pos} (hp : PassesOwn (model X.prog X.w) X.A X.env X.xe) (hc : X.calm = true) (hi : PI X tg iter wi) (hg : PG X tg g) (hb : PSs X body tb)
    (hs : ∀ x, foldedSetIterable iter X.env x = pure x := by intro _; rfl) : PS X (.For tg iter body [] pos) (tForF wi g tb) := ps_for hp hc hi hg hb hs
theorem for_go {J : It} {n : Nat} {G : Hp → Prop} {Y : Nat → Hp → V → Hp → Prop} (w : Walk J n G Y) {g : TG} {tb : TS} {D : Ends} {σ : L2.St} {H : Hp} (Pv : Nat → L2.St → Hp → Prop) (h0 : Pv 0 σ H) (hG : ∀ i σ H, i ≤ n → Pv i σ H → G H)
    (hs : ∀ i x σ H H', i < n → Pv i σ H → Y i H x H' → g x σ H' fun σ2 H2 => tb { D with nx := Pv (i + 1), ct := Pv (i + 1), bk := D.nx } σ2 H2) (hd : ∀ σ H, Pv n σ H → D.nx σ H) : ForB J g tb D σ H :=
  for_it w Pv h0 hG hs hd
/-! ### all, any, sum -/
def GB {τ : Type} (P : Addr) (J : It) (g : TG) (tt : TT) (te : TE) (vs : List Nat) (t0 : τ) (Cons : τ → V → Hp → (τ → Hp → Prop) → Prop) (Fin : τ → Hp → Prop) (σ : L2.St) (H1 : Hp) : Prop := GxR.TabG H1 P ∧ ∀ H2, GxR.Tabbed P H1 H2 → ∃ W : Nat → Nat → τ → Hp → Prop, (∃ m, W 0 m t0 H2) ∧
  GW J g tt te vs σ W Cons Fin
theorem gen_go {τ : Type} {P : Addr} {J : It} {n : Nat} {G : Hp → Prop} {Y : Nat → Hp → V → Hp → Prop} (w : Walk J n G Y) {g : TG} {tt : TT} {te : TE} {vs : List Nat} {t0 : τ} {Cons : τ → V → Hp → (τ → Hp → Prop) → Prop} {Fin : τ → Hp → Prop} {σ : L2.St} {H1 : Hp}
    (ht : GxR.TabG H1 P) (Pv : Nat → τ → Hp → Prop) (h0 : ∀ H2, Ext [] H1 H2 → Pv 0 t0 H2) (hG : ∀ i t H, i ≤ n → Pv i t H → G H)
    (hs : ∀ i x t H H', i < n → Pv i t H → Y i H x H' → g x (wipe σ vs) H' fun σ2 H2 => wipe σ2 vs = wipe σ vs ∧ tt σ2 H2 fun b H3 => if b = true then te σ2 H3 fun y H4 => Cons t y H4 (Pv (i + 1)) else Pv (i + 1) t H3)
    (hd : ∀ t H, Pv n t H → Fin t H) : GB P J g tt te vs t0 Cons Fin σ H1 := by
  refine ⟨ht, fun H2 hT => ⟨fun i m t H => m = n - i ∧ i ≤ n ∧ Pv i t H, ⟨n, rfl, Nat.zero_le _, h0 H2 (Ext.tabbed ht hT)⟩, ?_⟩⟩
  rintro i m t H ⟨rfl, hi, p⟩
  by_cases hlt : i < n
  · exact .inr ⟨w.goes i H hlt (hG i t H hi p), Pv (i + 1), fun t' H' p' => ⟨n - (i + 1), by omega, rfl, hlt, p'⟩, fun x H' y => hs i x t H H' hlt p (w.yields i H x H' hlt (hG i t H hi p) y)⟩
  · have e : i = n := by omega
    subst e
    exact .inl ⟨w.stops H (hG _ t H hi p), hd t H p⟩
def tAllF (P : Addr) (wi : TI) (g : TG) (tt : TT) (te : TE) (vs : List Nat) : TE := fun σ H Q => wi σ H fun J H1 => GB P J g tt te vs () (fun _ y H N => ∃ b, y = .bl b ∧ if b = true then N () H else Q (.bl false) H) (fun _ H => Q (.bl true) H) σ H1
def tAnyF (P : Addr) (wi : TI) (g : TG) (tt : TT) (te : TE) (vs : List Nat) : TE := fun σ H Q => wi σ H fun J H1 => GB P J g tt te vs () (fun _ y H N => ∃ b, y = .bl b ∧ if b = true then Q (.bl true) H else N () H) (fun _ H => Q (.bl false) H) σ H1
def tSumF (P : Addr) (wi : TI) (g : TG) (tt : TT) (te : TE) (vs : List Nat) : TE := fun σ H Q => wi σ H fun J H1 => GB P J g tt te vs (0 : Int) (fun t y H N => ∃ j, y = .int j ∧ (InLong j ∧ InLong (t + j)) ∧ N (t + j) H) (fun t H => Q (.int t) H) σ H1

theorem pair_tgt {K : PySem.W.Frag} {t : TGs} {v : V} {σ : L2.St} {H H' : Hp} {Q : L2.St → Hp → Prop} {xs ys : Nat → Option V} {i : Nat} (y : YPair xs ys i H v H') (h : ∀ x y, xs i = some x → ys i = some y → Ext [] H H' → t [x, y] σ H' Q) : gTup K 2 t v σ H' Q := by
  obtain ⟨T, x, y, rfl, hT, rfl, hx, hy⟩ := y
  exact ⟨T, [x, y], rfl, SqT.of upd_same, rfl, h x y hx hy (Ext.new hT)⟩
section
variable {X : Cx}
theorem pe_allF {c P : Addr} {elt tg iter : Expr} {ifs : List Expr} {gpos p pos : Pos} {scope : Scope} {own : List (Str × Nat)} {wi : TI} {g : TG} {tt : TT} {te : TE} {k : Nat}
    (hr : Room k X.A) (hc : X.calm = true) (hN : X.N.Nodup) (hgl : Gl X "all") (hm : X.mg "all" = none) (TB : GxR.TabB X.base X.mg c P) (hcode : X.env.code = .ref c) (hi : PI X tg iter wi) (ok : BlkOk X.N X.env.scope scope own) (hcell : ∀ y ∈ scope.names, y.2 ≠ .cell) (hco : scope.isCoroutine = false) (hdot : scope.names.lookup (".0" : Str) = some NameKind.local)
    (hg : ∀ (s : Shared) (H : Hp) (C : Addr) (code : Value) (fp : List Addr), PG (gCx X s H (gEnv X scope C code) fp) tg g) (ht : ∀ (s : Shared) (H : Hp) (C : Addr) (code : Value) (fp : List Addr), PTs (gCx X s H (gEnv X scope C code) fp) ifs tt)
    (he : ∀ (s : Shared) (H : Hp) (C : Addr) (code : Value) (fp : List Addr), PE (gCx X s H (gEnv X scope C code) fp) elt te)
    (hs : ∀ v, genFold iter X.env v = pure v := by intro _; rfl)
    (hse : starEach [.GeneratorExp elt [⟨tg, iter, ifs, 0⟩] scope gpos] X.env = (false, eval (.GeneratorExp elt [⟨tg, iter, ifs, 0⟩] scope gpos) X.env) :: starEach [] X.env := by rfl) :
    PE X (.Call (.Name "all" p) [.GeneratorExp elt [⟨tg, iter, ifs, 0⟩] scope gpos] [] pos) (tAllF P wi g tt te (own.map (·.2))) := pe_allG hr hc hN hgl hm TB hcode hi ok hcell hco hdot hg ht he hs (by decide +kernel) hse
theorem pe_anyF {c P : Addr} {elt tg iter : Expr} {ifs : List Expr} {gpos p pos : Pos} {scope : Scope} {own : List (Str × Nat)} {wi : TI} {g : TG} {tt : TT} {te : TE} {k : Nat}
    (hr : Room k X.A) (hc : X.calm = true) (hN : X.N.Nodup) (hgl : Gl X "any") (hm : X.mg "any" = none) (TB : GxR.TabB X.base X.mg c P) (hcode : X.env.code = .ref c) (hi : PI X tg iter wi) (ok : BlkOk X.N X.env.scope scope own) (hcell : ∀ y ∈ scope.names, y.2 ≠ .cell) (hco : scope.isCoroutine = false) (hdot : scope.names.lookup (".0" : Str) = some NameKind.local)
    (hg : ∀ (s : Shared) (H : Hp) (C : Addr) (code : Value) (fp : List Addr), PG (gCx X s H (gEnv X scope C code) fp) tg g) (ht : ∀ (s : Shared) (H : Hp) (C : Addr) (code : Value) (fp : List Addr), PTs (gCx X s H (gEnv X scope C code) fp) ifs tt)
    (he : ∀ (s : Shared) (H : Hp) (C : Addr) (code : Value) (fp : List Addr), PE (gCx X s H (gEnv X scope C code) fp) elt te)
    (hs : ∀ v, genFold iter X.env v = pure v := by intro _; rfl)
    (hse : starEach [.GeneratorExp elt [⟨tg, iter, ifs, 0⟩] scope gpos] X.env = (false, eval (.GeneratorExp elt [⟨tg, iter, ifs, 0⟩] scope gpos) X.env) :: starEach [] X.env := by rfl) :
    PE X (.Call (.Name "any" p) [.GeneratorExp elt [⟨tg, iter, ifs, 0⟩] scope gpos] [] pos) (tAnyF P wi g tt te (own.map (·.2))) := pe_anyG hr hc hN hgl hm TB hcode hi ok hcell hco hdot hg ht he hs (by decide +kernel) hse
theorem pe_sumF {c P : Addr} {elt tg iter : Expr} {ifs : List Expr} {gpos p pos : Pos} {scope : Scope} {own : List (Str × Nat)} {wi : TI} {g : TG} {tt : TT} {te : TE} {k : Nat}
    (hr : Room k X.A) (hc : X.calm = true) (hN : X.N.Nodup) (hgl : Gl X "sum") (hm : X.mg "sum" = none) (TB : GxR.TabB X.base X.mg c P) (hcode : X.env.code = .ref c) (hi : PI X tg iter wi) (ok : BlkOk X.N X.env.scope scope own) (hcell : ∀ y ∈ scope.names, y.2 ≠ .cell) (hco : scope.isCoroutine = false) (hdot : scope.names.lookup (".0" : Str) = some NameKind.local)
    (hg : ∀ (s : Shared) (H : Hp) (C : Addr) (code : Value) (fp : List Addr), PG (gCx X s H (gEnv X scope C code) fp) tg g) (ht : ∀ (s : Shared) (H : Hp) (C : Addr) (code : Value) (fp : List Addr), PTs (gCx X s H (gEnv X scope C code) fp) ifs tt)
    (he : ∀ (s : Shared) (H : Hp) (C : Addr) (code : Value) (fp : List Addr), PE (gCx X s H (gEnv X scope C code) fp) elt te)
    (hs : ∀ v, genFold iter X.env v = pure v := by intro _; rfl)
    (hse : starEach [.GeneratorExp elt [⟨tg, iter, ifs, 0⟩] scope gpos] X.env = (false, eval (.GeneratorExp elt [⟨tg, iter, ifs, 0⟩] scope gpos) X.env) :: starEach [] X.env := by rfl) :
    PE X (.Call (.Name "sum" p) [.GeneratorExp elt [⟨tg, iter, ifs, 0⟩] scope gpos] [] pos) (tSumF P wi g tt te (own.map (·.2))) := pe_sumG hr hc hN hgl hm TB hcode hi ok hcell hco hdot hg ht he hs (by decide +kernel) hse
end
end Sq
set_option Elab.async false
set_option linter.all false
set_option maxRecDepth 100000
set_option maxHeartbeats 2000000
namespace Sq
open PySem PySem.Spec PyProof.Rows L2
theorem dct2_out (kx vx t0 i0 t1 i1 : Expr) (ifs0 ifs1 : List Expr) (scope : Scope) (pos : Pos) (it : Value) (D : Addr) (env : Env) :
    compTurn (.DictComp kx vx [⟨t0, i0, ifs0, 0⟩, ⟨t1, i1, ifs1, 0⟩] scope pos) 0 it (.ref D) env = (do
      standAt i0.pos
      match ← pyNext it with
      | none => pure (.done .next)
      | some v =>
        letOwnedTupleGo t0 it v
        assign t0 env v
        let mut ok := true
        for c in ifs0 do
          if ok then ok ← isTrue c env (eval c env)
        if ok then
          let x ← eval i1 env
          standAt i1.pos
          let x ← foldedSetIterable i1 env x
          let _ ← runOwn (.compStart (.DictComp kx vx [⟨t0, i0, ifs0, 0⟩, ⟨t1, i1, ifs1, 0⟩] scope pos) 1 (← holding [x] (pyIter x)) (.ref D) env) env
        again (.compLoop (.DictComp kx vx [⟨t0, i0, ifs0, 0⟩, ⟨t1, i1, ifs1, 0⟩] scope pos) 0 it (.ref D) env)) := by rfl
theorem dct2_in (kx vx t0 i0 t1 i1 : Expr) (ifs0 ifs1 : List Expr) (scope : Scope) (pos : Pos) (it : Value) (D : Addr) (env : Env) :
    compTurn (.DictComp kx vx [⟨t0, i0, ifs0, 0⟩, ⟨t1, i1, ifs1, 0⟩] scope pos) 1 it (.ref D) env = (do
      standAt i1.pos
      match ← pyNext it with
      | none => pure (.done .next)
      | some v =>
        letOwnedTupleGo t1 it v
        assign t1 env v
        let mut ok := true
        for c in ifs1 do
          if ok then ok ← isTrue c env (eval c env)
        if ok then
          (do
            let kv ← eval kx env
            let vv ← holding [kv] (eval vx env)
            standAt { kx.pos with endLine := vx.pos.endLine, endCol := vx.pos.endCol }
            holding [kv, vv] (dictSet D kv vv))
        again (.compLoop (.DictComp kx vx [⟨t0, i0, ifs0, 0⟩, ⟨t1, i1, ifs1, 0⟩] scope pos) 1 it (.ref D) env)) := by rfl

section
variable {prog : Program} {w : World} {A : Around} {R : Result → Shared → Prop} {s : Shared} {kx vx t0 i0 t1 i1 : Expr} {ifs0 ifs1 : List Expr} {scope : Scope} {pos : Pos} {it : Value} {D : Addr} {env : Env}
theorem dcl2_out (hs : ∀ x, foldedSetIterable i1 env x = pure x) (I : Nat → Shared → Prop)
    (turn : ∀ n s, I n s → wpAny (model prog w) A (pyNext it) (fun r s₁ => match r with
      | none => R (.ok .next) s₁
      | some v => wpAny (model prog w) A (letOwnedTupleGo t0 it v) (fun _ s₁' => wpAny (model prog w) A (assign t0 env v) (fun _ s₂ =>
          wpAny (model prog w) A (forIn ifs0 true fun c r => if r = true then do let ok ← isTrue c env (eval c env); pure (ForInStep.yield ok) else pure (ForInStep.yield r)) (fun ok s₃ =>
            if ok = true then wpAny (model prog w) A (eval i1 env) (fun x s₄ => wpAny (model prog w) A (pyIter x) (fun it1 s₅ =>
              codeAny (model prog w) A (.compStart (.DictComp kx vx [⟨t0, i0, ifs0, 0⟩, ⟨t1, i1, ifs1, 0⟩] scope pos) 1 it1 (.ref D) env) (fun r s' => match r with
                | .ok _ => ∃ m, m < n ∧ I m s'
                | .error _ => False) s₅) (notedBy (model prog w) A env fun e s' => R (.error e) s') s₄) (notedBy (model prog w) A env fun e s' => R (.error e) s') s₃
            else ∃ m, m < n ∧ I m s₃) (notedBy (model prog w) A env fun e s' => R (.error e) s') s₂) (notedBy (model prog w) A env fun e s' => R (.error e) s') s₁') (notedBy (model prog w) A env fun e s' => R (.error e) s') s₁) (notedBy (model prog w) A env fun e s' => R (.error e) s') s)
    (n : Nat) (h : I n s) :
    codeAny (model prog w) A (.compLoop (.DictComp kx vx [⟨t0, i0, ifs0, 0⟩, ⟨t1, i1, ifs1, 0⟩] scope pos) 0 it (.ref D) env) R s := by
  refine codeAny_loop rfl I (fun n s hI => ?_) n h
  show wpAny _ A ((compTurn (.DictComp kx vx [⟨t0, i0, ifs0, 0⟩, ⟨t1, i1, ifs1, 0⟩] scope pos) 0 it (.ref D) env).onRaise (fun x => do noteFrame x env; theTreesLotGoes x)) _ _ s
  refine wpAny_noted ?_
  rw [dct2_out]
  refine wpAny_bind (wpAny_standAt (wpAny_bind (wpAny_mono (turn n s hI) (fun r s₁ h₁ => ?_) fun _ _ h' => h')))
  cases r with
  | none => exact wpAny_pure h₁
  | some v =>
    refine wpAny_bind (wpAny_mono h₁ (fun _ s₁' h₁' => ?_) fun _ _ h' => h')
    refine wpAny_bind (wpAny_mono h₁' (fun _ s₂ h₂ => wpAny_bind (wpAny_mono h₂ (fun ok s₃ h₃ => ?_) fun _ _ h' => h')) fun _ _ h' => h')
    cases ok with
    | false => exact wpAny_pure ⟨rfl, h₃⟩
    | true =>
      refine wpAny_bind (wpAny_mono h₃ (fun x s₄ h₄ => ?_) fun _ _ h' => h')
      refine wpAny_bind (wpAny_standAt (wpAny_bind (wpAny_of_eq (hs x) (wpAny_bind (wpAny_holding (wpAny_mono h₄ (fun it1 s₅ h₅ => ?_) fun _ _ h' => h'))))))
      refine wpAny_bind (wpAny_runOwn ?_)
      rw [Around.mark_none]
      refine codeAny_mono h₅ fun r s' hr => ?_
      cases r with
      | ok f =>
        first
          | exact wpAny_pure ⟨rfl, hr⟩
          | exact wpAny_bind (wpAny_pure (wpAny_pure ⟨rfl, hr⟩))
      | error e => exact hr.elim
theorem dcl2_in (I : Nat → Shared → Prop)
    (turn : ∀ n s, I n s → wpAny (model prog w) A (pyNext it) (fun r s₁ => match r with
      | none => R (.ok .next) s₁
      | some v => wpAny (model prog w) A (letOwnedTupleGo t1 it v) (fun _ s₁' => wpAny (model prog w) A (assign t1 env v) (fun _ s₂ =>
          wpAny (model prog w) A (forIn ifs1 true fun c r => if r = true then do let ok ← isTrue c env (eval c env); pure (ForInStep.yield ok) else pure (ForInStep.yield r)) (fun ok s₃ =>
            if ok = true then wpAny (model prog w) A (eval kx env) (fun kv s₄ => wpAny (model prog w) A (eval vx env) (fun vv s₅ =>
              wpAny (model prog w) A (dictSet D kv vv) (fun _ s₆ => ∃ m, m < n ∧ I m s₆) (notedBy (model prog w) A env fun e s' => R (.error e) s') s₅) (notedBy (model prog w) A env fun e s' => R (.error e) s') s₄) (notedBy (model prog w) A env fun e s' => R (.error e) s') s₃
            else ∃ m, m < n ∧ I m s₃) (notedBy (model prog w) A env fun e s' => R (.error e) s') s₂) (notedBy (model prog w) A env fun e s' => R (.error e) s') s₁') (notedBy (model prog w) A env fun e s' => R (.error e) s') s₁) (notedBy (model prog w) A env fun e s' => R (.error e) s') s)
    (n : Nat) (h : I n s) :
    codeAny (model prog w) A (.compLoop (.DictComp kx vx [⟨t0, i0, ifs0, 0⟩, ⟨t1, i1, ifs1, 0⟩] scope pos) 1 it (.ref D) env) R s := by
  refine codeAny_loop rfl I (fun n s hI => ?_) n h
  show wpAny _ A ((compTurn (.DictComp kx vx [⟨t0, i0, ifs0, 0⟩, ⟨t1, i1, ifs1, 0⟩] scope pos) 1 it (.ref D) env).onRaise (fun x => do noteFrame x env; theTreesLotGoes x)) _ _ s
  refine wpAny_noted ?_
  rw [dct2_in]
  refine wpAny_bind (wpAny_standAt (wpAny_bind (wpAny_mono (turn n s hI) (fun r s₁ h₁ => ?_) fun _ _ h' => h')))
  cases r with
  | none => exact wpAny_pure h₁
  | some v =>
    refine wpAny_bind (wpAny_mono h₁ (fun _ s₁' h₁' => ?_) fun _ _ h' => h')
    refine wpAny_bind (wpAny_mono h₁' (fun _ s₂ h₂ => wpAny_bind (wpAny_mono h₂ (fun ok s₃ h₃ => ?_) fun _ _ h' => h')) fun _ _ h' => h')
    cases ok with
    | false => exact wpAny_pure ⟨rfl, h₃⟩
    | true =>
      exact wpAny_bind (wpAny_bind (wpAny_mono h₃ (fun kv s₄ h₄ => wpAny_bind (wpAny_holding (wpAny_mono h₄ (fun vv s₅ h₅ => wpAny_bind (wpAny_standAt (wpAny_holding (wpAny_mono h₅ (fun _ s₆ h₆ => wpAny_pure ⟨rfl, h₆⟩) fun _ _ h' => h')))) fun _ _ h' => h'))) fun _ _ h' => h'))
theorem dcs1_ok (h0 : codeAny (model prog w) A (.compLoop (.DictComp kx vx [⟨t0, i0, ifs0, 0⟩, ⟨t1, i1, ifs1, 0⟩] scope pos) 1 it (.ref D) env) R s)
    (h : wpAny (model prog w) A (pyIter it) (fun it' s' => codeAny (model prog w) A (.compLoop (.DictComp kx vx [⟨t0, i0, ifs0, 0⟩, ⟨t1, i1, ifs1, 0⟩] scope pos) 1 it' (.ref D) env) R s')
      (notedBy (model prog w) A env fun x s' => R (.error x) s') s) :
    codeAny (model prog w) A (.compStart (.DictComp kx vx [⟨t0, i0, ifs0, 0⟩, ⟨t1, i1, ifs1, 0⟩] scope pos) 1 it (.ref D) env) R s := by
  refine codeAny_of_tree ?_
  show wpAny _ _ ((compStart (.DictComp kx vx [⟨t0, i0, ifs0, 0⟩, ⟨t1, i1, ifs1, 0⟩] scope pos) 1 it (.ref D) env).onRaise (fun x => do noteFrame x env; standAt theWindowsPlace)) _ _ s
  refine wpAny_notedAt ?_
  unfold compStart
  show wpAny _ _ (ask >>= _) _ _ s
  refine wpAny_bind (wpAny_askSetting (wpAny_ite ?_))
  split
  · first
      | exact wpAny_bind (wpAny_pure (wpAny_pure (And.intro rfl h0)))
      | exact wpAny_pure (And.intro rfl h0)
  · first
      | exact wpAny_bind (wpAny_rule (wpAny_bind (wpAny_standAt (wpAny_bind (wpAny_mono h (fun it' s' h' => wpAny_pure (And.intro rfl h')) fun _ _ x => x)))))
      | (refine wpAny_bind (wpAny_rule ?_); show wpAny _ _ (standAt i1.pos >>= _) _ _ s; exact wpAny_bind (wpAny_standAt (wpAny_bind (wpAny_mono h (fun it' s' h' => wpAny_pure (And.intro rfl h')) fun _ _ x => x))))
end

section
variable {X : Cx}
def tDc2 (wi : TI) (g : TG) (tt : TT) (wi1 : TI) (g1 : TG) (tt1 : TT) (tk tv : TE) (vs vs1 : List Nat) : TE := fun σ H Q => wi σ H fun J H1 => ∀ D, H1 D = none → ∃ W : Nat → Nat → Hp → Prop, (∃ m, W 0 m (upd H1 D (.dK []))) ∧ ∀ i m H, W i m H →
  (J.stop i H ∧ Q (.ref D) H) ∨ (J.go i H ∧ ∃ Nx : Hp → Prop, (∀ H', Nx H' → ∃ m', m' < m ∧ W (i + 1) m' H') ∧ ∀ x H', J.yld i H x H' → g x (wipe σ vs) H' fun σ2 H2 => wipe σ2 vs = wipe σ vs ∧ tt σ2 H2 fun b H3 =>
    if b = true then wi1 σ2 H3 fun J1 H4 => ∃ W1 : Nat → Nat → Hp → Prop, (∃ m, W1 0 m H4) ∧ ∀ j k H, W1 j k H →
      (J1.stop j H ∧ Nx H) ∨ (J1.go j H ∧ ∃ Nx1 : Hp → Prop, (∀ H', Nx1 H' → ∃ k', k' < k ∧ W1 (j + 1) k' H') ∧ ∀ x H', J1.yld j H x H' → g1 x (wipe σ2 vs1) H' fun σ3 H5 => wipe σ3 vs1 = wipe σ2 vs1 ∧ tt1 σ3 H5 fun b H6 =>
        if b = true then tk σ3 H6 fun y H7 => tv σ3 H7 fun z H8 => ∃ kvs k, y = kV k ∧ H8 D = some (.dK kvs) ∧ kvs.length < sizeLine ∧ Nx1 (upd H8 D (.dK (putK kvs k z))) else Nx1 H6)
    else Nx H3)
theorem dc2_core {pins : List (Addr × Obj)} {s : Shared} {σ : L2.St} {H : Hp} {Q : VK} {kx vx tg iter tg1 iter1 : Expr} {ifs ifs1 : List Expr} {scope : Scope} {own : List (Str × Nat)} {vs1 : List Nat} {pos pos' : Pos} {wi wi1 : TI} {g g1 : TG} {tt tt1 : TT} {tk tv : TE} {use : Option (Value → Sem Unit)} {Qf : Value → Shared → Prop}
    (hc : X.calm = true) (hN : X.N.Nodup) (I : L2.Inv X pins σ H s) (hi : PI X tg iter wi) (ok : BlkOk X.N X.env.scope scope own) (hv : ∀ i ∈ vs1, i ∈ own.map (·.2))
    (hg : ∀ (s : Shared) (H : Hp) (C : Addr) (cl : List (Str × Addr)) (fp : List Addr), PG (X.blk s H scope (compEnvC scope cl C X.env) fp) tg g) (ht : ∀ (s : Shared) (H : Hp) (C : Addr) (cl : List (Str × Addr)) (fp : List Addr), PTs (X.blk s H scope (compEnvC scope cl C X.env) fp) ifs tt)
    (hk : ∀ (s : Shared) (H : Hp) (C : Addr) (cl : List (Str × Addr)) (fp : List Addr), PE (X.blk s H scope (compEnvC scope cl C X.env) fp) kx tk)
    (he : ∀ (s : Shared) (H : Hp) (C : Addr) (cl : List (Str × Addr)) (fp : List Addr), PE (X.blk s H scope (compEnvC scope cl C X.env) fp) vx tv) (hs : ∀ x, foldedSetIterable iter X.env x = pure x)
    (hi1 : ∀ (s : Shared) (H : Hp) (C : Addr) (cl : List (Str × Addr)) (fp : List Addr), PI (X.blk s H scope (compEnvC scope cl C X.env) fp) tg1 iter1 wi1)
    (hg1 : ∀ (s : Shared) (H : Hp) (C : Addr) (cl : List (Str × Addr)) (fp : List Addr), PG (X.blk s H scope (compEnvC scope cl C X.env) fp) tg1 g1)
    (ht1 : ∀ (s : Shared) (H : Hp) (C : Addr) (cl : List (Str × Addr)) (fp : List Addr), PTs (X.blk s H scope (compEnvC scope cl C X.env) fp) ifs1 tt1)
    (hs1 : ∀ env x, foldedSetIterable iter1 env x = pure x)
    (h : tDc2 wi g tt wi1 g1 tt1 tk tv (own.map (·.2)) vs1 σ H Q)
    (hRR : ∀ D C s' m H', L2.Inv X pins σ H' s' → Q (.ref D) H' → s'.heap.Ns C m → FpOk X pins H' C → compPost (model X.prog X.w) X.A X.xe use Qf (.ref D) C (.ok .next) s') :
    wpAny (model X.prog X.w) X.A (comprehension (.DictComp kx vx [⟨tg, iter, ifs, 0⟩, ⟨tg1, iter1, ifs1, 0⟩] scope pos) scope X.env pos' (newDict) false (eval iter X.env) use) Qf X.xe s := by
  have hfree : ∀ y ∈ scope.names, y.2 = .free → ∃ c, X.env.cells.lookup y.1 = some c := fun y hy e => by
    rcases ok.free y hy e with k | k
    · exact I.ok.has _ (.inl k)
    · exact I.ok.has _ (.inr k)
  refine wpAny_comprehension_free (use := use) rfl hs (closure_ok hfree) ok.kind (fun y hy e => by rw [ok.uniq y hy, e])
    (thn (hi.run pins s σ H _ I h) fun xv s1 hx => thn hx fun itv s2 h2 => ?_)
  obtain ⟨it, fp, tn, J, H2, e, I2, T, st2, f2, q⟩ := h2
  subst e
  refine wpAny_newObj_type (newEnv_comp ?_) 
  generalize hD : s2.heap.objs.size = D
  have hDn : H2 D = none := I2.hok.fresh (Nat.le_of_eq hD)
  obtain ⟨W, ⟨m0, w0⟩, turn⟩ := q D hDn
  -- the new list
  generalize hs3 : ({ s2 with heap := s2.heap.push { cls := .type "dict", data := .dict #[] } } : Shared) = s3
  have I3 : L2.Inv X pins σ (upd H2 D (.dK [])) s3 := by
    rw [← hs3]
    refine I2.laid (t' := s2.toks) (fun b o e => Heap.get?_push_of_some _ e) (Nat.le_of_eq hD) ?_
    rw [← hD]
    exact dk_empty s2.heap I2.big
  have h3 : s3.heap = s2.heap.push { cls := .type "dict", data := .dict #[] } := by rw [← hs3]
  have sz : ∀ b ∈ fp, b < s2.heap.objs.size := fun b hb => by
    obtain ⟨o, e, _⟩ := T.obj _ _ st2 b hb
    exact Heap.lt_size e
  have f3 : ∀ b ∈ fp, FpOk X pins (upd H2 D (.dK [])) b ∧ b < s3.heap.objs.size := fun b hb => by
    have hlt := sz b hb
    refine ⟨⟨?_, (f2 b hb).2⟩, by rw [h3, Heap.size_push]; exact Nat.lt_succ_of_lt hlt⟩
    rw [upd_ne (by rw [← hD]; exact Nat.ne_of_lt hlt)]
    exact (f2 b hb).1
  have st3 : tn 0 s3.heap := T.keep _ _ _ st2 fun b _ o e => by rw [h3]; exact Heap.get?_push_of_some _ e
  have I4 := block_start I3 ok hN f3
  have pg := hg s3 (upd H2 D (.dK [])) s3.heap.objs.size (cellsFrom (s3.heap.objs.size + 1) scope.names (cloFrom X.env.cells scope.names [])) fp
  have pt := ht s3 (upd H2 D (.dK [])) s3.heap.objs.size (cellsFrom (s3.heap.objs.size + 1) scope.names (cloFrom X.env.cells scope.names [])) fp
  have pk := hk s3 (upd H2 D (.dK [])) s3.heap.objs.size (cellsFrom (s3.heap.objs.size + 1) scope.names (cloFrom X.env.cells scope.names [])) fp
  have pe := he s3 (upd H2 D (.dK [])) s3.heap.objs.size (cellsFrom (s3.heap.objs.size + 1) scope.names (cloFrom X.env.cells scope.names [])) fp
  have pi1 := hi1 s3 (upd H2 D (.dK [])) s3.heap.objs.size (cellsFrom (s3.heap.objs.size + 1) scope.names (cloFrom X.env.cells scope.names [])) fp
  have pg1 := hg1 s3 (upd H2 D (.dK [])) s3.heap.objs.size (cellsFrom (s3.heap.objs.size + 1) scope.names (cloFrom X.env.cells scope.names [])) fp
  have pt1 := ht1 s3 (upd H2 D (.dK [])) s3.heap.objs.size (cellsFrom (s3.heap.objs.size + 1) scope.names (cloFrom X.env.cells scope.names [])) fp
  show codeAny _ _ (.compStart (.DictComp kx vx [⟨tg, iter, ifs, 0⟩, ⟨tg1, iter1, ifs1, 0⟩] scope pos) 0 (.ref it) (.ref D) (compEnvC scope (cellsFrom (s3.heap.objs.size + 1) scope.names (cloFrom X.env.cells scope.names [])) s3.heap.objs.size X.env)) (compPost (model X.prog X.w) X.A X.xe use Qf (.ref D) s3.heap.objs.size) { s3 with heap := pushCells (s3.heap.push { cls := .type "dict", data := .dict #[] }) scope.names }
  have nfp : ∀ b ∈ fp, (upd H2 D (.dK [])) b = none := fun b hb => (f3 b hb).1.1
  generalize hce : compEnvC scope (cellsFrom (s3.heap.objs.size + 1) scope.names (cloFrom X.env.cells scope.names [])) s3.heap.objs.size X.env = ce at I4 pg pt pk pe pi1 pg1 pt1 ⊢
  have cL : ce.locals = s3.heap.objs.size := by subst hce; rfl
  generalize hH3 : upd H2 D (.dK []) = H3 at I3 I4 pg pt pk pe pi1 pg1 pt1 w0 nfp f3
  generalize hs4 : ({ s3 with heap := pushCells (s3.heap.push { cls := .type "dict", data := .dict #[] }) scope.names } : Shared) = s4 at I4 ⊢
  have st4 : tn 0 s4.heap := T.keep _ _ _ st3 fun b _ o e => by rw [← hs4]; exact pushCells_keeps _ _ _ _ (Heap.get?_push_of_some _ e)
  have stat : ∀ {σ' : L2.St} {H' : Hp} {s' : Shared}, L2.Inv (X.blk s3 H3 scope ce fp) [] σ' H' s' → (∀ b ∈ fp, H' b = none) → ∀ b ∈ fp, FpOk (X.blk s3 H3 scope ce fp) [] H' b := fun {σ' H' s'} I' hn b hb =>
    ⟨hn b hb, (I'.ok.exf b hb).1, I'.ok.exfs b hb, .inl hb, fun x c e => (I'.ok.exf b hb).2 x c e, fun p hp => absurd (show p ∈ ([] : List (Addr × Obj)) ++ [] from hp) (by simp)⟩
  have loop : codeAny (model X.prog X.w) X.A (.compLoop (.DictComp kx vx [⟨tg, iter, ifs, 0⟩, ⟨tg1, iter1, ifs1, 0⟩] scope pos) 0 (.ref it) (.ref D) ce) (compPost (model X.prog X.w) X.A X.xe use Qf (.ref D) s3.heap.objs.size) s4 := by
    refine dcl2_out (hs1 ce) (fun n s' => ∃ i H', L2.Inv (X.blk s3 H3 scope ce fp) [] (wipe σ (own.map (·.2))) H' s' ∧ tn i s'.heap ∧ (∀ b ∈ fp, H' b = none) ∧ W i n H') ?_ m0 ⟨0, H3, I4, st4, nfp, w0⟩
    rintro n s5 ⟨i, H5, I5, st5, n5, w5⟩
    rcases turn i n H5 w5 with ⟨stop, qq⟩ | ⟨go, Nx, hNx, step⟩
    · have td := T.done (X.blk s3 H3 scope ce fp) rfl rfl rfl hc i [] s5 _ H5 (fun _ _ => False) I5 (stat I5 n5) st5 stop
      refine thnF td fun r s6 ⟨hr, I6⟩ => ?_
      subst hr
      -- back in the def's context
      have I7 : L2.Inv X pins σ H5 s6 := I3.call' (ch := fp) I6.os I6.base I6.hok I6.bare fun b hb => ⟨(f3 b hb).1.2.2.2.1, (f3 b hb).1.2.1, (f3 b hb).1.2.2.2.2.1, (f3 b hb).1.2.2.2.2.2⟩
      have nC : H5 s3.heap.objs.size = none := by
        have z : H5 ce.locals = none := I6.free
        rw [cL] at z
        exact z
      obtain ⟨m, hn, _⟩ := I6.loc
      have hn : s6.heap.Ns ce.locals m := hn
      rw [cL] at hn
      exact hRR D s3.heap.objs.size s6 m H5 I7 qq hn (I3.fpOk (Nat.le_refl _) nC)
    · have ti := T.item (X.blk s3 H3 scope ce fp) rfl rfl rfl hc i [] s5 _ H5 (fun _ _ => False) I5 (stat I5 n5) st5 go
      refine thnF ti fun r s6 ⟨u, hr, h6⟩ => ?_
      subst hr
      refine thnF h6 fun _ s7 ⟨x, H7, I7, r7, y7, st7, n7⟩ => ?_
      have I7' := I7.pinned (stat I7 n7) (T.obj _ _ st7)
      refine thnF (pg.run _ s7 _ H7 x u _ I7' r7 (step x H7 y7)) fun _ s8 ⟨σ8, H8, I8, hw8, q8⟩ => ?_
      refine thnF (pt.run _ s8 σ8 H8 _ I8 q8) fun b s9 ⟨H9, I9, q9⟩ => ?_
      -- the turn's end, from any slots that know what the block knew at its start
      have fin : ∀ {σ9 : L2.St} {s' : Shared} {H' : Hp}, L2.Inv (X.blk s3 H3 scope ce fp) ([] ++ pinsAt fp s7.heap) σ9 H' s' → (wipe σ (own.map (·.2))).length = σ9.length → (∀ (j : Nat) v, (wipe σ (own.map (·.2)))[j]? = some (some v) → σ9[j]? = some (some v)) → Nx H' →
          ∃ m, m < n ∧ ∃ i H', L2.Inv (X.blk s3 H3 scope ce fp) [] (wipe σ (own.map (·.2))) H' s' ∧ tn i s'.heap ∧ (∀ b ∈ fp, H' b = none) ∧ W i m H' := fun {σ9 s' H'} I' hl hk nx => by
        obtain ⟨m', hm, w'⟩ := hNx H' nx
        have pin' : ∀ b ∈ fp, ∀ o, s7.heap.get? b = some o → s'.heap.get? b = some o ∧ H' b = none := fun b hb o e =>
          let z := I'.pin (b, o) (List.mem_append_right _ (List.mem_append_right _ (mem_pinsAt hb e)))
          ⟨z.1, z.2.1⟩
        refine ⟨m', hm, i + 1, H', (I'.unpinned (pins := [])).weak hl hk, T.keep _ _ _ st7 fun b hb o e => (pin' b hb o e).1, fun b hb => ?_, w'⟩
        obtain ⟨o, e, _⟩ := T.obj _ _ st7 b hb
        exact (pin' b hb o e).2
      have hl8 : (wipe σ (own.map (·.2))).length = σ8.length := by rw [← hw8, wipe_length]
      have hk8 : ∀ (j : Nat) v, (wipe σ (own.map (·.2)))[j]? = some (some v) → σ8[j]? = some (some v) := fun j v e => by
        rw [← hw8] at e
        exact (wipe_some e).1
      have hk9 : ∀ (j : Nat) v, (wipe σ (own.map (·.2)))[j]? = some (some v) → (wipe σ8 vs1)[j]? = some (some v) := fun j v e => by
        rw [← hw8] at e
        obtain ⟨e1, e2⟩ := wipe_some e
        rw [wipe_out fun z => e2 (hv j z)]
        exact e1
      cases b with
      | false =>
        simp only [Bool.false_eq_true, if_false] at q9 ⊢
        exact fin I9 hl8 hk8 q9
      | true =>
        simp only [if_true] at q9 ⊢
        refine thnF (pi1.run _ s9 σ8 H9 _ I9 q9) fun xv s10 hx => thnF hx fun itv s11 h11 => ?_
        obtain ⟨it1, fp1, tn1, J1, H11, e1, I11, T1, st11, f11, W1, ⟨m1, w1⟩, turn1⟩ := h11
        subst e1
        -- the inner loop
        have stat1 : ∀ {H' : Hp}, (∀ b ∈ fp1, H' b = none) → ∀ b ∈ fp1, FpOk (X.blk s3 H3 scope ce fp) ([] ++ pinsAt fp s7.heap) H' b := fun hn b hb => ⟨hn b hb, (f11 b hb).2⟩
        have loop1 : codeAny (model X.prog X.w) X.A (.compLoop (.DictComp kx vx [⟨tg, iter, ifs, 0⟩, ⟨tg1, iter1, ifs1, 0⟩] scope pos) 1 (.ref it1) (.ref D) ce)
            (fun r s' => match r with
              | .ok _ => ∃ m, m < n ∧ ∃ i H', L2.Inv (X.blk s3 H3 scope ce fp) [] (wipe σ (own.map (·.2))) H' s' ∧ tn i s'.heap ∧ (∀ b ∈ fp, H' b = none) ∧ W i m H'
              | .error _ => False) s11 := by
          refine dcl2_in (fun k s' => ∃ j H', L2.Inv (X.blk s3 H3 scope ce fp) ([] ++ pinsAt fp s7.heap) (wipe σ8 vs1) H' s' ∧ tn1 j s'.heap ∧ (∀ b ∈ fp1, H' b = none) ∧ W1 j k H') ?_ m1 ⟨0, H11, I11.weak (wipe_length _ _) (fun j v e => (wipe_some e).1), st11, fun b hb => (f11 b hb).1, w1⟩
          rintro k s12 ⟨j, H12, I12, st12, n12, w12⟩
          rcases turn1 j k H12 w12 with ⟨stop1, nx1⟩ | ⟨go1, Nx1, hNx1, step1⟩
          · refine thnF (T1.done (X.blk s3 H3 scope ce fp) rfl rfl rfl hc j _ s12 (wipe σ8 vs1) H12 (fun _ _ => False) I12 (stat1 n12) st12 stop1) fun r s13 ⟨hr, I13⟩ => ?_
            subst hr
            exact fin I13 (hl8.trans (wipe_length σ8 vs1).symm) hk9 nx1
          · refine thnF (T1.item (X.blk s3 H3 scope ce fp) rfl rfl rfl hc j _ s12 (wipe σ8 vs1) H12 (fun _ _ => False) I12 (stat1 n12) st12 go1) fun r s13 ⟨u1, hr, h13⟩ => ?_
            subst hr
            refine thnF h13 fun _ s14 ⟨x1, H14, I14, r14, y14, st14, n14⟩ => ?_
            have I14' := I14.pinned (stat1 n14) (T1.obj _ _ st14)
            refine thnF (pg1.run _ s14 (wipe σ8 vs1) H14 x1 u1 _ I14' r14 (step1 x1 H14 y14)) fun _ s15 ⟨σ15, H15, I15, hw15, q15⟩ => ?_
            refine thnF (pt1.run _ s15 σ15 H15 _ I15 q15) fun b1 s16 ⟨H16, I16, q16⟩ => ?_
            have fin1 : ∀ {s' : Shared} {H' : Hp}, L2.Inv (X.blk s3 H3 scope ce fp) (([] ++ pinsAt fp s7.heap) ++ pinsAt fp1 s14.heap) σ15 H' s' → Nx1 H' → ∃ m, m < k ∧ ∃ j H', L2.Inv (X.blk s3 H3 scope ce fp) ([] ++ pinsAt fp s7.heap) (wipe σ8 vs1) H' s' ∧ tn1 j s'.heap ∧ (∀ b ∈ fp1, H' b = none) ∧ W1 j m H' := fun {s' H'} I' nx => by
              obtain ⟨m', hm, w'⟩ := hNx1 H' nx
              have pin' : ∀ b ∈ fp1, ∀ o, s14.heap.get? b = some o → s'.heap.get? b = some o ∧ H' b = none := fun b hb o e =>
                let z := I'.pin (b, o) (List.mem_append_right _ (List.mem_append_right _ (mem_pinsAt hb e)))
                ⟨z.1, z.2.1⟩
              refine ⟨m', hm, j + 1, H', I'.unpinned.weak (by rw [← hw15, wipe_length]) (fun j v e => by rw [← hw15] at e; exact (wipe_some e).1), T1.keep _ _ _ st14 fun b hb o e => (pin' b hb o e).1, fun b hb => ?_, w'⟩
              obtain ⟨o, e, _⟩ := T1.obj _ _ st14 b hb
              exact (pin' b hb o e).2
            cases b1 with
            | false =>
              simp only [Bool.false_eq_true, if_false] at q16 ⊢
              exact fin1 I16 q16
            | true =>
              simp only [if_true] at q16 ⊢
              refine thnF (pk.run _ s16 σ15 H16 _ I16 q16) fun z s17 ⟨yk, H17, I17, r17, q17⟩ => ?_
              refine thnF (pe.run _ s17 σ15 H17 _ I17 q17) fun z2 s18 ⟨yv, H18, I18, r18, kvs, k, ek, hD18, hz18, nx⟩ => ?_
              subst ek
              exact d_dictSet (X := X.blk s3 H3 scope ce fp) I18 hD18 hz18 r17 r18 fun s19 I19 => fin1 I19 nx
        exact dcs1_ok loop1 (T1.self X.A 0 _ _ _ st11 loop1)
  exact codeAny_compStart_dict loop (T.self X.A 0 _ _ _ st4 loop)
theorem pe_dc2 {kx vx tg iter tg1 iter1 : Expr} {ifs ifs1 : List Expr} {scope : Scope} {own : List (Str × Nat)} {vs1 : List Nat} {pos : Pos} {wi wi1 : TI} {g g1 : TG} {tt tt1 : TT} {tk tv : TE} (hc : X.calm = true) (hN : X.N.Nodup) (hi : PI X tg iter wi) (ok : BlkOk X.N X.env.scope scope own) (hv : ∀ i ∈ vs1, i ∈ own.map (·.2))
    (hg : ∀ (s : Shared) (H : Hp) (C : Addr) (cl : List (Str × Addr)) (fp : List Addr), PG (X.blk s H scope (compEnvC scope cl C X.env) fp) tg g) (ht : ∀ (s : Shared) (H : Hp) (C : Addr) (cl : List (Str × Addr)) (fp : List Addr), PTs (X.blk s H scope (compEnvC scope cl C X.env) fp) ifs tt)
    (hi1 : ∀ (s : Shared) (H : Hp) (C : Addr) (cl : List (Str × Addr)) (fp : List Addr), PI (X.blk s H scope (compEnvC scope cl C X.env) fp) tg1 iter1 wi1)
    (hg1 : ∀ (s : Shared) (H : Hp) (C : Addr) (cl : List (Str × Addr)) (fp : List Addr), PG (X.blk s H scope (compEnvC scope cl C X.env) fp) tg1 g1) (ht1 : ∀ (s : Shared) (H : Hp) (C : Addr) (cl : List (Str × Addr)) (fp : List Addr), PTs (X.blk s H scope (compEnvC scope cl C X.env) fp) ifs1 tt1)
    (hk : ∀ (s : Shared) (H : Hp) (C : Addr) (cl : List (Str × Addr)) (fp : List Addr), PE (X.blk s H scope (compEnvC scope cl C X.env) fp) kx tk)
    (he : ∀ (s : Shared) (H : Hp) (C : Addr) (cl : List (Str × Addr)) (fp : List Addr), PE (X.blk s H scope (compEnvC scope cl C X.env) fp) vx tv) (hs : ∀ x, foldedSetIterable iter X.env x = pure x := by intro _; rfl) (hs1 : ∀ env x, foldedSetIterable iter1 env x = pure x := by intro _ _; rfl) :
    PE X (.DictComp kx vx [⟨tg, iter, ifs, 0⟩, ⟨tg1, iter1, ifs1, 0⟩] scope pos) (tDc2 wi g tt wi1 g1 tt1 tk tv (own.map (·.2)) vs1) := by
  refine ⟨fun pins s σ H Q I h => ?_⟩
  rw [arm_eval_DictComp]
  refine dc2_core hc hN I hi ok hv hg ht hk he hs hi1 hg1 ht1 hs1 h fun D C s' m H' I' q hn f => ⟨m, hn, fun h'' sb => ?_⟩
  obtain ⟨f0, f1, f2, f3, f4, f5⟩ := f
  exact ⟨.ref D, H', I'.turned (t' := s'.toks) (fun b o hb e => (sb.2 b hb).trans e) f0 f1 f3 f4 f5, rfl, q⟩
theorem ps_setDc2 {i : Nat} {y : Str} {py : Pos} {kx vx tg iter tg1 iter1 : Expr} {ifs ifs1 : List Expr} {scope : Scope} {own : List (Str × Nat)} {vs1 : List Nat} {pos spos : Pos} {wi wi1 : TI} {g g1 : TG} {tt tt1 : TT} {tk tv : TE} (hc : X.calm = true) (hN : X.N.Nodup) (hy : X.N[i]? = some y) (hyl : X.env.scope.names.lookup y = some .local)
    (hsw : swapsWith (.DictComp kx vx [⟨tg, iter, ifs, 0⟩, ⟨tg1, iter1, ifs1, 0⟩] scope pos) (some (.Name y py)) spos.line X.env = pure true) (hi : PI X tg iter wi) (ok : BlkOk X.N X.env.scope scope own) (hv : ∀ i ∈ vs1, i ∈ own.map (·.2))
    (hg : ∀ (s : Shared) (H : Hp) (C : Addr) (cl : List (Str × Addr)) (fp : List Addr), PG (X.blk s H scope (compEnvC scope cl C X.env) fp) tg g) (ht : ∀ (s : Shared) (H : Hp) (C : Addr) (cl : List (Str × Addr)) (fp : List Addr), PTs (X.blk s H scope (compEnvC scope cl C X.env) fp) ifs tt)
    (hi1 : ∀ (s : Shared) (H : Hp) (C : Addr) (cl : List (Str × Addr)) (fp : List Addr), PI (X.blk s H scope (compEnvC scope cl C X.env) fp) tg1 iter1 wi1)
    (hg1 : ∀ (s : Shared) (H : Hp) (C : Addr) (cl : List (Str × Addr)) (fp : List Addr), PG (X.blk s H scope (compEnvC scope cl C X.env) fp) tg1 g1) (ht1 : ∀ (s : Shared) (H : Hp) (C : Addr) (cl : List (Str × Addr)) (fp : List Addr), PTs (X.blk s H scope (compEnvC scope cl C X.env) fp) ifs1 tt1)
    (hk : ∀ (s : Shared) (H : Hp) (C : Addr) (cl : List (Str × Addr)) (fp : List Addr), PE (X.blk s H scope (compEnvC scope cl C X.env) fp) kx tk)
    (he : ∀ (s : Shared) (H : Hp) (C : Addr) (cl : List (Str × Addr)) (fp : List Addr), PE (X.blk s H scope (compEnvC scope cl C X.env) fp) vx tv) (hs : ∀ x, foldedSetIterable iter X.env x = pure x := by intro _; rfl) (hs1 : ∀ env x, foldedSetIterable iter1 env x = pure x := by intro _ _; rfl) :
    PS X (.Assign [.Name y py] (.DictComp kx vx [⟨tg, iter, ifs, 0⟩, ⟨tg1, iter1, ifs1, 0⟩] scope pos) spos) (tAsg (tDc2 wi g tt wi1 g1 tt1 tk tv (own.map (·.2)) vs1) (gName i)) := by
  refine ⟨fun pins s σ H D I h => ?_⟩
  rw [exec_Assign_Name_used _ _ _ _ hsw]
  refine wpAny_bind (wpAny_standAt (wpAny_bind ?_))
  show wpAny _ X.A (do let _ ← comprehension (.DictComp kx vx [⟨tg, iter, ifs, 0⟩, ⟨tg1, iter1, ifs1, 0⟩] scope pos) scope X.env (firstIterPos [⟨tg, iter, ifs, 0⟩, ⟨tg1, iter1, ifs1, 0⟩] pos) newDict false (eval iter X.env) (some (assign (.Name y py) X.env))) _ _ s
  have h : tDc2 wi g tt wi1 g1 tt1 tk tv (own.map (·.2)) vs1 σ H (fun x H1 => gName i x σ H1 D.nx) := h
  refine wpAny_bind (thn (dc2_core (Qf := fun _ s' => SP X pins D .next s') hc hN I hi ok hv hg ht hk he hs hi1 hg1 ht1 hs1 h fun L C s' m H' I' q hn f => ?_) fun _ s' hq => wpAny_pure (wpAny_pure hq))
  show wpAny _ _ (assign (.Name y py) X.env (.ref L)) _ _ _
  refine wpAny_assign_Name (store_ok2 (v := V.ref L) I' hN hy (.inl hyl) rfl (fun s2 I2 ⟨a, sb, ha⟩ => ?_) (.inr hyl))
  obtain ⟨f0, f1, f2, f3, f4, f5⟩ := f
  have haC : C ≠ a := by
    rcases ha with z | z
    · rw [z]; exact f1
    · exact fun e => f4 y a z e.symm
  refine ⟨m, hn.sameBut sb haC, fun h3 sb3 => ?_⟩
  exact ⟨_, H', I2.turned (t' := s2.toks) (fun b o hb e => (sb3.2 b hb).trans e) f0 f1 f3 f4 f5, q⟩
theorem ps_setDc {i : Nat} {y : Str} {py : Pos} {kx vx tg iter : Expr} {ifs : List Expr} {scope : Scope} {own : List (Str × Nat)} {pos spos : Pos} {wi : TI} {g : TG} {tt : TT} {tk tv : TE} (hc : X.calm = true) (hN : X.N.Nodup) (hy : X.N[i]? = some y) (hyl : X.env.scope.names.lookup y = some .local)
    (hsw : swapsWith (.DictComp kx vx [⟨tg, iter, ifs, 0⟩] scope pos) (some (.Name y py)) spos.line X.env = pure true) (hi : PI X tg iter wi) (ok : BlkOk X.N X.env.scope scope own)
    (hg : ∀ (s : Shared) (H : Hp) (C : Addr) (cl : List (Str × Addr)) (fp : List Addr), PG (X.blk s H scope (compEnvC scope cl C X.env) fp) tg g) (ht : ∀ (s : Shared) (H : Hp) (C : Addr) (cl : List (Str × Addr)) (fp : List Addr), PTs (X.blk s H scope (compEnvC scope cl C X.env) fp) ifs tt)
    (hk : ∀ (s : Shared) (H : Hp) (C : Addr) (cl : List (Str × Addr)) (fp : List Addr), PE (X.blk s H scope (compEnvC scope cl C X.env) fp) kx tk)
    (he : ∀ (s : Shared) (H : Hp) (C : Addr) (cl : List (Str × Addr)) (fp : List Addr), PE (X.blk s H scope (compEnvC scope cl C X.env) fp) vx tv) (hs : ∀ x, foldedSetIterable iter X.env x = pure x := by intro _; rfl) :
    PS X (.Assign [.Name y py] (.DictComp kx vx [⟨tg, iter, ifs, 0⟩] scope pos) spos) (tAsg (tDc wi g tt tk tv (own.map (·.2))) (gName i)) := by
  refine ⟨fun pins s σ H D I h => ?_⟩
  rw [exec_Assign_Name_used _ _ _ _ hsw]
  refine wpAny_bind (wpAny_standAt (wpAny_bind ?_))
  show wpAny _ X.A (do let _ ← comprehension (.DictComp kx vx [⟨tg, iter, ifs, 0⟩] scope pos) scope X.env (firstIterPos [⟨tg, iter, ifs, 0⟩] pos) newDict false (eval iter X.env) (some (assign (.Name y py) X.env))) _ _ s
  have h : tDc wi g tt tk tv (own.map (·.2)) σ H (fun x H1 => gName i x σ H1 D.nx) := h
  refine wpAny_bind (thn (dc_core (Qf := fun _ s' => SP X pins D .next s') hc hN I hi ok hg ht hk he hs h fun L C s' m H' I' q hn f => ?_) fun _ s' hq => wpAny_pure (wpAny_pure hq))
  show wpAny _ _ (assign (.Name y py) X.env (.ref L)) _ _ _
  refine wpAny_assign_Name (store_ok2 (v := V.ref L) I' hN hy (.inl hyl) rfl (fun s2 I2 ⟨a, sb, ha⟩ => ?_) (.inr hyl))
  obtain ⟨f0, f1, f2, f3, f4, f5⟩ := f
  have haC : C ≠ a := by
    rcases ha with z | z
    · rw [z]; exact f1
    · exact fun e => f4 y a z e.symm
  refine ⟨m, hn.sameBut sb haC, fun h3 sb3 => ?_⟩
  exact ⟨_, H', I2.turned (t' := s2.toks) (fun b o hb e => (sb3.2 b hb).trans e) f0 f1 f3 f4 f5, q⟩
theorem sw_trueD {kx vx : Expr} {gs : List Comprehension} {scope : Scope} {pos py : Pos} {y : Str} {l : Nat} {env : Env} (hk : env.scope.kind = .function) (hy : env.scope.names.lookup y = some .local) (hl : (py.line == pos.line) = true)
    (ha : (scope.names.any fun (n, k) => n == y && (k == .local || k == .cell)) = false) : swapsWith (.DictComp kx vx gs scope pos) (some (.Name y py)) l env = pure true := by
  have ky : env.kindOf y = some .local := hy
  have hb : env.blockKind = .function := by unfold Env.blockKind; rw [hk]; rfl
  unfold swapsWith
  simp only [hb, ky, ha, Expr.pos, hl]
  rfl
end
end Sq
set_option Elab.async false
set_option linter.all false
set_option maxRecDepth 100000
set_option maxHeartbeats 2000000
namespace Sq
open PySem PySem.Spec PyProof.Rows L2 RZ
/-! ### list(zip(t, u)) of tuples -/
section
variable {prog : Program} {w : World} {A : Around} {E : Value → Shared → Prop} {s : Shared}
theorem zipT_held_item {z TI TO T i1 i2 l1 l2 : Addr} {f : Bool} {oT : Obj} {k1 k2 : Nat} {xs ys : Array Value} {x y : Value} {Q : Value → Shared → Prop} (D : ZipApart z TI TO i1 i2 l1 l2)
    (hz : IsZipHeld s.heap z TI TO T f) (hT : s.heap.get? T = some oT) (hTI : IsPair s.heap TI (.ref i1) (.ref i2))
    (h1 : s.heap.IsTupleIter i1 l1 k1) (h2 : s.heap.IsTupleIter i2 l2 k2) (hl1 : s.heap.IsTuple l1 xs) (hl2 : s.heap.IsTuple l2 ys) (hx : xs[k1]? = some x) (hy : ys[k2]? = some y)
    (hQ : ∀ h', IsZipHeld h' z TI TO T true → h'.IsTupleIter i1 l1 (k1 + 1) → h'.IsTupleIter i2 l2 (k2 + 1) → IsPair h' s.heap.objs.size x y → h'.objs.size = s.heap.objs.size + 1 →
      (∀ c o, c ≠ z → c ≠ i1 → c ≠ i2 → s.heap.get? c = some o → h'.get? c = some o) → Q (.ref s.heap.objs.size) { s with heap := h' }) :
    wpAny (model prog w) A (Builtin.«zip.__next__» ⟨[.ref z], []⟩) (fun fin s' => ∃ v, fin = .done (.ret v) ∧ Q v s') E s := by
  show wpAny _ _ (field (.ref z) 2 >>= _) _ _ _
  refine wpAny_bind (wpAny_field hz rfl (x := .bool false) rfl ?_)
  show wpAny _ _ (field (.ref z) 3 >>= _) _ _ _
  refine wpAny_bind (wpAny_field hz rfl (x := .ref TI) rfl ?_)
  refine wpAny_bind (wpAny_seqItems hTI rfl ?_)
  show wpAny _ _ (Builtin.SmallTypes.ownedTupleIsFree (.ref z) >>= _) _ _ _
  refine wpAny_bind (wpAny_tupleHeld_zip hz hT fun h₁ hz₁ hs₁ => ?_)
  simp only [Bool.false_eq_true, if_false]
  refine wpAny_bind ?_
  rw [← Array.forIn_toList]
  simp only [List.forIn_cons, List.forIn_nil]
  refine wpAny_bind (wpAny_bind (wpAny_holding ?_))
  show wpAny _ _ (Builtin.SmallTypes.nextOf (.ref i1) >>= _) _ _ _
  refine wpAny_bind (nextOf_tuple_item (s := { s with heap := h₁ }) (h1.extBut hs₁.extBut D.i1z) (hl1.extBut hs₁.extBut D.l1z) hx fun h₂ h1₂ hs₂ => wpAny_pure ?_)
  refine wpAny_pure ?_
  refine wpAny_bind (wpAny_bind (wpAny_holding ?_))
  show wpAny _ _ (Builtin.SmallTypes.nextOf (.ref i2) >>= _) _ _ _
  refine wpAny_bind (nextOf_tuple_item (s := { s with heap := h₂ }) ((h2.extBut hs₁.extBut D.i2z).extBut hs₂.extBut D.i12.symm) ((hl2.extBut hs₁.extBut D.l2z).extBut hs₂.extBut D.l2i1) hy fun h₃ h2₃ hs₃ => wpAny_pure ?_)
  refine wpAny_pure (wpAny_pure ?_)
  show wpAny _ _ (newTuple [x, y] >>= _) _ _ _
  refine wpAny_bind (wpAny_newTuple ?_)
  have hsz : h₃.objs.size = s.heap.objs.size := by rw [hs₃.1, hs₂.1, hs₁.1]
  have hz₃ : IsZipHeld h₃ z TI TO T true := hs₃.extBut _ _ D.i2z.symm (hs₂.extBut _ _ D.i1z.symm hz₁)
  have hk : ∀ c o, c ≠ z → c ≠ i1 → c ≠ i2 → s.heap.get? c = some o → h₃.get? c = some o := fun c o c1 c2 c3 e => hs₃.extBut _ _ c3 (hs₂.extBut _ _ c2 (hs₁.extBut _ _ c1 e))
  have h1₃ : h₃.IsTupleIter i1 l1 (k1 + 1) := h1₂.extBut hs₃.extBut D.i12
  refine wpAny_pure ⟨_, rfl, ?_⟩
  show Q (.ref h₃.objs.size) _
  have hp : IsPair (h₃.push { cls := .type "tuple", data := .seq #[x, y] }) h₃.objs.size x y := Heap.get?_push_size _ rfl
  have hz4 : (h₃.push { cls := .type "tuple", data := .seq #[x, y] }).objs.size = h₃.objs.size + 1 := Heap.size_push ..
  rw [hsz] at hp hz4 ⊢
  exact hQ _ (Heap.get?_push_of_some _ hz₃) (h1₃.at fun o e => Heap.get?_push_of_some _ e) (h2₃.at fun o e => Heap.get?_push_of_some _ e) hp hz4 fun c o c1 c2 c3 e => Heap.get?_push_of_some _ (hk c o c1 c2 c3 e)

theorem zipT_held_end {z TI TO T i1 i2 l1 l2 : Addr} {f : Bool} {oT : Obj} {k1 k2 : Nat} {xs ys : Array Value} {Q : Fin → Shared → Prop} (hh : A.handled = none) (D : ZipApart z TI TO i1 i2 l1 l2)
    (hz : IsZipHeld s.heap z TI TO T f) (hT : s.heap.get? T = some oT) (hTI : IsPair s.heap TI (.ref i1) (.ref i2))
    (h1 : s.heap.IsTupleIter i1 l1 k1) (h2 : s.heap.IsTupleIter i2 l2 k2) (hl1 : s.heap.IsTuple l1 xs) (hl2 : s.heap.IsTuple l2 ys) (hend : xs[k1]? = none ∨ ys[k2]? = none)
    (hE : ∀ h' e, (∀ c o, c ≠ z → c ≠ i1 → c ≠ i2 → s.heap.get? c = some o → h'.get? c = some o) → (∃ o, h'.get? e = some o ∧ o.cls = .type "StopIteration") → E (.ref e) { s with heap := h' }) :
    wpAny (model prog w) A (Builtin.«zip.__next__» ⟨[.ref z], []⟩) Q E s := by
  show wpAny _ _ (field (.ref z) 2 >>= _) _ _ _
  refine wpAny_bind (wpAny_field hz rfl (x := .bool false) rfl ?_)
  show wpAny _ _ (field (.ref z) 3 >>= _) _ _ _
  refine wpAny_bind (wpAny_field hz rfl (x := .ref TI) rfl ?_)
  refine wpAny_bind (wpAny_seqItems hTI rfl ?_)
  show wpAny _ _ (Builtin.SmallTypes.ownedTupleIsFree (.ref z) >>= _) _ _ _
  refine wpAny_bind (wpAny_tupleHeld_zip hz hT fun h₁ hz₁ hs₁ => ?_)
  simp only [Bool.false_eq_true, if_false]
  refine wpAny_bind ?_
  rw [← Array.forIn_toList]
  simp only [List.forIn_cons, List.forIn_nil]
  refine wpAny_bind (wpAny_bind (wpAny_holding ?_))
  show wpAny _ _ (Builtin.SmallTypes.nextOf (.ref i1) >>= _) _ _ _
  cases hx : xs[k1]? with
  | none =>
    refine wpAny_bind (nextOf_tuple_end (s := { s with heap := h₁ }) hh (h1.extBut hs₁.extBut D.i1z) (hl1.extBut hs₁.extBut D.l1z) hx fun h₂ e hs₂ he => ?_)
    exact hE h₂ e (fun c o c1 c2 _ x => hs₂ _ _ c2 (hs₁.extBut _ _ c1 x)) he
  | some x =>
    have hy : ys[k2]? = none := by rcases hend with h | h; rw [hx] at h; cases h; exact h
    refine wpAny_bind (nextOf_tuple_item (s := { s with heap := h₁ }) (h1.extBut hs₁.extBut D.i1z) (hl1.extBut hs₁.extBut D.l1z) hx fun h₂ h1₂ hs₂ => wpAny_pure ?_)
    refine wpAny_pure ?_
    refine wpAny_bind (wpAny_bind (wpAny_holding ?_))
    show wpAny _ _ (Builtin.SmallTypes.nextOf (.ref i2) >>= _) _ _ _
    refine wpAny_bind (nextOf_tuple_end (s := { s with heap := h₂ }) hh ((h2.extBut hs₁.extBut D.i2z).extBut hs₂.extBut D.i12.symm) ((hl2.extBut hs₁.extBut D.l2z).extBut hs₂.extBut D.l2i1) hy fun h₃ e hs₃ he => ?_)
    exact hE h₃ e (fun c o c1 c2 c3 x => hs₃ _ _ c3 (hs₂.extBut _ _ c2 (hs₁.extBut _ _ c1 x))) he

theorem nextT_held_item {z TI TO T i1 i2 l1 l2 : Addr} {f : Bool} {oT : Obj} {k1 k2 : Nat} {xs ys : Array Value} {x y : Value} {Q : Option Value → Shared → Prop} (D : ZipApart z TI TO i1 i2 l1 l2)
    (hz : IsZipHeld s.heap z TI TO T f) (hT : s.heap.get? T = some oT) (hTI : IsPair s.heap TI (.ref i1) (.ref i2))
    (h1 : s.heap.IsTupleIter i1 l1 k1) (h2 : s.heap.IsTupleIter i2 l2 k2) (hl1 : s.heap.IsTuple l1 xs) (hl2 : s.heap.IsTuple l2 ys) (hx : xs[k1]? = some x) (hy : ys[k2]? = some y)
    (hQ : ∀ h', IsZipHeld h' z TI TO T true → h'.IsTupleIter i1 l1 (k1 + 1) → h'.IsTupleIter i2 l2 (k2 + 1) → IsPair h' s.heap.objs.size x y → h'.objs.size = s.heap.objs.size + 1 →
      (∀ c o, c ≠ z → c ≠ i1 → c ≠ i2 → s.heap.get? c = some o → h'.get? c = some o) → Q (some (.ref s.heap.objs.size)) { s with heap := h' }) :
    wpAny (model prog w) A (pyNext (.ref z)) Q E s := by
  have hTy : s.TypeIs (.ref z) "zip" := ⟨_, hz, rfl⟩
  unfold pyNext
  exact wpAny_bind (wpAny_attempt (wpAny_callSpecial?_slot (name := Str.ofString "__next__") hTy F.slot_zip_next
    (wpAny_call_entry F.slot_zip_next hTy F.entry_zip_next
      (zipT_held_item D hz hT hTI h1 h2 hl1 hl2 hx hy fun h' a1 a3 a4 a5 a6 a7 => wpAny_pure (hQ h' a1 a3 a4 a5 a6 a7)) (F.args_zip_next_1 _))))
theorem nextT_held_end {z TI TO T i1 i2 l1 l2 : Addr} {f : Bool} {oT : Obj} {k1 k2 : Nat} {xs ys : Array Value} {Q : Option Value → Shared → Prop} (hh : A.handled = none) (D : ZipApart z TI TO i1 i2 l1 l2)
    (hz : IsZipHeld s.heap z TI TO T f) (hT : s.heap.get? T = some oT) (hTI : IsPair s.heap TI (.ref i1) (.ref i2))
    (h1 : s.heap.IsTupleIter i1 l1 k1) (h2 : s.heap.IsTupleIter i2 l2 k2) (hl1 : s.heap.IsTuple l1 xs) (hl2 : s.heap.IsTuple l2 ys) (hend : xs[k1]? = none ∨ ys[k2]? = none)
    (hQ : ∀ h', (∀ c o, c ≠ z → c ≠ i1 → c ≠ i2 → s.heap.get? c = some o → h'.get? c = some o) → Q none { s with heap := h' }) : wpAny (model prog w) A (pyNext (.ref z)) Q E s := by
  have hTy : s.TypeIs (.ref z) "zip" := ⟨_, hz, rfl⟩
  unfold pyNext
  refine wpAny_bind (wpAny_attempt (wpAny_callSpecial?_slot (name := Str.ofString "__next__") hTy F.slot_zip_next
    (wpAny_call_entry F.slot_zip_next hTy F.entry_zip_next (zipT_held_end hh D hz hT hTI h1 h2 hl1 hl2 hend fun h' e hk he => ?_) (F.args_zip_next_1 _))))
  obtain ⟨o, ho, hc⟩ := he
  refine wpAny_bind (wpAny_isInstance (T := "StopIteration") (b := true) ⟨o, ho, hc⟩ isSubtype_stop ?_)
  exact wpAny_pure (hQ _ hk)
end
theorem zip_no_len : typeLookup (.type "zip") "__len__" = pure none := am_miss_of_fast (by decide +kernel)
theorem zip_no_hint : typeLookup (.type "zip") "__length_hint__" = pure none := am_miss_of_fast (by decide +kernel)
/-- pairs made so far -/
def Prs (H : Hp) (xs ys vs : List V) (n : Nat) : Prop := vs.length = n ∧ ∀ j, j < n → ∃ T x y, vs[j]? = some (.ref T) ∧ H T = some (.tup [x, y]) ∧ xs[j]? = some x ∧ ys[j]? = some y
theorem Prs.ext {S : List Addr} {H H' : Hp} {xs ys vs : List V} {n : Nat} (p : Prs H xs ys vs n) (e : Ext S H H') : Prs H' xs ys vs n :=
  ⟨p.1, fun j h => let ⟨T, x, y, a, b, c⟩ := p.2 j h; ⟨T, x, y, a, e.tup _ _ b, c⟩⟩
theorem Prs.snoc {H : Hp} {xs ys vs : List V} {n : Nat} {T : Addr} {x y : V} (p : Prs H xs ys vs n) (h : H T = some (.tup [x, y])) (hx : xs[n]? = some x) (hy : ys[n]? = some y) : Prs H xs ys (vs ++ [.ref T]) (n + 1) := by
  refine ⟨by rw [List.length_append, p.1]; rfl, fun j hj => ?_⟩
  by_cases q : j < n
  · obtain ⟨T, x, y, a, b⟩ := p.2 j q
    exact ⟨T, x, y, by rw [List.getElem?_append_left (by rw [p.1]; exact q)]; exact a, b⟩
  · have e : j = n := by omega
    subst e
    exact ⟨T, x, y, by rw [List.getElem?_append_right (by rw [p.1]; exact Nat.le_refl _), p.1, Nat.sub_self]; rfl, h, hx, hy⟩
/-- the zip between its turns: fresh, or a tuple that it gave out is still there -/
def ZSt (H : Hp) (h : Heap) (z TI TO : Addr) : Prop := TO < h.objs.size ∧ ((IsZip h z TI TO .none ∧ ∃ x y, IsPair h TO x y) ∨ ∃ T f q, IsZipHeld h z TI TO T f ∧ H T = some (.tup q))
section
variable {X : Cx} {pins : List (Addr × Obj)} {σ : L2.St} {z TI TO i1 i2 a b : Addr} {xs ys : List V} {A : Around} {E : Value → Shared → Prop}
theorem zip_turn {H : Hp} {s : Shared} {i : Nat} {x y : V} {Q : Option Value → Shared → Prop} (D : ZipApart z TI TO i1 i2 a b) (I : L2.Inv X pins σ H s) (ha : SqT X.K H a xs) (hb : SqT X.K H b ys) (hTI : IsPair s.heap TI (.ref i1) (.ref i2))
    (h1 : s.heap.IsTupleIter i1 a i) (h2 : s.heap.IsTupleIter i2 b i) (hz : ZSt H s.heap z TI TO) (hf : ∀ q ∈ [z, TI, TO, i1, i2], FpOk X pins H q) (hx : xs[i]? = some x) (hy : ys[i]? = some y)
    (hQ : ∀ h' T, L2.Inv X pins σ (upd H T (.tup [x, y])) { s with heap := h' } → H T = none → IsPair h' TI (.ref i1) (.ref i2) → h'.IsTupleIter i1 a (i + 1) → h'.IsTupleIter i2 b (i + 1) → ZSt (upd H T (.tup [x, y])) h' z TI TO →
      (∀ q ∈ [z, TI, TO, i1, i2], FpOk X pins (upd H T (.tup [x, y])) q) → Q (some (.ref T)) { s with heap := h' }) : wpAny (model X.prog X.w) A (pyNext (.ref z)) Q E s := by
  obtain ⟨its, rv, p, _⟩ := I.tuple ha
  obtain ⟨its2, rv2, p2, _⟩ := I.tuple hb
  obtain ⟨u, hu, ru⟩ := rv.get hx
  obtain ⟨u2, hu2, ru2⟩ := rv2.get hy
  have hu' : its.toArray[i]? = some u := by simpa using hu
  have hu2' : its2.toArray[i]? = some u2 := by simpa using hu2
  obtain ⟨TOlt, hz⟩ := hz
  have hzl : z < s.heap.objs.size := by
    rcases hz with ⟨q, _⟩ | ⟨_, _, _, q, _⟩
    · exact Heap.lt_size q
    · exact Heap.lt_size q
  have key : ∀ (h' : Heap), IsPair h' s.heap.objs.size u u2 → h'.objs.size = s.heap.objs.size + 1 → (∀ c o, c ≠ z → c ≠ TO → c ≠ i1 → c ≠ i2 → s.heap.get? c = some o → h'.get? c = some o) → h'.IsTupleIter i1 a (i + 1) → h'.IsTupleIter i2 b (i + 1) →
      ZSt (upd H s.heap.objs.size (.tup [x, y])) h' z TI TO → Q (some (.ref s.heap.objs.size)) { s with heap := h' } := fun h' hT hsz hk a1 a2 hz' => by
    have hn : H s.heap.objs.size = none := I.hok.fresh (Nat.le_refl _)
    refine hQ h' _ (I.turnedNew (t' := s.toks) (ch := [z, TI, TO, i1, i2]) (fun c o hb q => hk c o (fun q' => hb (by simp [q'])) (fun q' => hb (by simp [q'])) (fun q' => hb (by simp [q'])) (fun q' => hb (by simp [q'])) q) hf (Nat.le_refl _)
      ⟨by show 2 ≤ sizeLine; decide, [u, u2], .cons ru (.cons ru2 .nil), ⟨_, hT, rfl, _, rfl⟩⟩) hn (hk _ _ D.TIz D.TITO D.TIi1 D.TIi2 hTI) a1 a2 hz' fun c hcm => ?_
    refine ⟨?_, (hf c hcm).2⟩
    have hlt : c < s.heap.objs.size := by
      have e' : c = z ∨ c = TI ∨ c = TO ∨ c = i1 ∨ c = i2 := by simpa using hcm
      rcases e' with q | q | q | q | q
      · rw [q]; exact hzl
      · rw [q]; exact Heap.lt_size hTI
      · rw [q]; exact TOlt
      · rw [q]; obtain ⟨_, e1, _⟩ := h1; exact Heap.lt_size e1
      · rw [q]; obtain ⟨_, e2, _⟩ := h2; exact Heap.lt_size e2
    rw [upd_ne (Nat.ne_of_lt hlt)]
    exact (hf c hcm).1
  have new : ∀ o, upd H s.heap.objs.size o s.heap.objs.size = some o := fun o => upd_same
  rcases hz with ⟨hz, x0, y0, hTO⟩ | ⟨T, f, q, hz, hq⟩
  · exact RZ.pyNext_zipT_item D hz hTI hTO h1 h2 p p2 hu' hu2' fun h' z' TO' h1' h2' hT hsz hk =>
      key h' hT hsz hk h1' h2' ⟨by rw [hsz]; exact Nat.lt_succ_of_lt TOlt, .inr ⟨_, false, _, z', new _⟩⟩
  · obtain ⟨_, itsT, _, oT, hoT, _⟩ := (show ObjOk X.prog X.w H s.heap T (.tup q) from I.hok T _ hq)
    have hTn : T ≠ s.heap.objs.size := Nat.ne_of_lt (Heap.lt_size hoT)
    refine nextT_held_item D hz hoT hTI h1 h2 p p2 hu' hu2' fun h' z' h1' h2' hT hsz hk => ?_
    exact key h' hT hsz (fun c o c1 _ c3 c4 e => hk c o c1 c3 c4 e) h1' h2' ⟨by rw [hsz]; exact Nat.lt_succ_of_lt TOlt, .inr ⟨T, true, q, z', by rw [upd_ne hTn]; exact hq⟩⟩
theorem zip_over {H : Hp} {s : Shared} {i : Nat} {Q : Option Value → Shared → Prop} (hh : A.handled = none) (D : ZipApart z TI TO i1 i2 a b) (I : L2.Inv X pins σ H s) (ha : SqT X.K H a xs) (hb : SqT X.K H b ys) (hTI : IsPair s.heap TI (.ref i1) (.ref i2))
    (h1 : s.heap.IsTupleIter i1 a i) (h2 : s.heap.IsTupleIter i2 b i) (hz : ZSt H s.heap z TI TO) (hf : ∀ q ∈ [z, TI, TO, i1, i2], FpOk X pins H q) (he : xs[i]? = none ∨ ys[i]? = none)
    (hQ : ∀ h', L2.Inv X pins σ H { s with heap := h' } → Q none { s with heap := h' }) : wpAny (model X.prog X.w) A (pyNext (.ref z)) Q E s := by
  obtain ⟨its, rv, p, _⟩ := I.tuple ha
  obtain ⟨its2, rv2, p2, _⟩ := I.tuple hb
  have l1 := rv.length
  have l2 := rv2.length
  have he' : its.toArray[i]? = none ∨ its2.toArray[i]? = none := by
    rcases he with q | q
    · rw [List.getElem?_eq_none_iff] at q
      exact .inl (by simp; omega)
    · rw [List.getElem?_eq_none_iff] at q
      exact .inr (by simp; omega)
  obtain ⟨TOlt, hz⟩ := hz
  rcases hz with ⟨hz, x0, y0, hTO⟩ | ⟨T, f, q, hz, hq⟩
  · exact RZ.pyNext_zipT_end hh D hz hTI hTO h1 h2 p p2 he' fun h' hk => hQ h' (I.turnedL (t' := s.toks) (ch := [z, TI, TO, i1, i2]) (fun c o hb q =>
      hk c o (fun q' => hb (by simp [q'])) (fun q' => hb (by simp [q'])) (fun q' => hb (by simp [q'])) (fun q' => hb (by simp [q'])) q) hf)
  · obtain ⟨_, itsT, _, oT, hoT, _⟩ := (show ObjOk X.prog X.w H s.heap T (.tup q) from I.hok T _ hq)
    exact nextT_held_end hh D hz hoT hTI h1 h2 p p2 he' fun h' hk => hQ h' (I.turnedL (t' := s.toks) (ch := [z, TI, TO, i1, i2]) (fun c o hb q =>
      hk c o (fun q' => hb (by simp [q'])) (fun q' => hb (by simp [q'])) (fun q' => hb (by simp [q'])) q) hf)
theorem Ext.newer {H0 H' : Hp} {S : Addr} {o : HO} (h : Ext [S] (upd H0 S o) H') (n : H0 S = none) : Ext [] H0 H' := by
  have k : ∀ b u, H0 b = some u → b ≠ S ∧ upd H0 S o b = some u := fun b u e => by
    have q := ne_of_none e n
    exact ⟨q, by rw [upd_ne q]; exact e⟩
  refine ⟨fun b u e _ m => h.keep b u (k b u e).2 (fun z => (k b u e).1 (by simpa using z)) m, fun b xs e => h.tup b xs (k b _ e).2, fun b u v e => h.frz b u v (k b _ e).2, fun P ⟨ps, e, t⟩ => h.tab P ⟨ps, (k P _ e).2, t⟩⟩
theorem zip_loop {S : Addr} {n : Nat} {res : Value} {R : Result → Shared → Prop} (hh : A.handled = none) (D : ZipApart z TI TO i1 i2 a b) (hn : n = min xs.length ys.length) (hm : n ≤ 100000) :
    ∀ (k i : Nat) (s : Shared) (H : Hp) (vs : List V), n - i = k → i ≤ n → L2.Inv X pins σ H s → SqT X.K H a xs → SqT X.K H b ys → IsPair s.heap TI (.ref i1) (.ref i2) → s.heap.IsTupleIter i1 a i → s.heap.IsTupleIter i2 b i → ZSt H s.heap z TI TO →
      (∀ q ∈ [z, TI, TO, i1, i2], FpOk X pins H q) → H S = some (.lst vs) → Prs H xs ys vs i →
      (∀ s' H' vs', L2.Inv X pins σ H' s' → H' S = some (.lst vs') → Prs H' xs ys vs' n → Ext [S] H H' → R (.ok (.ret res)) s') →
      codeAny (model X.prog X.w) A (.builtin "list.extend.loop" ⟨[.ref S, .ref z, res], []⟩) R s := by
  intro k
  induction k with
  | zero =>
    intro i s H vs hk hi I ha hb hTI h1 h2 hz hf hS hp hR
    have e : i = n := by omega
    subst e
    refine codeAny_builtin F.entry_extend_loop ?_
    rw [Around.under_plainId F.plain_extend_loop _]
    show wpAny _ A.in1 (pyNext (.ref z) >>= _) _ _ s
    refine wpAny_bind (zip_over hh D I ha hb hTI h1 h2 hz hf ?_ fun h' I' => wpAny_pure (hR _ H vs I' hS hp (Ext.refl _ _)))
    by_cases q : xs.length ≤ i
    · exact .inl (List.getElem?_eq_none q)
    · exact .inr (List.getElem?_eq_none (by omega))
  | succ k ih =>
    intro i s H vs hk hi I ha hb hTI h1 h2 hz hf hS hp hR
    have hx : xs[i]? = some (xs[i]'(by omega)) := List.getElem?_eq_getElem _
    have hy : ys[i]? = some (ys[i]'(by omega)) := List.getElem?_eq_getElem _
    revert hx hy
    generalize xs[i]'(by omega) = x
    generalize ys[i]'(by omega) = y
    intro hx hy
    refine codeAny_builtin F.entry_extend_loop ?_
    rw [Around.under_plainId F.plain_extend_loop _]
    show wpAny _ A.in1 (pyNext (.ref z) >>= _) _ _ s
    refine wpAny_bind (zip_turn D I ha hb hTI h1 h2 hz hf hx hy fun h' T I1 hT b1 b2 b3 b4 b5 => ?_)
    have eT : Ext [S] H (upd H T (.tup [x, y])) := (Ext.new hT).any
    have hST : S ≠ T := ne_of_none hS hT
    have hS1 : upd H T (.tup [x, y]) S = some (.lst vs) := by rw [upd_ne hST]; exact hS
    obtain ⟨zle, its, c, rv, hget⟩ := (show ObjOk X.prog X.w _ h' S (.lst vs) from I1.hok S _ hS1)
    have hlen : its.length = i := by rw [← rv.length]; exact hp.1
    have hz100 : (100000 : Nat) < sizeLine := by decide
    show wpAny _ A.in1 (updateSeq S (·.push (.ref T)) >>= _) _ _ _
    refine wpAny_bind (wpAny_updateSeq hget rfl (wpAny_pure ⟨plainId_quiet F.plain_extend_loop _, ?_⟩) (by simp; omega) (by simp; omega))
    have hnew := Heap.get?_update_self (Obj.mapSeq (·.push (Value.ref T))) hget rfl
    have oth : ∀ q o, q ≠ S → h'.get? q = some o → (h'.update S (Obj.mapSeq (·.push (Value.ref T)))).get? q = some o := fun q o n e => (Heap.get?_update_other _ _ (Ne.symm n)).trans e
    have I2 : L2.Inv X pins σ (upd (upd H T (.tup [x, y])) S (.lst (vs ++ [.ref T]))) { s with heap := h'.update S (Obj.mapSeq (·.push (Value.ref T))) } :=
      I1.write (t' := s.toks) (x := S) (e := S) (by rw [hS1]; exact True.intro) (.inl rfl) oth ⟨_, hnew⟩ ⟨by rw [List.length_append, hp.1]; show i + 1 ≤ _; omega, its ++ [.ref T], _, rv.append (.cons (show L2.RelV (.ref T) (Value.ref T) from rfl) .nil), by
        have q := hnew
        simp only [Obj.mapSeq, List.push_toArray] at q
        exact q⟩
    have eS : Ext [S] (upd H T (.tup [x, y])) (upd (upd H T (.tup [x, y])) S (.lst (vs ++ [.ref T]))) := Ext.setL List.mem_cons_self hS1
    have tT : (upd (upd H T (.tup [x, y])) S (.lst (vs ++ [.ref T]))) T = some (.tup [x, y]) := by rw [upd_ne hST.symm, upd_same]
    have ne : ∀ q ∈ [z, TI, TO, i1, i2], q ≠ S := fun q hq e => by
      have := (b5 q hq).1
      rw [e, hS1] at this
      cases this
    refine ih (i + 1) _ _ (vs ++ [.ref T]) (by omega) (by omega) I2 ((eT.trans eS).sqT ha) ((eT.trans eS).sqT hb) (oth _ _ (ne _ (by simp)) b1) (b2.at fun o e => oth _ o (ne _ (by simp)) e) (b3.at fun o e => oth _ o (ne _ (by simp)) e) ?_
      (fun q hq => ⟨by rw [upd_ne (ne q hq)]; exact (b5 q hq).1, (b5 q hq).2⟩) upd_same ((hp.ext (eT.trans eS)).snoc tT hx hy) fun s' H' vs' I' e' p' x' => hR s' H' vs' I' e' p' ((eT.trans eS).trans x')
    obtain ⟨l, b4⟩ := b4
    refine ⟨Nat.lt_of_lt_of_le l (Nat.le_of_eq (by first | rfl | exact (Heap.size_update ..).symm)), ?_⟩
    rcases b4 with ⟨q, x0, y0, q2⟩ | ⟨T', f, q, q1, q2⟩
    · exact .inl ⟨oth _ _ (ne _ (by simp)) q, x0, y0, oth _ _ (ne _ (by simp)) q2⟩
    · exact .inr ⟨T', f, q, oth _ _ (ne _ (by simp)) q1, (eS.tup _ _ q2)⟩
theorem call_list_zip {H : Hp} {s : Shared} {Q : Value → Shared → Prop} (hh : A.handled = none) (D : ZipApart z TI TO i1 i2 a b) (I : L2.Inv X pins σ H s) (ha : SqT X.K H a xs) (hb : SqT X.K H b ys) (hTI : IsPair s.heap TI (.ref i1) (.ref i2))
    (h1 : s.heap.IsTupleIter i1 a 0) (h2 : s.heap.IsTupleIter i2 b 0) (hz : IsZip s.heap z TI TO .none) (hTO : ∃ x y, IsPair s.heap TO x y) (hf : ∀ q ∈ [z, TI, TO, i1, i2], FpOk X pins H q) (hm : min xs.length ys.length ≤ 100000)
    (hQ : ∀ S s' H' vs, H S = none → L2.Inv X pins σ H' s' → H' S = some (.lst vs) → Prs H' xs ys vs (min xs.length ys.length) → Ext [] H H' → Q (.ref S) s') : wpAny (model X.prog X.w) A (call (.type "list") [.ref z]) Q E s := by
  have hSz : s.heap.objs.size ≠ z := Nat.ne_of_gt (Heap.lt_size hz)
  refine callType_codes (Q₁ := fun obj s₁ => obj = .ref s.heap.objs.size ∧ s₁ = { s with heap := s.heap.push { cls := .type "list", data := .seq #[] } }) F.called_list (F.typeCall_list_1 _) F.entry_list_init
    (code_list_new _ ⟨rfl, rfl⟩) fun obj s₁ h₁ => ?_
  obtain ⟨rfl, rfl⟩ := h₁
  have hS : (s.heap.push { cls := .type "list", data := .seq #[] }).get? s.heap.objs.size = some { cls := .type "list", data := .seq #[] } := Heap.get?_push_size _ rfl
  refine ⟨⟨_, hS, rfl⟩, F.args_list_init_2 _ _, ?_⟩
  show wpAny _ A.in1.in1 (do let old ← Builtin.List.listItems (.ref s.heap.objs.size); Builtin.List.listUpdate (.ref s.heap.objs.size) (fun _ => #[]); letGo old.toList.reverse; Builtin.List.listExtendWith (.ref s.heap.objs.size) (.ref z) .none) _ _ _
  refine wpAny_bind ?_
  unfold Builtin.List.listItems
  refine wpAny_bind (wpAny_seqItems hS rfl (wpAny_pure ?_))
  show wpAny _ A.in1.in1 (updateSeq s.heap.objs.size (fun _ => #[]) >>= fun _ => letGo (#[] : Array Value).toList.reverse >>= fun _ => Builtin.List.listExtendWith (.ref s.heap.objs.size) (.ref z) .none) _ _ _
  refine wpAny_bind (wpAny_updateSeq hS rfl ?_)
  have hS2 := Heap.get?_update_self (Obj.mapSeq (fun _ => (#[] : Array Value))) hS rfl
  refine wpAny_bind (wpAny_letGo ?_)
  unfold Builtin.List.listExtendWith
  have up : ∀ (h : Heap) (f : Obj → Obj), (∀ b o, s.heap.get? b = some o → h.get? b = some o) → ∀ b o, s.heap.get? b = some o → (h.update s.heap.objs.size f).get? b = some o := fun h f q b o e =>
    (Heap.get?_update_other _ _ (Ne.symm (Nat.ne_of_lt (Heap.lt_size e)))).trans (q b o e)
  have k1 : ∀ b o, s.heap.get? b = some o → (s.heap.push { cls := .type "list", data := .seq #[] }).get? b = some o := fun b o e => Heap.get?_push_of_some _ e
  have k2 := up _ (Obj.mapSeq (fun _ => (#[] : Array Value))) k1
  refine wpAny_bind (wpAny_typeOf (T := "zip") ⟨_, k2 _ _ hz, rfl⟩ ?_)
  have g1 : Builtin.List.listSameRef (.ref s.heap.objs.size) (.ref z) = false := by simp [Builtin.List.listSameRef, hSz]
  have g2 : (Value.type "zip" == Value.type "list") = false := by decide
  have g3 : (Value.type "zip" == Value.type "tuple") = false := by decide
  simp only [g1, g2, g3, Bool.or_false, Bool.false_eq_true, if_false]
  refine wpAny_bind (wpAny_pyIter_zip (k2 _ _ hz) ?_)
  refine wpAny_bind (wpAny_holding ?_)
  unfold Builtin.List.listLengthHint
  refine wpAny_bind (wpAny_specialOf (T := "zip") ⟨_, k2 _ _ hz, rfl⟩ zip_no_len ?_)
  show wpAny _ A.in1.in1 (specialOf (Value.ref z) (Str.ofString "__length_hint__") >>= _) _ _ _
  refine wpAny_bind (wpAny_specialOf (T := "zip") ⟨_, k2 _ _ hz, rfl⟩ zip_no_hint ?_)
  refine wpAny_pure ?_
  show wpAny _ A.in1.in1 (rule "list.extend.makes-room" >>= fun _ => Builtin.List.listTouch (.ref s.heap.objs.size) >>= fun _ =>
    again (.builtin "list.extend.loop" ⟨[.ref s.heap.objs.size, .ref z, .none], []⟩)) _ _ _
  refine wpAny_bind (wpAny_rule ?_)
  refine wpAny_bind ?_
  show wpAny _ A.in1.in1 (updateSeq s.heap.objs.size (·.push .none) >>= fun _ => updateSeq s.heap.objs.size (·.pop)) _ _ _
  refine wpAny_bind (wpAny_updateSeq hS2 rfl ?_)
  have hS3 := Heap.get?_update_self (Obj.mapSeq (·.push Value.none)) hS2 rfl
  refine wpAny_updateSeq (hz := by seq_fits) hS3 rfl ?_
  have hS4 := Heap.get?_update_self (Obj.mapSeq (·.pop)) hS3 rfl
  have k4 := up _ (Obj.mapSeq (·.pop)) (up _ (Obj.mapSeq (·.push Value.none)) k2)
  refine wpAny_pure ⟨plainId_quiet F.plain_extend_loop _, ?_⟩
  have hSn : H s.heap.objs.size = none := I.hok.fresh (Nat.le_refl _)
  have I1 : L2.Inv X pins σ (upd H s.heap.objs.size (.lst [])) { s with heap := _ } := I.laid (t' := s.toks) k4 (Nat.le_refl _) ⟨Nat.zero_le _, [], _, .nil, hS4⟩
  have e1 : Ext [] H (upd H s.heap.objs.size (.lst [])) := Ext.new hSn
  refine zip_loop (A := A.in1) (n := min xs.length ys.length) hh D rfl hm _ 0 _ _ [] rfl (Nat.zero_le _) I1 (e1.sqT ha) (e1.sqT hb) (k4 _ _ hTI) (h1.at fun o e => k4 _ o e) (h2.at fun o e => k4 _ o e) ?_ (fun q hq => ⟨?_, (hf q hq).2⟩) upd_same ⟨rfl, fun j hj => by omega⟩
    fun s' H' vs' I' e' p' x' => ⟨rfl, hQ _ s' H' vs' hSn I' e' p' (x'.newer hSn)⟩
  · obtain ⟨x0, y0, q⟩ := hTO
    exact ⟨Heap.lt_size (k4 _ _ q), .inl ⟨k4 _ _ hz, x0, y0, k4 _ _ q⟩⟩
  · have lt : q < s.heap.objs.size := by
      have e' : q = z ∨ q = TI ∨ q = TO ∨ q = i1 ∨ q = i2 := by simpa using hq
      rcases e' with e | e | e | e | e
      · rw [e]; exact Heap.lt_size hz
      · rw [e]; exact Heap.lt_size hTI
      · obtain ⟨x0, y0, q'⟩ := hTO; rw [e]; exact Heap.lt_size q'
      · rw [e]; obtain ⟨_, e1, _⟩ := h1; exact Heap.lt_size e1
      · rw [e]; obtain ⟨_, e2, _⟩ := h2; exact Heap.lt_size e2
    rw [upd_ne (Nat.ne_of_lt lt)]
    exact (hf q hq).1
end
/-- the pairs as they are read -/
def PrsF (K : PySem.W.Frag) (H : Hp) (xs ys vs : List V) (n : Nat) : Prop := vs.length = n ∧ ∀ j, j < n → ∃ T x y, vs[j]? = some (.ref T) ∧ tupF K H T = some [x, y] ∧ xs[j]? = some x ∧ ys[j]? = some y
theorem Prs.f {K : PySem.W.Frag} {H : Hp} {xs ys vs : List V} {n : Nat} (p : Prs H xs ys vs n) (k : NK K H) : PrsF K H xs ys vs n :=
  ⟨p.1, fun j h => let ⟨T, x, y, a, b, c⟩ := p.2 j h; ⟨T, x, y, a, tupF_at (NK.at k b) b, c⟩⟩
/-- list(zip(t, u)) -/
def tLZip (K : PySem.W.Frag) (ta : TA) : TE := fun σ H Q => ta σ H fun vs H1 => ∃ a b xs ys, vs = [.ref a, .ref b] ∧ tupF K H1 a = some xs ∧ tupF K H1 b = some ys ∧ min xs.length ys.length ≤ 100000 ∧
  ∀ S H2 ws, H1 S = none → Ext [] H1 H2 → H2 S = some (.lst ws) → PrsF K H2 xs ys ws (min xs.length ys.length) → Q (.ref S) H2
theorem pe_lzip {X : Cx} {e e2 : Expr} {ta : TA} {p p2 pos pos2 : Pos} (hc : X.calm = true) (hg : Gl X "zip") (hm : X.mg "zip" = none) (hgl : Gl X "list") (hml : X.mg "list" = none) (ha : PA X [e, e2] ta)
    (hs : starEach [e, e2] X.env = (false, eval e X.env) :: starEach [e2] X.env := by rfl) (hpl : (backTo pos (starEach [e2] X.env)).any (·.1) = false := by rfl)
    (hs2 : starEach [.Call (.Name "zip" p) [e, e2] [] pos] X.env = [(false, eval (.Call (.Name "zip" p) [e, e2] [] pos) X.env)] := by rfl) :
    PE X (.Call (.Name "list" p2) [.Call (.Name "zip" p) [e, e2] [] pos] [] pos2) (tLZip X.K ta) := by
  refine ⟨fun pins s σ H Q I h => ?_⟩
  refine Call_ (ld_blt I hgl hml boot_list (PyProof.Rows.callWith_type1 ?_ hs2 rfl))
  rw [hs2]
  show wpAny _ _ (spliced ((false, eval (.Call (.Name "zip" p) [e, e2] [] pos) X.env) :: backTo pos2 (starEach [] X.env))) _ _ s
  refine Calls.spliced_cons ?_
  refine Call_ (ld_blt I hg hm PyProof.Rows.boot_zip (PyProof.Rows.callWith_type1 (thn (ha.run pos pins s σ H _ I h) fun us s1 ⟨vs, H1, I1, r1, q1⟩ => ?_) hs hpl))
  obtain ⟨a, b, xs, ys, ex, hqa, hqb, hmin, q⟩ := q1
  subst ex
  cases r1 with
  | cons r rr =>
    cases rr with
    | cons r' rr =>
      cases rr
      cases r
      cases r'
      have fresh5 : ∀ c, c ∈ [s1.heap.objs.size + 4, s1.heap.objs.size + 2, s1.heap.objs.size + 3, s1.heap.objs.size, s1.heap.objs.size + 1] → FpOk X pins H1 c := fun c hcm => by
        have e' : c = s1.heap.objs.size + 4 ∨ c = s1.heap.objs.size + 2 ∨ c = s1.heap.objs.size + 3 ∨ c = s1.heap.objs.size ∨ c = s1.heap.objs.size + 1 := by simpa using hcm
        have hle : s1.heap.objs.size ≤ c := by
          rcases e' with z | z | z | z | z <;> rw [z]
          · exact Nat.le_add_right _ _
          · exact Nat.le_add_right _ _
          · exact Nat.le_add_right _ _
          · exact Nat.le_refl _
          · exact Nat.le_add_right _ _
        exact I1.fpOk hle (I1.hok.fresh hle)
      obtain ⟨its, rv, p1, _⟩ := I1.tuple (tupF_sq hqa)
      obtain ⟨its2, rv2, p2, _⟩ := I1.tuple (tupF_sq hqb)
      obtain ⟨o1, ho1, _⟩ := id p1
      obtain ⟨o2, ho2, _⟩ := id p2
      refine call_zipT (show s1.heap.IsTuple a its.toArray from p1) (show s1.heap.IsTuple b its2.toArray from p2) fun h' hz hTI hTO h1 h2 hsz hk => Calls.spliced_nil ?_
      have I2 : L2.Inv X pins σ H1 { s1 with heap := h' } := I1.kept (t' := s1.toks) hk
      exact call_list_zip (I1.ok.hd hc) (PySem.W.ktu_apart s1.heap.objs.size a b (Heap.lt_size ho1) (Heap.lt_size ho2)) I2 (tupF_sq hqa) (tupF_sq hqb) hTI h1 h2 hz ⟨_, _, hTO⟩ fresh5 hmin fun S s' H' vs hS I' e' p' x' => ⟨.ref S, H', I', rfl, q S H' vs hS x' e' (p'.f (inv_nk I'))⟩
end Sq
set_option Elab.async false
set_option linter.all false
set_option maxRecDepth 100000
set_option maxHeartbeats 2000000
namespace Sq
open PySem PySem.Spec PyProof.Rows L2 RZ
open PySem.AutoSeq1 (wpAny_loadPart')
theorem enumT_new (l : Addr) (items : Array Value) (n : Nat) (dct : Option Addr) (sl : Array (Option Value)) :
    Meets (Builtin.«enumerate.__new__» ⟨[.type "enumerate", .ref l], []⟩) (fun _ R s => s.heap.get? l = some { cls := .type "tuple", dict := dct, data := .seq items n, slots := sl } ∧
      R (.ok (.ret (.ref (s.heap.push { cls := .type "tuple_iterator", data := .fields #[.ref l, .int 0 0] }).objs.size)))
        { s with heap := (s.heap.push { cls := .type "tuple_iterator", data := .fields #[.ref l, .int 0 0] }).push { cls := .type "enumerate", data := .fields #[.none, .bool false, .ref s.heap.objs.size, rawInt 0, .none, .none] } }) :=
  .of_wp fun prog w A R s h => by
    obtain ⟨hp, g, d, tk, os⟩ := s; obtain ⟨hl, h⟩ := h
    have hsub := sub_enumerate
    have hL : Heap.IsTuple (Shared.heap ⟨hp, g, d, tk, os⟩) l items := ⟨_, hl, rfl, n, rfl⟩
    wp_walk using wpAny_loadPart' hl
    refine wpAny_stack_any fun st => wpAny_pure ?_
    split
    · rename_i c _ _ _ _ _
      cases (c == Value.type "enumerate")
      · wp_walk using wpAny_loadPart' hl, wpAny_pyIter_tuple hL
        exact ⟨_, rfl, h⟩
      · wp_walk using wpAny_loadPart' hl, wpAny_pyIter_tuple hL
        exact ⟨_, rfl, h⟩
    · wp_walk using wpAny_loadPart' hl, wpAny_pyIter_tuple hL
      exact ⟨_, rfl, h⟩

section
variable {prog : Program} {w : World} {A : Around} {E : Value → Shared → Prop} {s : Shared}
theorem call_enumT {l : Addr} {items : Array Value} {Q : Value → Shared → Prop} (hL : s.heap.IsTuple l items)
    (h : ∀ h', IsEnum h' (s.heap.objs.size + 1) s.heap.objs.size 0 .none → h'.IsTupleIter s.heap.objs.size l 0 → h'.objs.size = s.heap.objs.size + 2 →
      (∀ b o, s.heap.get? b = some o → h'.get? b = some o) → Q (.ref (s.heap.objs.size + 1)) { s with heap := h' }) :
    wpAny (model prog w) A (call (.type "enumerate") [.ref l]) Q E s := by
  obtain ⟨⟨c, dct, dt, sl⟩, hl, hc, n, hd⟩ := hL
  replace hc : c = .type "tuple" := hc
  replace hd : dt = .seq items n := hd
  subst hc hd
  refine callType_new F.called_enumerate (by decide) (F.typeCall_enumerate_1 _) (F.newCall_enumerate_1 _) (fun obj => F.args_object_init_2 obj _) F.entry_enumerate_new
    (enumT_new l items n dct sl) ⟨hl, ?_⟩
  have hz : (s.heap.push { cls := .type "tuple_iterator", data := .fields #[.ref l, .int 0 0] }).objs.size = s.heap.objs.size + 1 := Heap.size_push ..
  show _ ∧ _
  rw [hz]
  have he : IsEnum ((s.heap.push { cls := .type "tuple_iterator", data := .fields #[.ref l, .int 0 0] }).push
      { cls := .type "enumerate", data := .fields #[.none, .bool false, .ref s.heap.objs.size, rawInt 0, .none, .none] }) (s.heap.objs.size + 1) s.heap.objs.size 0 .none := by
    have := Heap.get?_push_size (s.heap.push { cls := .type "tuple_iterator", data := .fields #[.ref l, .int 0 0] })
      (o := { cls := .type "enumerate", data := .fields #[.none, .bool false, .ref s.heap.objs.size, rawInt 0, .none, .none] }) rfl
    rw [hz] at this; exact this
  refine ⟨⟨_, he, rfl⟩, h _ he ⟨_, Heap.get?_push_of_some _ (Heap.get?_push_size _ rfl), rfl, rfl⟩ (by rw [Heap.size_push, hz]) fun b o x => Heap.get?_push_of_some _ (Heap.get?_push_of_some _ x)⟩

end
theorem drawsT {prog : Program} {w : World} {A : Around} (hh : A.handled = none) (it l : Addr) (hne : l ≠ it) (items : Array Value) :
    Draws prog w A it [it, l] items.size (fun i v => items[i]? = some v) (fun i h => h.IsTupleIter it l i ∧ h.IsTuple l items) where
  live := fun _ _ st => let ⟨o, ho, _⟩ := st.1; ⟨o, ho⟩
  frame := fun _ _ _ st hk => ⟨st.1.at fun o e => hk it (by simp) o e, let ⟨o, e, r⟩ := st.2; ⟨o, hk l (by simp) o e, r⟩⟩
  item := fun i s Q E hi st hQ => by
    refine nextOf_tuple_item st.1 st.2 (x := items[i]) (by simp [hi]) fun h' hit' hs' => ?_
    exact hQ _ h' s.toks (by simp [hi]) ⟨hit', st.2.extBut hs'.extBut hne⟩ hs'
  done := fun s Q E st hE => nextOf_tuple_end hh st.1 st.2 (by simp) hE
theorem wpAny_pyNext_enum_endT {prog : Program} {w : World} {A : Around} {E : Value → Shared → Prop} {s : Shared} {e it l : Addr} {i : Nat} {items : Array Value} {old : Value} {Q : Option Value → Shared → Prop} (hh : A.handled = none)
    (he : IsEnum s.heap e it i old) (hit : s.heap.IsTupleIter it l i) (hl : s.heap.IsTuple l items) (hx : items[i]? = none)
    (hQ : ∀ h', Heap.ExtBut it s.heap h' → Q none { s with heap := h' }) : wpAny (model prog w) A (pyNext (.ref e)) Q E s := by
  have hT : s.TypeIs (.ref e) "enumerate" := ⟨_, he, rfl⟩
  unfold pyNext
  refine wpAny_bind (wpAny_attempt (wpAny_callSpecial?_slot (name := Str.ofString "__next__") hT F.slot_enumerate_next
    (wpAny_call_entry F.slot_enumerate_next hT F.entry_enumerate_next ?_ (F.args_enumerate_next_1 _))))
  show wpAny _ _ (field (.ref e) 2 >>= _) _ _ _
  refine wpAny_bind (wpAny_field he rfl (x := .ref it) rfl ?_)
  refine wpAny_bind (nextOf_tuple_end hh hit hl hx fun h' x he' hx' => ?_)
  obtain ⟨o, ho, hc⟩ := hx'
  refine wpAny_bind (wpAny_isInstance (T := "StopIteration") (b := true) ⟨o, ho, hc⟩ isSubtype_stop ?_)
  exact wpAny_pure (hQ _ he')
def IteT (K : PySem.W.Frag) (a : Addr) : It :=
  ⟨fun i H => ∃ (xs : List V) (x : V), SqT K H a xs ∧ xs[i]? = some x, fun i H v H' => ∃ T x, v = .ref T ∧ H T = none ∧ H' = upd H T (.tup [.int (i : Nat), x]) ∧ ∀ xs, SqT K H a xs → xs[i]? = some x, fun i H => ∃ xs : List V, SqT K H a xs ∧ xs.length ≤ i⟩
theorem turn_enumT {P : Program} {w : World} {K : PySem.W.Frag} {elts : List Expr} {kk : Nat} {tpos : Pos} (a e it : Addr) :
    Turn P w K (.Tuple elts kk tpos) (IteT K a) [e, it] e (fun i h => (∃ old, IsEnum h e it ((i : Nat) : Int) old) ∧ h.IsTupleIter it a i ∧ e ≠ it ∧ a ≠ it ∧ a ≠ e) where
  mem := by simp
  obj := fun i h st b hb => by
    obtain ⟨⟨old, he⟩, ⟨o, ho, hc, hd⟩, _⟩ := st
    have e' : b = e ∨ b = it := by simpa using hb
    rcases e' with z | z
    · rw [z]; exact ⟨_, he, fun v q => nomatch q⟩
    · rw [z]; exact ⟨o, ho, fun v q => by rw [hd] at q; cases q⟩
  keep := fun i h h' st k => let ⟨⟨old, he⟩, hi, hne⟩ := st; ⟨⟨old, k e (by simp) _ he⟩, hi.at fun o q => k it (by simp) o q, hne⟩
  item := by
    intro X hP hw hK hc i pins s σ H E I hf st hg
    subst hP hw hK
    obtain ⟨⟨old, he⟩, hit, hne⟩ := st
    obtain ⟨xs, x, hq, hx⟩ := hg
    obtain ⟨its, rv, p, hz⟩ := I.tuple hq
    obtain ⟨u, hu, ru⟩ := rv.get hx
    have hel : e < s.heap.objs.size := Heap.lt_size he
    have hil : it < s.heap.objs.size := by obtain ⟨_, q, _⟩ := hit; exact Heap.lt_size q
    have hn : i < its.toArray.size := by
      have := rv.length
      have := (List.getElem?_eq_some_iff.mp hx).1
      simp
      omega
    refine wpAny_pyNext_enum_itemD (drawsT (prog := X.prog) (w := X.w) (A := X.A.in1) (show X.A.in1.handled = none from I.ok.hd hc) it a hne.2.1 its.toArray) he ⟨hit, p⟩ hn hne.1 (by simp; exact ⟨hne.1, hne.2.2.symm⟩) fun u' h' tk hu' ho ⟨hit', _⟩ hT hsz hk => ?_
    have eu : u' = u := by
      have hu2 : its.toArray[i]? = some u := by simpa using hu
      rw [hu2] at hu'
      exact (Option.some.inj hu').symm
    subst eu
    refine ⟨_, rfl, wpAny_letOwnedTupleGo_enum (s := { s with heap := h', toks := tk + 1 }) ho fun h'' he' sb => ?_⟩
    have hT2 : h''.get? s.heap.objs.size = some { cls := .type "tuple", data := .seq #[.int i tk, u'] } := (sb.2 _ (Nat.ne_of_gt hel)).trans hT
    have new : ObjOk X.prog X.w (upd H s.heap.objs.size (.tup [.int (i : Nat), x])) h'' s.heap.objs.size (.tup [.int (i : Nat), x]) :=
      ⟨by show 2 ≤ sizeLine; decide, [.int i tk, u'], .cons ⟨_, rfl⟩ (.cons ru .nil), ⟨_, hT2, rfl, _, rfl⟩⟩
    have I1 : Inv X pins σ (upd H s.heap.objs.size (.tup [.int (i : Nat), x])) { s with heap := h'', toks := tk + 1 } :=
      I.turnedNew (ch := [e, it]) (fun b ob hb q => (sb.2 b (fun z => hb (by simp [z]))).trans (hk b ob (fun z => hb (by simp [z])) (fun z => hb (by simp [z])) q)) hf (Nat.le_refl _) new
    refine ⟨.ref s.heap.objs.size, _, I1, rfl, ⟨_, x, rfl, I.hok.fresh (Nat.le_refl _), rfl, fun ys hy => by rw [I.tuple_inj hy hq]; exact hx⟩, ⟨⟨u', ?_⟩, hit'.at fun o q => (sb.2 it (Ne.symm hne.1)).trans q, hne⟩, fun b hb => ?_⟩
    · have e1 : ((i + 1 : Nat) : Int) = (i : Int) + 1 := by omega
      rw [e1]; exact he'
    · have hb' : b < s.heap.objs.size := by
        have e' : b = e ∨ b = it := by simpa using hb
        rcases e' with z | z
        · rw [z]; exact hel
        · rw [z]; exact hil
      rw [upd_ne (Nat.ne_of_lt hb')]
      exact (hf b hb).1
  done := by
    intro X hP hw hK hc i pins s σ H E I hf st hg
    subst hP hw hK
    obtain ⟨⟨old, he⟩, hit, hne⟩ := st
    obtain ⟨xs, hq, hx⟩ := hg
    obtain ⟨its, rv, p, hz⟩ := I.tuple hq
    obtain ⟨f0, f1, f2, f3, f4, f5⟩ := hf it (by simp)
    have hl := rv.length
    have en : i = its.toArray.size ∨ i > its.toArray.size := by simp; omega
    exact wpAny_pyNext_enum_endT (I.ok.hd hc) he hit p (by simp; omega) fun h' eb => ⟨rfl, I.turned (t' := s.toks) (fun b o hb q => eb b o hb q) f0 f1 f3 f4 f5⟩
  self := fun A i s Q E st h => let ⟨⟨_, he⟩, _⟩ := st; wpAny_pyIter_enum he h
def iEnumF (K : PySem.W.Frag) (ta : TA) : TI := fun σ H R => ta σ H fun vs H1 => ∃ a xs, vs = [.ref a] ∧ tupF K H1 a = some xs ∧ R (IteT K a) H1
theorem pi_enumF {X : Cx} {e : Expr} {ta : TA} {p pos tpos : Pos} {elts : List Expr} {kk : Nat} (hg : Gl X "enumerate") (hm : X.mg "enumerate" = none) (ha : PA X [e] ta) (hs : starEach [e] X.env = [(false, eval e X.env)] := by rfl) :
    PI X (.Tuple elts kk tpos) (.Call (.Name "enumerate" p) [e] [] pos) (iEnumF X.K ta) := by
  refine ⟨fun pins s σ H R I h => ?_⟩
  refine Call_ (ld_blt I hg hm boot_enumerate (PyProof.Rows.callWith_type1 (thn (ha.run pos pins s σ H _ I h) fun us s1 ⟨vs, H1, I1, r1, q1⟩ => ?_) hs rfl))
  obtain ⟨a, xs, ex, hq, q⟩ := q1
  subst ex
  cases r1 with
  | cons r rr =>
    cases rr
    cases r
    obtain ⟨its, rv, p', hz⟩ := I1.tuple (tupF_sq hq)
    have hal : a < s1.heap.objs.size := by obtain ⟨o1, ho1, _⟩ := id p'; exact Heap.lt_size ho1
    refine call_enumT (show s1.heap.IsTuple a its.toArray from p') fun h' he hit hsz hk => wpAny_pyIter_enum he ?_
    have I2 : Inv X pins σ H1 { s1 with heap := h' } := I1.kept (t' := s1.toks) hk
    refine ⟨s1.heap.objs.size + 1, [s1.heap.objs.size + 1, s1.heap.objs.size], _, _, H1, rfl, I2, turn_enumT a (s1.heap.objs.size + 1) s1.heap.objs.size, ⟨⟨.none, he⟩, hit, Nat.succ_ne_self _, Nat.ne_of_lt hal, Nat.ne_of_lt (Nat.lt_succ_of_lt hal)⟩, fun b hb => ?_, q⟩
    have e' : b = s1.heap.objs.size + 1 ∨ b = s1.heap.objs.size := by simpa using hb
    have hle : s1.heap.objs.size ≤ b := by
      rcases e' with z | z
      · rw [z]; exact Nat.le_add_right _ _
      · rw [z]; exact Nat.le_refl _
    exact I1.fpOk hle (I1.hok.fresh hle)
theorem walk_enumT {K : PySem.W.Frag} {a : Addr} {xs : List V} : Walk (IteT K a) xs.length (fun H => SqT K H a xs) (YPair (fun i => some (.int (i : Nat))) (fun i => xs[i]?)) := by
  refine ⟨fun i _ hi q => ⟨xs, xs[i], q, by simp [hi]⟩, fun _ q => ⟨xs, q, Nat.le_refl _⟩, fun i H v H' _ q y => ?_⟩
  obtain ⟨T, x, h1, h2, h3, h4⟩ := y
  exact ⟨T, .int (i : Nat), x, h1, h2, h3, rfl, h4 xs q⟩
theorem walk_zipT {K : PySem.W.Frag} {a b : Addr} {xs ys : List V} {n : Nat} (hn : n = min xs.length ys.length) : Walk (ItzT K a b) n (fun H => SqT K H a xs ∧ SqT K H b ys) (YPair (fun i => xs[i]?) (fun i => ys[i]?)) := by
  subst hn
  refine ⟨fun i _ hi q => ?_, fun _ q => ⟨xs, ys, q.1, q.2, by omega⟩, fun i H v H' _ q y => ?_⟩
  · have h1 : i < xs.length := by omega
    have h2 : i < ys.length := by omega
    exact ⟨xs, ys, xs[i], ys[i], q.1, q.2, by simp [h1], by simp [h2]⟩
  · obtain ⟨T, x, z, h1, h2, h3, h4, h5⟩ := y
    exact ⟨T, x, z, h1, h2, h3, h4 xs q.1, h5 ys q.2⟩
end Sq
set_option Elab.async false
set_option linter.all false
set_option maxRecDepth 100000
set_option maxHeartbeats 2000000
namespace Sq
open PySem PySem.Spec PyProof.Rows L2
/-! ### dicts with texts as keys, as they are read -/
def dcO : Option HO → Option (List (Key × V))
  | some (.dK kvs) => some kvs
  | some (.frz _ (.dK kvs)) => some kvs
  | _ => none
def dctF (H : Hp) (a : Addr) : Option (List (Key × V)) := dcO (H a)
theorem dctF_dK {H : Hp} {a : Addr} {kvs : List (Key × V)} (h : H a = some (.dK kvs)) : dctF H a = some kvs := by unfold dctF; rw [h]; rfl
theorem dctF_frz {H : Hp} {a : Addr} {o : Obj} {kvs : List (Key × V)} (h : H a = some (.frz o (.dK kvs))) : dctF H a = some kvs := by unfold dctF; rw [h]; rfl
theorem dctF_rd {H : Hp} {a : Addr} {kvs : List (Key × V)} (h : dctF H a = some kvs) : Rd H a (.dK kvs) := by
  unfold dctF dcO at h
  split at h
  · rename_i e; cases h; exact .inl e
  · rename_i o _ e; cases h; exact .inr ⟨o, e⟩
  · cases h
theorem dctF_ext {S : List Addr} {H H' : Hp} {a : Addr} {kvs : List (Key × V)} (e : Ext S H H') (n : a ∉ S) (h : dctF H a = some kvs) : dctF H' a = some kvs := by
  rcases dctF_rd h with q | ⟨o, q⟩
  · exact dctF_dK (e.dK q n)
  · exact dctF_frz (e.frz _ _ _ q)
/-! ### locks -/
theorem Ext.lock {H : Hp} {d : Addr} {u : HO} {o : Obj} (e : H d = some u) (h1 : ∀ xs, u ≠ .tup xs) (h2 : ∀ o v, u ≠ .frz o v) (h3 : ∀ ps, u ≠ .tbl ps) : Ext [d] H (upd H d (.frz o u)) := Ext.set List.mem_cons_self e h1 h2 h3
theorem Ext.lockD {H : Hp} {d : Addr} {kvs : List (Key × V)} {o : Obj} (e : H d = some (.dK kvs)) : Ext [d] H (upd H d (.frz o (.dK kvs))) := Ext.lock e (fun _ z => by cases z) (fun _ _ z => by cases z) (fun _ z => by cases z)
theorem Ext.unlockD {S : List Addr} {H H' : Hp} {d : Addr} {kvs : List (Key × V)} {o : Obj} (e : H d = some (.dK kvs)) (h : Ext S (upd H d (.frz o (.dK kvs))) H') : Ext S H (upd H' d (.dK kvs)) := by
  have k : ∀ b u, H b = some u → b ≠ d → upd H d (.frz o (.dK kvs)) b = some u := fun b u q n => by rw [upd_ne n]; exact q
  have nd : ∀ b u, H b = some u → u ≠ .dK kvs → b ≠ d := fun b u q n z => n (by rw [z, e] at q; exact (Option.some.inj q).symm)
  have up : ∀ b u, b ≠ d → H' b = some u → upd H' d (.dK kvs) b = some u := fun b u n q => by rw [upd_ne n]; exact q
  refine ⟨fun b u q n m => ?_, fun b xs q => ?_, fun b u v q => ?_, fun P ⟨ps, q, t⟩ => ?_⟩
  · by_cases z : b = d
    · subst z
      rw [e] at q
      cases q
      exact upd_same
    · exact up b u z (h.keep b u (k b u q z) n m)
  · have z := nd b _ q fun x => by cases x
    exact up b _ z (h.tup b xs (k b _ q z))
  · have z := nd b _ q fun x => by cases x
    exact up b _ z (h.frz b u v (k b _ q z))
  · have z := nd P _ q fun x => by cases x
    obtain ⟨ps', q', t'⟩ := h.tab P ⟨ps, k P _ q z, t⟩
    exact ⟨ps', up P _ z q', t'⟩
def tLockD (t : TE) : TE := fun σ H Q => ∃ d kvs, H d = some (.dK kvs) ∧ ∀ o, t σ (upd H d (.frz o (.dK kvs))) fun v H' => H' d = some (.frz o (.dK kvs)) ∧ Q v (upd H' d (.dK kvs))
theorem pe_lockD {X : Cx} {e : Expr} {t : TE} (h : PE X e t) : PE X e (tLockD t) := ⟨fun pins s σ H Q I ⟨d, kvs, e, q⟩ => (pe_lock h).run pins s σ H Q I ⟨d, .dK kvs, e, True.intro, q⟩⟩
def tLockS (t : TS) : TS := fun D σ H => ∃ d kvs, H d = some (.dK kvs) ∧ ∀ od, t ⟨fun σ' H' => H' d = some (.frz od (.dK kvs)) ∧ D.nx σ' (upd H' d (.dK kvs)), fun v H' => H' d = some (.frz od (.dK kvs)) ∧ D.rt v (upd H' d (.dK kvs)), fun σ' H' => H' d = some (.frz od (.dK kvs)) ∧ D.bk σ' (upd H' d (.dK kvs)), fun σ' H' => H' d = some (.frz od (.dK kvs)) ∧ D.ct σ' (upd H' d (.dK kvs))⟩ σ (upd H d (.frz od (.dK kvs)))
theorem ps_lockD {X : Cx} {st : Stmt} {t : TS} (h : PS X st t) : PS X st (tLockS t) := ⟨fun pins s σ H D I ⟨d, kvs, e, q⟩ => (ps_lock h).run pins s σ H D I ⟨d, .dK kvs, e, True.intro, q⟩⟩
/-! ### rules -/
section
variable {X : Cx} {o i e f value : Expr} {apos cpos pos pos' : Pos} {td ty tx tv : TE}
def tDG2 (td ty tx : TE) : TE := fun σ H Q => td σ H fun x H1 => ∃ a kvs, x = .ref a ∧ dctF H1 a = some kvs ∧ ty σ H1 fun y H2 => tx σ H2 fun z H3 => ∃ n kvs, y = .str n ∧ dctF H3 a = some kvs ∧ Q ((valV kvs (.inr n)).getD z) H3
theorem pe_dget2F (hu : X.A.units + 1 < cLine) (ho : PE X o td) (he : PE X e ty) (hf : PE X f tx) (m : M2 X o "get" apos e f cpos) : PE X (.Call (.Attribute o "get" apos) [e, f] [] cpos) (tDG2 td ty tx) := by
  refine ⟨fun pins s σ H Q I h => ?_⟩
  refine wpAny_Call_method m.base m.few m.line PySem.F.plainAttrs_dict PySem.F.slot_dict_get PySem.F.type_dict_get (thn (ho.run pins s σ H _ I h) fun u s1 ⟨x, H1, I1, rx, a, kvs, ex, d, q1⟩ => ?_)
  subst ex
  obtain rfl : u = Value.ref a := rx
  obtain ⟨t1, t2, _⟩ := isD_at I1 (.inl ⟨kvs, dctF_rd d⟩)
  refine ⟨t1, t2, ?_⟩
  rw [m.trees]
  refine Calls.callWith_builtin rfl (Calls.evalArgs_plain (Calls.spliced_cons (thn (he.run pins s1 σ H1 _ I1 q1) fun iv s2 ⟨y, H2, I2, ry, q2⟩ => Calls.spliced_cons (thn (hf.run pins s2 σ H2 _ I2 q2) fun fv s3 ⟨z, H3, I3, rz, n, kvs', ey, g, q3⟩ => Calls.spliced_nil ?_))))
  subst ey
  exact d_get2 hu I3 (.inl ⟨kvs', .inr n, dctF_rd g, rfl, rfl⟩) ry rz fun w' s4 I4 rw' => ⟨_, H3, I4, rw', q3⟩
/-- d[y] -/
def tDGF (td ty : TE) : TE := fun σ H Q => td σ H fun x H1 => ty σ H1 fun y H2 => ∃ a n kvs v, x = .ref a ∧ y = .str n ∧ dctF H2 a = some kvs ∧ valV kvs (.inr n) = some v ∧ Q v H2
theorem pe_dgetF (hu : X.A.units + 1 < cLine) (ho : PE X o td) (hi : PE X i ty) (hs : NoSl i) : PE X (.Subscript o i pos) (tDGF td ty) := by
  refine ⟨fun pins s σ H Q I h => ?_⟩
  refine subD_of PySem.F.slot_dict_getitem.lookup hs (thn (ho.run pins s σ H _ I h) fun u s1 ⟨x, H1, I1, rx, q1⟩ => thn (hi.run pins s1 σ H1 _ I1 q1) fun iv s2 ⟨y, H2, I2, ry, a, n, kvs, v, ex, ey, g, l, q2⟩ => ?_)
  subst ex ey
  obtain rfl : u = Value.ref a := rx
  have g' : DGet H2 a (.str n) (some v) := .inl ⟨kvs, .inr n, dctF_rd g, rfl, l.symm⟩
  exact ⟨dict_typeIs I2 g', d_getItem hu I2 g' ry fun w' s3 I3 rw' => ⟨v, H2, I3, rw', q2⟩⟩
/-- y in d, y not in d -/
def tDInF (ty td : TE) : TE := fun σ H Q => ty σ H fun y H1 => td σ H1 fun x H2 => ∃ a n kvs, x = .ref a ∧ y = .str n ∧ dctF H2 a = some kvs ∧ Q (.bl (valV kvs (.inr n)).isSome) H2
def tDNInF (ty td : TE) : TE := fun σ H Q => ty σ H fun y H1 => td σ H1 fun x H2 => ∃ a n kvs, x = .ref a ∧ y = .str n ∧ dctF H2 a = some kvs ∧ Q (.bl (!(valV kvs (.inr n)).isSome)) H2
theorem pc_dinF (hu : X.A.units + 1 < cLine) (hi : PE X i ty) (ho : PE X o td) : PC X .In i o (tDInF ty td) := by
  refine ⟨fun pins s σ H Q I h => ?_⟩
  refine thn (hi.run pins s σ H _ I h) fun iv s1 ⟨y, H1, I1, ry, q1⟩ => thn (ho.run pins s1 σ H1 _ I1 q1) fun u s2 ⟨x, H2, I2, rx, a, n, kvs, ex, ey, g, q2⟩ => ?_
  subst ex ey
  obtain rfl : u = Value.ref a := rx
  exact d_in hu I2 (.inl ⟨kvs, .inr n, dctF_rd g, rfl, rfl⟩) ry fun s3 I3 => ⟨.bl _, H2, I3, rfl, q2⟩
theorem pc_dnotinF (hu : X.A.units + 1 < cLine) (hi : PE X i ty) (ho : PE X o td) : PC X .NotIn i o (tDNInF ty td) := by
  refine ⟨fun pins s σ H Q I h => ?_⟩
  refine thn (hi.run pins s σ H _ I h) fun iv s1 ⟨y, H1, I1, ry, q1⟩ => thn (ho.run pins s1 σ H1 _ I1 q1) fun u s2 ⟨x, H2, I2, rx, a, n, kvs, ex, ey, g, q2⟩ => ?_
  subst ex ey
  obtain rfl : u = Value.ref a := rx
  exact d_notIn hu I2 (.inl ⟨kvs, .inr n, dctF_rd g, rfl, rfl⟩) ry fun s3 I3 => ⟨.bl _, H2, I3, rfl, q2⟩
/-- d[y] = v -/
def sDPutF (td ty tv : TE) : TS := fun D σ H => tv σ H fun v H1 => td σ H1 fun x H2 => ty σ H2 fun y H3 => ∃ a n kvs, x = .ref a ∧ y = .str n ∧ H3 a = some (.dK kvs) ∧ kvs.length < sizeLine ∧ ∀ H4, Ext [a] H3 H4 → H4 a = some (.dK (putK kvs (.inr n) v)) → D.nx σ H4
theorem ps_dputF (hu : X.A.units + 1 < cLine) (ho : PE X o td) (hi : PE X i ty) (hv : PE X value tv) (hs : swapsWith value (some (.Subscript o i pos')) pos.line X.env = pure false) :
    PS X (.Assign [.Subscript o i pos'] value pos) (sDPutF td ty tv) := by
  refine ⟨fun pins s σ H D I h => ?_⟩
  refine wpAny_Assign_Subscript (thn (hv.run pins s σ H _ I h) fun r s1 ⟨v, H1, I1, rv, q1⟩ => thn (ho.run pins s1 σ H1 _ I1 q1) fun u s2 ⟨x, H2, I2, rx, q2⟩ => thn (hi.run pins s2 σ H2 _ I2 q2) fun iv s3 ⟨y, H3, I3, ry, a, n, kvs, ex, ey, g, hz, q3⟩ => ?_) hs
  subst ex ey
  obtain rfl : u = Value.ref a := rx
  exact d_setItem hu I3 (.inl ⟨kvs, .inr n, g, rfl, hz, rfl⟩) ry rv fun s4 I4 => ⟨σ, _, I4, q3 _ (Ext.setD List.mem_cons_self g) upd_same⟩
/-- {} -/
def tDNewF : TE := fun _ H Q => ∀ p H2, H p = none → Ext [] H H2 → H2 p = some (.dK []) → Q (.ref p) H2
theorem pe_dnewF : PE X (.Dict [] [] pos) tDNewF := ⟨fun pins s σ H Q I h => pe_dnewK.run pins s σ H Q I fun p hp => h p _ hp (Ext.new hp) upd_same⟩
/-- sorted(d) -/
def rSortD : List V → Hp → VK → Prop := fun xs H Q => ∃ (a : Addr) (kvs : List (Key × V)), xs = [.ref a] ∧ dctF H a = some kvs ∧ ∃ ks : List Str, kvs.map (·.1) = ks.map Sum.inr ∧ ks.length < 64 ∧ ∀ ys p H2, ys.Perm ks → sortedS ys = true → H p = none → Ext [] H H2 → H2 p = some (.lst (ys.map V.str)) → Q (.ref p) H2
theorem call_sortedF (hcalm : X.calm = true) : CallR X (.builtin "sorted") rSortD := fun pins s σ H xs us Q I r ⟨a, kvs, e, h, ks, hk, hl, q⟩ =>
  call_sortedD hcalm pins s σ H xs us Q I r ⟨a, kvs, ks, e, dctF_rd h, hk, hl, fun ys p h1 h2 h3 => q ys p _ h1 h2 h3 (Ext.new h3) upd_same⟩
end
/-! ### dict comprehensions -/
def DcB (J : It) (g : TG) (tt : TT) (tk tv : TE) (vs : List Nat) (σ : L2.St) (H1 : Hp) (Q : VK) : Prop := ∀ D, H1 D = none → ∃ W : Nat → Nat → Hp → Prop, (∃ m, W 0 m (upd H1 D (.dK []))) ∧ ∀ i m H, W i m H →
  (J.stop i H ∧ Q (.ref D) H) ∨ (J.go i H ∧ ∃ Nx : Hp → Prop, (∀ H', Nx H' → ∃ m', m' < m ∧ W (i + 1) m' H') ∧ ∀ x H', J.yld i H x H' → g x (wipe σ vs) H' fun σ2 H2 => wipe σ2 vs = wipe σ vs ∧ tt σ2 H2 fun b H3 =>
    if b = true then tk σ2 H3 fun y H4 => tv σ2 H4 fun z H5 => ∃ kvs k, y = kV k ∧ H5 D = some (.dK kvs) ∧ kvs.length < sizeLine ∧ Nx (upd H5 D (.dK (putK kvs k z))) else Nx H3)
def tDcF (wi : TI) (g : TG) (tt : TT) (tk tv : TE) (vs : List Nat) : TE := fun σ H Q => wi σ H fun J H1 => DcB J g tt tk tv vs σ H1 Q
theorem pe_dcF {X : Cx} {kx vx tg iter : Expr} {ifs : List Expr} {scope : Scope} {own : List (Str × Nat)} {pos : Pos} {wi : TI} {g : TG} {tt : TT} {tk tv : TE} (hc : X.calm = true) (hN : X.N.Nodup) (hi : PI X tg iter wi) (ok : BlkOk X.N X.env.scope scope own)
    (hg : ∀ (s : Shared) (H : Hp) (C : Addr) (cl : List (Str × Addr)) (fp : List Addr), PG (X.blk s H scope (compEnvC scope cl C X.env) fp) tg g) (ht : ∀ (s : Shared) (H : Hp) (C : Addr) (cl : List (Str × Addr)) (fp : List Addr), PTs (X.blk s H scope (compEnvC scope cl C X.env) fp) ifs tt)
    (hk : ∀ (s : Shared) (H : Hp) (C : Addr) (cl : List (Str × Addr)) (fp : List Addr), PE (X.blk s H scope (compEnvC scope cl C X.env) fp) kx tk)
    (he : ∀ (s : Shared) (H : Hp) (C : Addr) (cl : List (Str × Addr)) (fp : List Addr), PE (X.blk s H scope (compEnvC scope cl C X.env) fp) vx tv) (hs : ∀ x, foldedSetIterable iter X.env x = pure x := by intro _; rfl) :
    PE X (.DictComp kx vx [⟨tg, iter, ifs, 0⟩] scope pos) (tDcF wi g tt tk tv (own.map (·.2))) := pe_dc hc hN hi ok hg ht hk he hs
/-- the dict at D holds what was made so far -/
def DcN (D : Addr) (Pv : Nat → List (Key × V) → Hp → Prop) (i : Nat) (H : Hp) : Prop := ∃ ks, ks.length ≤ i ∧ H D = some (.dK ks) ∧ Pv i ks H
theorem dc_end {D : Addr} {Pv : Nat → List (Key × V) → Hp → Prop} {i : Nat} {ks : List (Key × V)} {k : Key} {y : V} {H : Hp} (hD : ∀ i ks H zs o, H D = some (.dK zs) → Pv i ks H → Pv i ks (upd H D (.dK o))) (hi : i < 100000) (hl : ks.length ≤ i) (h1 : H D = some (.dK ks)) (h2 : Pv (i + 1) (putK ks k y) H) :
    ∃ kvs k', kV k = kV k' ∧ H D = some (.dK kvs) ∧ kvs.length < sizeLine ∧ DcN D Pv (i + 1) (upd H D (.dK (putK kvs k' y))) :=
  ⟨ks, k, rfl, h1, Nat.lt_of_le_of_lt hl (Nat.lt_of_lt_of_le hi (by decide)), putK ks k y, by have := length_putK ks k y; omega, upd_same, hD _ _ _ _ _ h1 h2⟩
section
variable {g g1 : TG} {tt tt1 : TT} {tk tv : TE} {vs vs1 : List Nat} {σ : L2.St} {H1 : Hp} {Q : VK}
theorem dc_go {J : It} {n : Nat} {G : Hp → Prop} {Y : Nat → Hp → V → Hp → Prop} (w : Walk J n G Y) (Pv : Addr → Nat → List (Key × V) → Hp → Prop) (h0 : ∀ D, H1 D = none → Pv D 0 [] (upd H1 D (.dK [])))
    (hG : ∀ D i ks H, Pv D i ks H → G H)
    (hs : ∀ D i x ks H H', H1 D = none → i < n → Pv D i ks H → ks.length ≤ i → H D = some (.dK ks) → Y i H x H' → g x (wipe σ vs) H' fun σ2 H2 => wipe σ2 vs = wipe σ vs ∧ tt σ2 H2 fun b H3 =>
      if b = true then tk σ2 H3 fun y H4 => tv σ2 H4 fun z H5 => ∃ kvs k, y = kV k ∧ H5 D = some (.dK kvs) ∧ kvs.length < sizeLine ∧ DcN D (Pv D) (i + 1) (upd H5 D (.dK (putK kvs k z))) else DcN D (Pv D) (i + 1) H3)
    (hd : ∀ D ks H, H1 D = none → Pv D n ks H → H D = some (.dK ks) → ks.length ≤ n → Q (.ref D) H) : DcB J g tt tk tv vs σ H1 Q := fun D hD => by
  refine ⟨fun i m H => m = n - i ∧ i ≤ n ∧ DcN D (Pv D) i H, ⟨n, by simp, Nat.zero_le _, [], Nat.le_refl _, upd_same, h0 D hD⟩, ?_⟩
  rintro i m H ⟨rfl, hi, ks, hl, e, p⟩
  have q := hG D i ks H p
  by_cases hlt : i < n
  · exact .inr ⟨w.goes i H hlt q, DcN D (Pv D) (i + 1), fun H' p' => ⟨n - (i + 1), by omega, rfl, hlt, p'⟩, fun x H' y => hs D i x ks H H' hD hlt p hl e (w.yields i H x H' hlt q y)⟩
  · have e' : i = n := by omega
    subst e'
    exact .inl ⟨w.stops H q, hd D ks H hD p e hl⟩
end
/-! ### dict comprehensions with two clauses, no tests -/
def Dc2I (J1 : It) (g1 : TG) (tt1 : TT) (tk tv : TE) (vs1 : List Nat) (D : Addr) (Nx : Hp → Prop) (σ2 : L2.St) (H4 : Hp) : Prop := ∃ W1 : Nat → Nat → Hp → Prop, (∃ m, W1 0 m H4) ∧ ∀ j k H, W1 j k H →
  (J1.stop j H ∧ Nx H) ∨ (J1.go j H ∧ ∃ Nx1 : Hp → Prop, (∀ H', Nx1 H' → ∃ k', k' < k ∧ W1 (j + 1) k' H') ∧ ∀ x H', J1.yld j H x H' → g1 x (wipe σ2 vs1) H' fun σ3 H5 => wipe σ3 vs1 = wipe σ2 vs1 ∧ tt1 σ3 H5 fun b H6 =>
    if b = true then tk σ3 H6 fun y H7 => tv σ3 H7 fun z H8 => ∃ kvs k, y = kV k ∧ H8 D = some (.dK kvs) ∧ kvs.length < sizeLine ∧ Nx1 (upd H8 D (.dK (putK kvs k z))) else Nx1 H6)
def Dc2B (J : It) (g : TG) (tt : TT) (wi1 : TI) (g1 : TG) (tt1 : TT) (tk tv : TE) (vs vs1 : List Nat) (σ : L2.St) (H1 : Hp) (Q : VK) : Prop := ∀ D, H1 D = none → ∃ W : Nat → Nat → Hp → Prop, (∃ m, W 0 m (upd H1 D (.dK []))) ∧ ∀ i m H, W i m H →
  (J.stop i H ∧ Q (.ref D) H) ∨ (J.go i H ∧ ∃ Nx : Hp → Prop, (∀ H', Nx H' → ∃ m', m' < m ∧ W (i + 1) m' H') ∧ ∀ x H', J.yld i H x H' → g x (wipe σ vs) H' fun σ2 H2 => wipe σ2 vs = wipe σ vs ∧ tt σ2 H2 fun b H3 =>
    if b = true then wi1 σ2 H3 fun J1 H4 => Dc2I J1 g1 tt1 tk tv vs1 D Nx σ2 H4 else Nx H3)
def tDc2F (wi : TI) (g : TG) (tt : TT) (wi1 : TI) (g1 : TG) (tt1 : TT) (tk tv : TE) (vs vs1 : List Nat) : TE := fun σ H Q => wi σ H fun J H1 => Dc2B J g tt wi1 g1 tt1 tk tv vs vs1 σ H1 Q
theorem pe_dc2F {X : Cx} {kx vx tg iter tg1 iter1 : Expr} {ifs ifs1 : List Expr} {scope : Scope} {own : List (Str × Nat)} {vs1 : List Nat} {pos : Pos} {wi wi1 : TI} {g g1 : TG} {tt tt1 : TT} {tk tv : TE} (hc : X.calm = true) (hN : X.N.Nodup) (hi : PI X tg iter wi) (ok : BlkOk X.N X.env.scope scope own) (hv : ∀ i ∈ vs1, i ∈ own.map (·.2))
    (hg : ∀ (s : Shared) (H : Hp) (C : Addr) (cl : List (Str × Addr)) (fp : List Addr), PG (X.blk s H scope (compEnvC scope cl C X.env) fp) tg g) (ht : ∀ (s : Shared) (H : Hp) (C : Addr) (cl : List (Str × Addr)) (fp : List Addr), PTs (X.blk s H scope (compEnvC scope cl C X.env) fp) ifs tt)
    (hi1 : ∀ (s : Shared) (H : Hp) (C : Addr) (cl : List (Str × Addr)) (fp : List Addr), PI (X.blk s H scope (compEnvC scope cl C X.env) fp) tg1 iter1 wi1)
    (hg1 : ∀ (s : Shared) (H : Hp) (C : Addr) (cl : List (Str × Addr)) (fp : List Addr), PG (X.blk s H scope (compEnvC scope cl C X.env) fp) tg1 g1) (ht1 : ∀ (s : Shared) (H : Hp) (C : Addr) (cl : List (Str × Addr)) (fp : List Addr), PTs (X.blk s H scope (compEnvC scope cl C X.env) fp) ifs1 tt1)
    (hk : ∀ (s : Shared) (H : Hp) (C : Addr) (cl : List (Str × Addr)) (fp : List Addr), PE (X.blk s H scope (compEnvC scope cl C X.env) fp) kx tk)
    (he : ∀ (s : Shared) (H : Hp) (C : Addr) (cl : List (Str × Addr)) (fp : List Addr), PE (X.blk s H scope (compEnvC scope cl C X.env) fp) vx tv) (hs : ∀ x, foldedSetIterable iter X.env x = pure x := by intro _; rfl) (hs1 : ∀ env x, foldedSetIterable iter1 env x = pure x := by intro _ _; rfl) :
    PE X (.DictComp kx vx [⟨tg, iter, ifs, 0⟩, ⟨tg1, iter1, ifs1, 0⟩] scope pos) (tDc2F wi g tt wi1 g1 tt1 tk tv (own.map (·.2)) vs1) := pe_dc2 hc hN hi ok hv hg ht hi1 hg1 ht1 hk he hs hs1
theorem ps_setDc2F {X : Cx} {i : Nat} {y : Str} {py : Pos} {kx vx tg iter tg1 iter1 : Expr} {ifs ifs1 : List Expr} {scope : Scope} {own : List (Str × Nat)} {vs1 : List Nat} {pos spos : Pos} {wi wi1 : TI} {g g1 : TG} {tt tt1 : TT} {tk tv : TE} (hc : X.calm = true) (hN : X.N.Nodup) (hy : X.N[i]? = some y) (hyl : X.env.scope.names.lookup y = some .local)
    (hsw : swapsWith (.DictComp kx vx [⟨tg, iter, ifs, 0⟩, ⟨tg1, iter1, ifs1, 0⟩] scope pos) (some (.Name y py)) spos.line X.env = pure true) (hi : PI X tg iter wi) (ok : BlkOk X.N X.env.scope scope own) (hv : ∀ i ∈ vs1, i ∈ own.map (·.2))
    (hg : ∀ (s : Shared) (H : Hp) (C : Addr) (cl : List (Str × Addr)) (fp : List Addr), PG (X.blk s H scope (compEnvC scope cl C X.env) fp) tg g) (ht : ∀ (s : Shared) (H : Hp) (C : Addr) (cl : List (Str × Addr)) (fp : List Addr), PTs (X.blk s H scope (compEnvC scope cl C X.env) fp) ifs tt)
    (hi1 : ∀ (s : Shared) (H : Hp) (C : Addr) (cl : List (Str × Addr)) (fp : List Addr), PI (X.blk s H scope (compEnvC scope cl C X.env) fp) tg1 iter1 wi1)
    (hg1 : ∀ (s : Shared) (H : Hp) (C : Addr) (cl : List (Str × Addr)) (fp : List Addr), PG (X.blk s H scope (compEnvC scope cl C X.env) fp) tg1 g1) (ht1 : ∀ (s : Shared) (H : Hp) (C : Addr) (cl : List (Str × Addr)) (fp : List Addr), PTs (X.blk s H scope (compEnvC scope cl C X.env) fp) ifs1 tt1)
    (hk : ∀ (s : Shared) (H : Hp) (C : Addr) (cl : List (Str × Addr)) (fp : List Addr), PE (X.blk s H scope (compEnvC scope cl C X.env) fp) kx tk)
    (he : ∀ (s : Shared) (H : Hp) (C : Addr) (cl : List (Str × Addr)) (fp : List Addr), PE (X.blk s H scope (compEnvC scope cl C X.env) fp) vx tv) (hs : ∀ x, foldedSetIterable iter X.env x = pure x := by intro _; rfl) (hs1 : ∀ env x, foldedSetIterable iter1 env x = pure x := by intro _ _; rfl) :
    PS X (.Assign [.Name y py] (.DictComp kx vx [⟨tg, iter, ifs, 0⟩, ⟨tg1, iter1, ifs1, 0⟩] scope pos) spos) (tAsg (tDc2F wi g tt wi1 g1 tt1 tk tv (own.map (·.2)) vs1) (gName i)) := ps_setDc2 hc hN hy hyl hsw hi ok hv hg ht hi1 hg1 ht1 hk he hs hs1
theorem ps_setDcF {X : Cx} {i : Nat} {y : Str} {py : Pos} {kx vx tg iter : Expr} {ifs : List Expr} {scope : Scope} {own : List (Str × Nat)} {pos spos : Pos} {wi : TI} {g : TG} {tt : TT} {tk tv : TE} (hc : X.calm = true) (hN : X.N.Nodup) (hy : X.N[i]? = some y) (hyl : X.env.scope.names.lookup y = some .local)
    (hsw : swapsWith (.DictComp kx vx [⟨tg, iter, ifs, 0⟩] scope pos) (some (.Name y py)) spos.line X.env = pure true) (hi : PI X tg iter wi) (ok : BlkOk X.N X.env.scope scope own)
    (hg : ∀ (s : Shared) (H : Hp) (C : Addr) (cl : List (Str × Addr)) (fp : List Addr), PG (X.blk s H scope (compEnvC scope cl C X.env) fp) tg g) (ht : ∀ (s : Shared) (H : Hp) (C : Addr) (cl : List (Str × Addr)) (fp : List Addr), PTs (X.blk s H scope (compEnvC scope cl C X.env) fp) ifs tt)
    (hk : ∀ (s : Shared) (H : Hp) (C : Addr) (cl : List (Str × Addr)) (fp : List Addr), PE (X.blk s H scope (compEnvC scope cl C X.env) fp) kx tk)
    (he : ∀ (s : Shared) (H : Hp) (C : Addr) (cl : List (Str × Addr)) (fp : List Addr), PE (X.blk s H scope (compEnvC scope cl C X.env) fp) vx tv) (hs : ∀ x, foldedSetIterable iter X.env x = pure x := by intro _; rfl) :
    PS X (.Assign [.Name y py] (.DictComp kx vx [⟨tg, iter, ifs, 0⟩] scope pos) spos) (tAsg (tDcF wi g tt tk tv (own.map (·.2))) (gName i)) := ps_setDc hc hN hy hyl hsw hi ok hg ht hk he hs
section
variable {g g1 : TG} {tt tt1 : TT} {tk tv : TE} {wi1 : TI} {vs vs1 : List Nat} {σ : L2.St} {H1 H4 : Hp} {Q : VK}
theorem dc2_in {J : It} {n : Nat} {G : Hp → Prop} {Y : Nat → Hp → V → Hp → Prop} {D : Addr} {Nx : Hp → Prop} (w : Walk J n G Y) (Pv : Nat → Hp → Prop) (h0 : Pv 0 H4) (hG : ∀ j H, Pv j H → G H)
    (hs : ∀ j x H H', j < n → Pv j H → Y j H x H' → g1 x (wipe σ vs1) H' fun σ3 H5 => wipe σ3 vs1 = wipe σ vs1 ∧ tt1 σ3 H5 fun b H6 =>
      if b = true then tk σ3 H6 fun y H7 => tv σ3 H7 fun z H8 => ∃ kvs k, y = kV k ∧ H8 D = some (.dK kvs) ∧ kvs.length < sizeLine ∧ Pv (j + 1) (upd H8 D (.dK (putK kvs k z))) else Pv (j + 1) H6)
    (hd : ∀ H, Pv n H → Nx H) : Dc2I J g1 tt1 tk tv vs1 D Nx σ H4 := by
  refine ⟨fun i m H => m = n - i ∧ i ≤ n ∧ Pv i H, ⟨n, rfl, Nat.zero_le _, h0⟩, ?_⟩
  rintro i m H ⟨rfl, hi, p⟩
  have q := hG i H p
  by_cases hlt : i < n
  · exact .inr ⟨w.goes i H hlt q, Pv (i + 1), fun H' p' => ⟨n - (i + 1), by omega, rfl, hlt, p'⟩, fun x H' y => hs i x H H' hlt p (w.yields i H x H' hlt q y)⟩
  · have e' : i = n := by omega
    subst e'
    exact .inl ⟨w.stops H q, hd H p⟩
theorem dc2_go {J : It} {n : Nat} {G : Hp → Prop} {Y : Nat → Hp → V → Hp → Prop} (w : Walk J n G Y) (Pv : Addr → Nat → Hp → Prop) (h0 : ∀ D, H1 D = none → Pv D 0 (upd H1 D (.dK [])))
    (hG : ∀ D i H, Pv D i H → G H)
    (hs : ∀ D i x H H', H1 D = none → i < n → Pv D i H → Y i H x H' → g x (wipe σ vs) H' fun σ2 H2 => wipe σ2 vs = wipe σ vs ∧ tt σ2 H2 fun b H3 => if b = true then wi1 σ2 H3 fun J1 H4 => Dc2I J1 g1 tt1 tk tv vs1 D (Pv D (i + 1)) σ2 H4 else Pv D (i + 1) H3)
    (hd : ∀ D H, H1 D = none → Pv D n H → Q (.ref D) H) : Dc2B J g tt wi1 g1 tt1 tk tv vs vs1 σ H1 Q := fun D hD => by
  refine ⟨fun i m H => m = n - i ∧ i ≤ n ∧ Pv D i H, ⟨n, rfl, Nat.zero_le _, h0 D hD⟩, ?_⟩
  rintro i m H ⟨rfl, hi, p⟩
  have q := hG D i H p
  by_cases hlt : i < n
  · exact .inr ⟨w.goes i H hlt q, Pv D (i + 1), fun H' p' => ⟨n - (i + 1), by omega, rfl, hlt, p'⟩, fun x H' y => hs D i x H H' hD hlt p (w.yields i H x H' hlt q y)⟩
  · have e' : i = n := by omega
    subst e'
    exact .inl ⟨w.stops H q, hd D H hD p⟩
end
end Sq
set_option Elab.async false
set_option linter.all false
set_option maxRecDepth 100000
set_option maxHeartbeats 2000000
namespace Sq
open PySem PySem.Spec PyProof.Rows L2 RZ
/-! ### readings that are monotone -/
def upE (t : TE) : TE := fun σ H Q => ∃ Q0 : VK, (∀ v H', Q0 v H' → Q v H') ∧ t σ H Q0
def upA (t : TA) : TA := fun σ H Q => ∃ Q0 : List V → Hp → Prop, (∀ v H', Q0 v H' → Q v H') ∧ t σ H Q0
section
variable {X : Cx}
theorem PE.up {e : Expr} {t : TE} (h : PE X e t) : PE X e (upE t) := ⟨fun pins s σ H Q I ⟨Q0, m, q⟩ => thn (h.run pins s σ H Q0 I q) fun _ _ ⟨v, H', I', r, q⟩ => ⟨v, H', I', r, m _ _ q⟩⟩
theorem PA.up {es : List Expr} {t : TA} (h : PA X es t) : PA X es (upA t) := ⟨fun pos pins s σ H Q I ⟨Q0, m, q⟩ => thn (h.run pos pins s σ H Q0 I q) fun _ _ ⟨v, H', I', r, q⟩ => ⟨v, H', I', r, m _ _ q⟩⟩
/-- a reading that is not to be run yet -/
def hideS (t : TS) : TS := t
theorem PSs.hide {b : List Stmt} {t : TS} (h : PSs X b t) : PSs X b (hideS t) := h
/-- zip of two tuples -/
def iZipF (K : PySem.W.Frag) (ta : TA) : TI := fun σ H R => ta σ H fun vs H1 => ∃ a b xs ys, vs = [.ref a, .ref b] ∧ tupF K H1 a = some xs ∧ tupF K H1 b = some ys ∧ R (ItzT K a b) H1
theorem pi_zipF {e e2 : Expr} {ta : TA} {p pos tpos : Pos} {elts : List Expr} {kk : Nat} (hg : Gl X "zip") (hm : X.mg "zip" = none) (ha : PA X [e, e2] ta)
    (hs : starEach [e, e2] X.env = (false, eval e X.env) :: starEach [e2] X.env := by rfl) (hpl : (backTo pos (starEach [e2] X.env)).any (·.1) = false := by rfl) :
    PI X (.Tuple elts kk tpos) (.Call (.Name "zip" p) [e, e2] [] pos) (iZipF X.K ta) := by
  refine ⟨fun pins s σ H R I h => (pi_zipA hg hm (PA.up ha) hs hpl).run pins s σ H R I ⟨_, fun vs H1 q => ?_, h⟩⟩
  obtain ⟨a, b, xs, ys, e, h1, h2, r⟩ := q
  exact ⟨a, b, xs, ys, e, .inr ⟨tupF_sq h1, tupF_sq h2, r⟩⟩
/-- the keys of a locked dict -/
def iKeysF (td : TE) : TI := fun σ H R => td σ H fun x H1 => ∃ d o kvs, x = .ref d ∧ H1 d = some (.frz o (.dK kvs)) ∧ R (Itk d o kvs) H1
theorem pi_keysF {tg e : Expr} {td : TE} (he : PE X e td) : PI X tg e (iKeysF td) := by
  refine ⟨fun pins s σ H R I h => (pi_keys (PE.up he)).run pins s σ H R I ⟨_, fun v H1 q => ?_, h⟩⟩
  obtain ⟨d, o, kvs, e, h1, r⟩ := q
  exact ⟨d, o, e, .inl ⟨kvs, h1, r⟩⟩
/-- x in t, x not in t: data of tuples -/
def rInT (K : PySem.W.Frag) (neg : Bool) : R2 := fun x y H Q => ∃ d ds, Td K H x d ∧ Td K H y (.tuple ds) ∧ SeqAt.shaped d = true ∧ SeqAt.shaped (.tuple ds) = true ∧ Q (.bl (if neg then !ds.any fun z => PyData.eqv z d else ds.any fun z => PyData.eqv z d)) H
theorem room_in_sh {A : Around} {d : PyData} {ds : List PyData} (h : SeqAt.shaped d = true) (hu : A.units + 65 < cLine) : A.units + 1 + min (PyData.depthAll ds) d.depth < cLine := by
  have h1 := SeqAt.depth_of_shaped h
  have h2 : min (PyData.depthAll ds) d.depth ≤ d.depth := Nat.min_le_right _ _
  omega
theorem op_inT (hu : X.A.units + 65 < cLine) : OpR X (compareOp .In) (rInT X.K false) := by
  intro pins s σ H x y v u Q I rx ry h
  obtain ⟨d, ds, hd, he, sd, se, q⟩ := h
  obtain ⟨as, r1⟩ := Dp.reads I d x v hd.dp rx
  obtain ⟨bs, r2⟩ := Dp.reads I (.tuple ds) y u he.dp ry
  exact SeqAt.in_tuple_reads r2 r1 (SeqAt.canLay_of_shaped se) (SeqAt.canLay_of_shaped sd) (room_in_sh sd hu) ⟨.bl _, H, I, rfl, q⟩
theorem op_ninT (hu : X.A.units + 65 < cLine) : OpR X (compareOp .NotIn) (rInT X.K true) := by
  intro pins s σ H x y v u Q I rx ry h
  obtain ⟨d, ds, hd, he, sd, se, q⟩ := h
  obtain ⟨as, r1⟩ := Dp.reads I d x v hd.dp rx
  obtain ⟨bs, r2⟩ := Dp.reads I (.tuple ds) y u he.dp ry
  exact SeqAt.notIn_tuple_reads r2 r1 (SeqAt.canLay_of_shaped se) (SeqAt.canLay_of_shaped sd) (room_in_sh sd hu) ⟨.bl _, H, I, rfl, q⟩
/-- x in t: texts -/
def rInS (K : PySem.W.Frag) (neg : Bool) : R2 := fun x y H Q => ∃ (n : Str) (p : Addr) (ns : List Str), x = .str n ∧ y = .ref p ∧ tupF K H p = some (ns.map V.str) ∧ Q (.bl (if neg then !decide (n ∈ ns) else decide (n ∈ ns))) H
theorem inV_strs (n : Str) : ∀ ns : List Str, inV (.str n) (ns.map V.str) = decide (n ∈ ns)
  | [] => by simp [inV]
  | x :: ns => by
    have ih := inV_strs n ns
    unfold inV at ih ⊢
    rw [List.map_cons, List.any_cons, ih]
    have e : eqV (.str x) (.str n) = decide (n = x) := by
      by_cases h : n = x
      · subst h; simp [eqV]
      · simp [eqV, h, Ne.symm h]
    rw [e]
    by_cases h : n = x <;> simp [h]
theorem flat_strs : ∀ ns : List Str, (ns.map V.str).all flatV = true
  | [] => rfl
  | _ :: ns => by rw [List.map_cons, List.all_cons, flat_strs ns]; rfl
theorem op_inS : OpR X (compareOp .In) (rInS X.K false) := by
  intro pins s σ H x y v u Q I rx ry ⟨n, p, ns, e1, e2, h, q⟩
  subst e1 e2
  refine op_in_seq pins s σ H _ _ v u Q I rx ry ⟨p, ns.map V.str, rfl, .inr (tupF_sq h), rfl, flat_strs ns, ?_⟩
  rw [inV_strs]; exact q
/-- xs == ys, xs != ys of lists of data -/
def rEqLF (K : PySem.W.Frag) (neg : Bool) : R2 := fun x y H Q => ∃ a b xs ys, x = .ref a ∧ y = .ref b ∧ H a = some (.lst xs) ∧ H b = some (.lst ys) ∧ ∃ ds es, TdAll K H xs ds ∧ TdAll K H ys es ∧ SeqAt.shaped (.list ds) = true ∧ SeqAt.shaped (.list es) = true ∧ Q (.bl (if neg then !PyData.eqvAll ds es else PyData.eqvAll ds es)) H
theorem op_eqLF (hu : X.A.units + 64 < cLine) : OpR X (compareOp .Eq) (rEqLF X.K false) := fun pins s σ H x y v u Q I rx ry ⟨a, b, xs, ys, e1, e2, h1, h2, ds, es, t1, t2, h3, h4, q⟩ => by
  subst e1 e2
  refine op_eqD hu pins s σ H _ _ v u Q I rx ry ⟨.list ds, .list es, .lst (SqL.of h1) t1.dp, .lst (SqL.of h2) t2.dp, h3, h4, ?_⟩
  simpa [PyData.eqv] using q
theorem op_neLF (hu : X.A.units + 64 < cLine) : OpR X (compareOp .NotEq) (rEqLF X.K true) := fun pins s σ H x y v u Q I rx ry ⟨a, b, xs, ys, e1, e2, h1, h2, ds, es, t1, t2, h3, h4, q⟩ => by
  subst e1 e2
  refine op_neD hu pins s σ H _ _ v u Q I rx ry ⟨.list ds, .list es, .lst (SqL.of h1) t1.dp, .lst (SqL.of h2) t2.dp, h3, h4, ?_⟩
  simpa [PyData.eqv] using q
end
/-- l.index(x), texts -/
def rIndexS : V → List V → Hp → VK → Prop := fun x xs H Q => ∃ (a : Addr) (n : Str) (ns : List Str), x = .ref a ∧ xs = [.str n] ∧ H a = some (.lst (ns.map V.str)) ∧ ∃ j : Nat, ns[j]? = some n ∧ (∀ m, m < j → ns[m]? ≠ some n) ∧ Q (.int (j : Nat)) H
theorem eqV_str (x y : Str) : eqV (.str x) (.str y) = decide (y = x) := by
  by_cases h : y = x
  · subst h; simp [eqV]
  · simp [eqV, h, Ne.symm h]
theorem mt_indexS {X : Cx} : MtR X "list.index" rIndexS := fun pins s σ H x xs v us Q I rx rv ⟨a, n, ns, e1, e2, h, j, hj, hm, q⟩ => by
  subst e1 e2
  refine mt_index pins s σ H _ _ v us Q I rx rv ⟨a, ns.map V.str, .str n, j, .str n, rfl, rfl, SqL.of h, rfl, flat_strs ns, by rw [List.getElem?_map, hj]; rfl, by rw [eqV_str]; simp, fun m z hm' hz => ?_, q⟩
  rw [List.getElem?_map] at hz
  cases hk : ns[m]? with
  | none => rw [hk] at hz; cases hz
  | some y =>
    rw [hk] at hz
    cases hz
    rw [eqV_str]
    refine decide_eq_false fun e => hm m hm' ?_
    rw [hk, e]
/-! ### the same, the kit's code tables named -/
section
variable {X : Cx} (K : PySem.W.Frag)
theorem ix_tupK (hK : X.K = K := by rfl) : IxR X (rIxF K) := by subst hK; exact ix_tupF
theorem sl_tupK (hK : X.K = K := by rfl) : SlR X (rSlF K) := by subst hK; exact sl_tupF
theorem op_catK (hK : X.K = K := by rfl) : OpR X (binaryOp .Add) (rCatF K) := by subst hK; exact op_catF
theorem call_tupleK (hK : X.K = K := by rfl) : CallR X (.type "tuple") (rTupL K) := by subst hK; exact call_tupleL
theorem call_listK (hK : X.K = K := by rfl) : CallR X (.type "list") (rListT K) := by subst hK; exact call_listT
theorem call_lenK (hK : X.K = K := by rfl) : CallR X (.builtin "len") (rLenT K) := by subst hK; exact call_lenT
theorem op_eqK (hu : X.A.units + 64 < cLine) (hK : X.K = K := by rfl) : OpR X (compareOp .Eq) (rEqF K false) := by subst hK; exact op_eqF hu
theorem op_neK (hu : X.A.units + 64 < cLine) (hK : X.K = K := by rfl) : OpR X (compareOp .NotEq) (rEqF K true) := by subst hK; exact op_neF hu
theorem op_eqLK (hu : X.A.units + 64 < cLine) (hK : X.K = K := by rfl) : OpR X (compareOp .Eq) (rEqLF K false) := by subst hK; exact op_eqLF hu
theorem op_neLK (hu : X.A.units + 64 < cLine) (hK : X.K = K := by rfl) : OpR X (compareOp .NotEq) (rEqLF K true) := by subst hK; exact op_neLF hu
theorem op_inSK (hK : X.K = K := by rfl) : OpR X (compareOp .In) (rInS K false) := by subst hK; exact op_inS
theorem op_inTK (hu : X.A.units + 65 < cLine) (hK : X.K = K := by rfl) : OpR X (compareOp .In) (rInT K false) := by subst hK; exact op_inT hu
theorem op_ninTK (hu : X.A.units + 65 < cLine) (hK : X.K = K := by rfl) : OpR X (compareOp .NotIn) (rInT K true) := by subst hK; exact op_ninT hu
theorem pe_tupK {es : List Expr} {x1 : Nat} {pos : Pos} {t : TA} (h : PA X es t) (hK : X.K = K := by rfl) : PE X (.Tuple es x1 pos) (tTupF K t) := by subst hK; exact pe_tupF h
theorem pg_tupK {es : List Expr} {k : Nat} {pos : Pos} {t : TGs} {n : Nat} (hc : X.calm = true) (h : PGs X es t)
    (hn : (assignEach es X.env).length = n := by rfl) (hst : (assignEach es X.env).findIdx? (·.1) = none := by rfl) (hK : X.K = K := by rfl) : PG X (.Tuple es k pos) (gTupF K n t) := by subst hK; exact pg_tupF hc h hn hst
theorem pg_tupZ {es : List Expr} {k : Nat} {pos : Pos} {t : TGs} {n : Nat} (hc : X.calm = true) (h : PGs X es t)
    (hn : (assignEach es X.env).length = n := by rfl) (hst : (assignEach es X.env).findIdx? (·.1) = none := by rfl) (hK : X.K = K := by rfl) : PG X (.Tuple es k pos) (gTup K n t) := by subst hK; exact pg_tup hc h hn hst
theorem pi_tupK {tg l : Expr} {tl : TE} (hl : PE X l tl) (hK : X.K = K := by rfl) : PI X tg l (iTupF K tl) := by subst hK; exact pi_tupF hl
theorem pi_lstK {tg l : Expr} {tl : TE} (hl : PE X l tl) (hK : X.K = K := by rfl) : PI X tg l (iLstF tl K) := by subst hK; exact pi_lstF hl
theorem pi_enumK {e : Expr} {ta : TA} {p pos tpos : Pos} {elts : List Expr} {kk : Nat} (hg : Gl X "enumerate") (hm : X.mg "enumerate" = none) (ha : PA X [e] ta) (hs : starEach [e] X.env = [(false, eval e X.env)] := by rfl) (hK : X.K = K := by rfl) :
    PI X (.Tuple elts kk tpos) (.Call (.Name "enumerate" p) [e] [] pos) (iEnumF K ta) := by subst hK; exact pi_enumF hg hm ha hs
theorem pi_zipK {e e2 : Expr} {ta : TA} {p pos tpos : Pos} {elts : List Expr} {kk : Nat} (hg : Gl X "zip") (hm : X.mg "zip" = none) (ha : PA X [e, e2] ta)
    (hs : starEach [e, e2] X.env = (false, eval e X.env) :: starEach [e2] X.env := by rfl) (hpl : (backTo pos (starEach [e2] X.env)).any (·.1) = false := by rfl) (hK : X.K = K := by rfl) :
    PI X (.Tuple elts kk tpos) (.Call (.Name "zip" p) [e, e2] [] pos) (iZipF K ta) := by subst hK; exact pi_zipF hg hm ha hs hpl
theorem pe_lzipK {e e2 : Expr} {ta : TA} {p p2 pos pos2 : Pos} (hc : X.calm = true) (hg : Gl X "zip") (hm : X.mg "zip" = none) (hgl : Gl X "list") (hml : X.mg "list" = none) (ha : PA X [e, e2] ta)
    (hs : starEach [e, e2] X.env = (false, eval e X.env) :: starEach [e2] X.env := by rfl) (hpl : (backTo pos (starEach [e2] X.env)).any (·.1) = false := by rfl)
    (hs2 : starEach [.Call (.Name "zip" p) [e, e2] [] pos] X.env = [(false, eval (.Call (.Name "zip" p) [e, e2] [] pos) X.env)] := by rfl) (hK : X.K = K := by rfl) :
    PE X (.Call (.Name "list" p2) [.Call (.Name "zip" p) [e, e2] [] pos] [] pos2) (tLZip K ta) := by subst hK; exact pe_lzip hc hg hm hgl hml ha hs hpl hs2
end
end Sq
set_option Elab.async false
set_option linter.all false
set_option maxRecDepth 100000
set_option maxHeartbeats 2000000
namespace Sq
open PySem PySem.Spec PyProof.Rows L2
/-! ### trees of the laws on equations: names, two signs alone, one of one, one of two -/
inductive Tr
  | v (x : Str)
  | a
  | b
  | i (t : Tr)
  | m (t u : Tr)
deriving DecidableEq
namespace Tr
def data : Tr → PyData
  | v x => .tuple [.str "v", .str x]
  | a => .tuple [.str "a"]
  | b => .tuple [.str "b"]
  | i t => .tuple [.str "i", t.data]
  | m t u => .tuple [.str "m", t.data, u.data]
def dep : Tr → Nat
  | v _ => 1
  | a => 1
  | b => 1
  | i t => t.dep + 1
  | m t u => max t.dep u.dep + 1
def names : Tr → List Str
  | v x => [x]
  | a => []
  | b => []
  | i t => t.names
  | m t u => t.names ++ u.names
def isV : Tr → Bool
  | v _ => true
  | _ => false
def hd : Tr → Str
  | v _ => "v"
  | a => "a"
  | b => "b"
  | i _ => "i"
  | m _ _ => "m"
def args : Tr → List Tr
  | i t => [t]
  | m t u => [t, u]
  | _ => []
theorem dep_pos : ∀ t : Tr, 1 ≤ t.dep
  | v _ => Nat.le_refl _
  | a => Nat.le_refl _
  | b => Nat.le_refl _
  | i _ => Nat.le_add_left _ _
  | m _ _ => Nat.le_add_left _ _
theorem dep_arg {t u : Tr} (h : u ∈ t.args) : u.dep < t.dep := by
  cases t with
  | v x => cases h
  | a => cases h
  | b => cases h
  | i s =>
    have e : u = s := by simpa [args] using h
    subst e; simp [dep]
  | m s r =>
    have e : u = s ∨ u = r := by simpa [args] using h
    rcases e with e | e <;> (subst e; simp only [dep]; omega)
theorem names_arg {t u : Tr} (h : u ∈ t.args) {x : Str} (hx : x ∈ u.names) : x ∈ t.names := by
  cases t with
  | v x => cases h
  | a => cases h
  | b => cases h
  | i s =>
    have e : u = s := by simpa [args] using h
    subst e; exact hx
  | m s r =>
    have e : u = s ∨ u = r := by simpa [args] using h
    rcases e with e | e <;> subst e
    · exact List.mem_append_left _ hx
    · exact List.mem_append_right _ hx
theorem names_args {t : Tr} (h : t.isV = false) {x : Str} : x ∈ t.names ↔ ∃ u ∈ t.args, x ∈ u.names := by
  cases t with
  | v x => cases h
  | a => simp [names, args]
  | b => simp [names, args]
  | i s => simp [names, args]
  | m s r => simp [names, args]
theorem data_f {t : Tr} (h : t.isV = false) : t.data = .tuple (.str t.hd :: t.args.map data) := by
  cases t with
  | v x => cases h
  | a => rfl
  | b => rfl
  | i s => rfl
  | m s r => rfl
theorem hd_v {t : Tr} (h : t.isV = false) : t.hd ≠ "v" := by
  cases t with
  | v x => cases h
  | a => decide
  | b => decide
  | i s => show ("i" : Str) ≠ "v"; decide
  | m s r => show ("m" : Str) ≠ "v"; decide
theorem args_len (t : Tr) : t.args.length ≤ 2 := by cases t <;> simp [args]
theorem eqvAll_cons (x y : PyData) (xs ys : List PyData) : PyData.eqvAll (x :: xs) (y :: ys) = (PyData.eqv x y && PyData.eqvAll xs ys) := by rw [PyData.eqvAll]
theorem eqv_str (x y : Str) : PyData.eqv (.str x) (.str y) = (x == y) := by rw [PyData.eqv]
theorem eqv_tup (xs ys : List PyData) : PyData.eqv (.tuple xs) (.tuple ys) = PyData.eqvAll xs ys := by rw [PyData.eqv]
theorem eqvAll_nil : PyData.eqvAll [] [] = true := by rw [PyData.eqvAll]
theorem eqvAll_nc (x : PyData) (xs : List PyData) : PyData.eqvAll [] (x :: xs) = false := by rw [PyData.eqvAll]
theorem eqvAll_cn (x : PyData) (xs : List PyData) : PyData.eqvAll (x :: xs) [] = false := by rw [PyData.eqvAll]
theorem eqv_data : ∀ t u : Tr, PyData.eqv t.data u.data = decide (t = u)
  | v x, v y => by simp only [data, eqv_tup, eqvAll_cons, eqv_str, eqvAll_nil, beq_self_eq_true, Bool.true_and, Bool.and_true, v.injEq]; exact Bool.beq_eq_decide_eq _ _
  | v x, a => rfl
  | v x, b => rfl
  | v x, i u => by simp only [data, eqv_tup, eqvAll_cons, eqv_str, reduceCtorEq, decide_false]; rfl
  | v x, m u w => by simp only [data, eqv_tup, eqvAll_cons, eqv_str, reduceCtorEq, decide_false]; rfl
  | a, v y => by simp only [data, eqv_tup, eqvAll_cons, eqv_str, reduceCtorEq, decide_false]; rfl
  | a, a => rfl
  | a, b => rfl
  | a, i u => by simp only [data, eqv_tup, eqvAll_cons, eqv_str, reduceCtorEq, decide_false]; rfl
  | a, m u w => by simp only [data, eqv_tup, eqvAll_cons, eqv_str, reduceCtorEq, decide_false]; rfl
  | b, v y => by simp only [data, eqv_tup, eqvAll_cons, eqv_str, reduceCtorEq, decide_false]; rfl
  | b, a => rfl
  | b, b => rfl
  | b, i u => by simp only [data, eqv_tup, eqvAll_cons, eqv_str, reduceCtorEq, decide_false]; rfl
  | b, m u w => by simp only [data, eqv_tup, eqvAll_cons, eqv_str, reduceCtorEq, decide_false]; rfl
  | i t, v y => by simp only [data, eqv_tup, eqvAll_cons, eqv_str, reduceCtorEq, decide_false]; rfl
  | i t, a => by simp only [data, eqv_tup, eqvAll_cons, eqv_str, reduceCtorEq, decide_false]; rfl
  | i t, b => by simp only [data, eqv_tup, eqvAll_cons, eqv_str, reduceCtorEq, decide_false]; rfl
  | i t, i u => by simp only [data, eqv_tup, eqvAll_cons, eqv_str, eqv_data t u, eqvAll_nil, beq_self_eq_true, Bool.true_and, Bool.and_true, i.injEq]
  | i t, m u w => by simp only [data, eqv_tup, eqvAll_cons, eqv_str, reduceCtorEq, decide_false]; rfl
  | m s r, v y => by simp only [data, eqv_tup, eqvAll_cons, eqv_str, reduceCtorEq, decide_false]; rfl
  | m s r, a => by simp only [data, eqv_tup, eqvAll_cons, eqv_str, reduceCtorEq, decide_false]; rfl
  | m s r, b => by simp only [data, eqv_tup, eqvAll_cons, eqv_str, reduceCtorEq, decide_false]; rfl
  | m s r, i u => by simp only [data, eqv_tup, eqvAll_cons, eqv_str, reduceCtorEq, decide_false]; rfl
  | m s r, m u w => by simp only [data, eqv_tup, eqvAll_cons, eqv_str, eqv_data s u, eqv_data r w, eqvAll_nil, beq_self_eq_true, Bool.true_and, Bool.and_true, m.injEq, Bool.decide_and]
theorem depth_data : ∀ t : Tr, t.data.depth = t.dep
  | v x => rfl
  | a => rfl
  | b => rfl
  | i t => by simp [data, PyData.depth, PyData.depthAll, depth_data t, dep]
  | m t u => by simp [data, PyData.depth, PyData.depthAll, depth_data t, depth_data u, dep]
theorem lay_str (x : Str) : PyData.canLay0 (.str x) = PyData.strOk x := by rw [PyData.canLay0]
theorem lay_tup (xs : List PyData) : PyData.canLay0 (.tuple xs) = PyData.canLayAll0 xs := by rw [PyData.canLay0]
theorem lay_cons (x : PyData) (xs : List PyData) : PyData.canLayAll0 (x :: xs) = (PyData.canLay0 x && PyData.canLayAll0 xs) := by rw [PyData.canLayAll0]
theorem lay_nil : PyData.canLayAll0 [] = true := by rw [PyData.canLayAll0]
theorem ok_v : PyData.strOk "v" = true := by decide +kernel
theorem ok_a : PyData.strOk "a" = true := by decide +kernel
theorem ok_b : PyData.strOk "b" = true := by decide +kernel
theorem ok_i : PyData.strOk "i" = true := by decide +kernel
theorem ok_m : PyData.strOk "m" = true := by decide +kernel
theorem lay_data : ∀ t : Tr, (∀ x ∈ t.names, PyData.strOk x = true) → t.data.canLay0 = true
  | v x, h => by simp only [data, lay_tup, lay_cons, lay_str, lay_nil, ok_v, h x (by simp [names]), Bool.and_self]
  | a, _ => by simp only [data, lay_tup, lay_cons, lay_str, lay_nil, ok_a, Bool.and_self]
  | b, _ => by simp only [data, lay_tup, lay_cons, lay_str, lay_nil, ok_b, Bool.and_self]
  | i t, h => by simp only [data, lay_tup, lay_cons, lay_str, lay_nil, ok_i, lay_data t h, Bool.and_self]
  | m t u, h => by simp only [data, lay_tup, lay_cons, lay_str, lay_nil, ok_m, lay_data t (fun x q => h x (List.mem_append_left _ q)), lay_data u (fun x q => h x (List.mem_append_right _ q)), Bool.and_self]
end Tr
/-- names that are all right, fewer than 64 -/
structure NsOk (NS : List Str) : Prop where
  ok : ∀ x ∈ NS, PyData.strOk x = true
  few : NS.length < 64
theorem Tr.shaped {NS : List Str} (n : NsOk NS) {t : Tr} (h : ∀ x ∈ t.names, x ∈ NS) (hd : t.dep ≤ 64) : SeqAt.shaped t.data = true := by
  unfold SeqAt.shaped
  rw [Tr.lay_data t fun x q => n.ok x (h x q), Tr.depth_data, decide_eq_true hd]
  rfl
section
variable {K : PySem.W.Frag} {H : Hp}
theorem td_v {v : V} {x : Str} (h : Td K H v (Tr.v x).data) : ∃ p, v = .ref p ∧ tupF K H p = some [.str "v", .str x] := by
  cases h with
  | tup e r =>
    cases r with
    | cons h1 r =>
      cases r with
      | cons h2 r =>
        cases r
        cases h1
        cases h2
        exact ⟨_, rfl, e⟩
theorem td_f {v : V} {t : Tr} (hv : t.isV = false) (h : Td K H v t.data) : ∃ p ws, v = .ref p ∧ tupF K H p = some (.str t.hd :: ws) ∧ TdAll K H ws (t.args.map Tr.data) := by
  rw [Tr.data_f hv] at h
  cases h with
  | tup e r =>
    cases r with
    | cons h1 r =>
      cases h1
      exact ⟨_, _, rfl, e, r⟩
theorem td_hd {v : V} {t : Tr} (h : Td K H v t.data) : ∃ p ws, v = .ref p ∧ tupF K H p = some (.str t.hd :: ws) := by
  cases e : t.isV with
  | false => obtain ⟨p, ws, e, q, _⟩ := td_f e h; exact ⟨p, ws, e, q⟩
  | true =>
    cases t with
    | v x => obtain ⟨p, e, q⟩ := td_v h; exact ⟨p, _, e, q⟩
    | a => cases e
    | b => cases e
    | i s => cases e
    | m s r => cases e
theorem td_mk {p : Addr} {ws : List V} {t : Tr} (hv : t.isV = false) (h : tupF K H p = some (.str t.hd :: ws)) (r : TdAll K H ws (t.args.map Tr.data)) : Td K H (.ref p) t.data := by
  rw [Tr.data_f hv]
  exact .tup h (.cons (.str _) r)
theorem td_arg {ws : List V} {t : Tr} (r : TdAll K H ws (t.args.map Tr.data)) {j : Nat} {w : V} (h : ws[j]? = some w) : ∃ u, t.args[j]? = some u ∧ u ∈ t.args ∧ Td K H w u.data := by
  obtain ⟨d, e, q⟩ := r.get h
  rw [List.getElem?_map] at e
  cases e2 : t.args[j]? with
  | none => rw [e2] at e; cases e
  | some u =>
    rw [e2] at e
    cases e
    exact ⟨u, rfl, List.mem_of_getElem? e2, q⟩
end
theorem Ext.over {H H1 H2 : Hp} {D : Addr} (a : Ext [] H H1) (n : H D = none) (b : Ext [D] H1 H2) : Ext [] H H2 := by
  refine ⟨fun c o e _ m => ?_, fun c o e => b.tup c o (a.tup c o e), fun c o u e => b.frz c o u (a.frz c o u e), fun P h => b.tab P (a.tab P h)⟩
  refine b.keep c o (a.keep c o e (fun z => nomatch z) m) (fun z => ?_) m
  have z' : c = D := by simpa using z
  rw [z', n] at e
  cases e
/-! ### lists of texts as keys -/
def addK (ks : List Str) (x : Str) : List Str := if x ∈ ks then ks else ks ++ [x]
theorem mem_addK {ks : List Str} {x y : Str} : y ∈ addK ks x ↔ y ∈ ks ∨ y = x := by
  unfold addK
  split
  · constructor
    · exact .inl
    · rintro (h | h)
      · exact h
      · subst h; assumption
  · simp
theorem nodup_addK {ks : List Str} {x : Str} (h : ks.Nodup) : (addK ks x).Nodup := by
  unfold addK
  split
  · exact h
  · rename_i n
    exact List.nodup_append.mpr ⟨h, by simp, fun a ha b hb e => by
      have : b = x := by simpa using hb
      subst this; subst e; exact n ha⟩
theorem nodup_sub : ∀ {l m : List Str}, l.Nodup → (∀ x ∈ l, x ∈ m) → l.length ≤ m.length
  | [], _, _, _ => Nat.zero_le _
  | x :: l, m, h, s => by
    have hx : x ∈ m := s x List.mem_cons_self
    have h' := List.nodup_cons.mp h
    have := nodup_sub (l := l) (m := m.erase x) h'.2 fun y hy => (List.mem_erase_of_ne (fun e => h'.1 (by rw [← e]; exact hy))).mpr (s y (List.mem_cons_of_mem _ hy))
    rw [List.length_erase_of_mem hx] at this
    have : 0 < m.length := List.length_pos_of_mem hx
    rw [List.length_cons]; omega
def trueK (ks : List Str) : List (Key × V) := ks.map fun x => (Sum.inr x, V.bl true)
theorem put_true (ks : List Str) (x : Str) : putK (trueK ks) (Sum.inr x) (V.bl true) = trueK (addK ks x) := by
  have e : ((trueK ks).any fun kv => decide (kv.1 = Sum.inr x)) = decide (x ∈ ks) := by
    unfold trueK
    rw [List.any_map]
    induction ks with
    | nil => rfl
    | cons y ys ih =>
      rw [List.any_cons, ih]
      by_cases h : y = x
      · subst h; simp
      · have h' : ¬ x = y := fun z => h z.symm
        simp [h, h']
  unfold putK addK
  rw [e]
  by_cases h : x ∈ ks
  · rw [decide_eq_true h, if_pos rfl, if_pos h]
    unfold trueK
    rw [List.map_map]
    refine List.map_congr_left fun y _ => ?_
    simp only [Function.comp]
    split <;> simp_all
  · rw [decide_eq_false h, if_neg Bool.false_ne_true, if_neg h]
    unfold trueK
    rw [List.map_append]; rfl
theorem trueK_keys (ks : List Str) : (trueK ks).map (·.1) = ks.map Sum.inr := by unfold trueK; rw [List.map_map]; rfl
end Sq
set_option Elab.async false
set_option linter.all false
set_option maxRecDepth 100000
set_option maxHeartbeats 2000000
namespace Sq
open PySem PySem.Spec PyProof.Rows L2 RZ
theorem take_snoc {α : Type} {ds : List α} {j : Nat} {d : α} (h : ds[j]? = some d) : ds.take (j + 1) = ds.take j ++ [d] := by
  rw [List.take_add_one, h]; rfl
section
variable {K : PySem.W.Frag}
/-- a list of data, one for each item of a tuple -/
theorem lc_map {p : Addr} {ws : List V} {ds : List PyData} {te : TE} {vs : List Nat} {σ : L2.St} {H1 : Hp} {Q : VK} {i : Nat} (hp : tupF K H1 p = some ws) (hlen : ds.length = ws.length) (hsz : ws.length ≤ 100000)
    (hσ : ∀ x, wipe ((wipe σ vs).set i (some x)) vs = wipe σ vs)
    (hte : ∀ (j : Nat) (x : V) (d : PyData) (H' : Hp) (R : VK), ws[j]? = some x → ds[j]? = some d → Ext [] H1 H' → (∀ y H'', Ext [] H' H'' → Td K H'' y d → R y H'') → te ((wipe σ vs).set i (some x)) H' R)
    (hd : ∀ D ys H', H1 D = none → Ext [] H1 H' → H' D = some (.lst ys) → TdAll K H' ys ds → Q (.ref D) H') : LcB (Itt K p) (gName i) tYes te vs σ H1 Q := by
  refine lc_go walk_tup (fun D j ys H' => ys.length = j ∧ Ext [] H1 H' ∧ TdAll K H' ys (ds.take j)) (fun D hD => ⟨rfl, Ext.new hD, by rw [List.take_zero]; exact .nil⟩) (fun D j ys H' ⟨_, e, _⟩ => tupF_sq (tupF_ext e hp)) (fun D j x ys H' H'' hD hj ⟨hl, e, t⟩ _ hys y => ?_) fun D ys H' hD ⟨hl, e, t⟩ hys _ => ?_
  · obtain ⟨rfl, hx⟩ := y
    have hj' : j < ds.length := by omega
    have hdj : ds[j]? = some (ds[j]) := List.getElem?_eq_getElem hj'
    have hs1 : (100000 : Nat) < sizeLine := by decide
    refine ⟨hσ x, ?_⟩
    simp only [tYes, if_true]
    refine hte j x _ _ _ hx hdj e fun y H4 e4 hy => ⟨ys, e4.lst0 hys, by omega, ys ++ [y], by rw [List.length_append, hl]; exact Nat.le_refl _, upd_same, by rw [List.length_append, hl]; rfl, (e.trans e4).over hD (Ext.setL List.mem_cons_self (e4.lst0 hys)), ?_⟩
    rw [take_snoc hdj]
    have es : Ext [D] H4 (upd H4 D (.lst (ys ++ [y]))) := Ext.setL List.mem_cons_self (e4.lst0 hys)
    exact ((t.ext e4).ext es).snoc (hy.ext es)
  · refine hd D ys H' hD e hys ?_
    rw [← hlen, List.take_length] at t
    exact t
/-- a sum of ints, one for each item of a tuple -/
theorem gsum_map {P p : Addr} {ws : List V} {ns : List Int} {te : TE} {vs : List Nat} {σ : L2.St} {H1 : Hp} {Fin : Int → Hp → Prop} {i : Nat} (ht : GxR.TabG H1 P) (hp : tupF K H1 p = some ws) (hlen : ns.length = ws.length)
    (hσ : ∀ x, wipe ((wipe σ vs).set i (some x)) vs = wipe σ vs)
    (hb : ∀ j n, ns[j]? = some n → InLong n ∧ InLong ((ns.take j).sum + n))
    (hte : ∀ (j : Nat) (x : V) (n : Int) (H' : Hp) (R : VK), ws[j]? = some x → ns[j]? = some n → Ext [] H1 H' → (∀ H'', Ext [] H' H'' → R (.int n) H'') → te ((wipe σ vs).set i (some x)) H' R)
    (hd : ∀ H', Ext [] H1 H' → Fin ns.sum H') : GB P (Itt K p) (gName i) tYes te vs (0 : Int) (fun t y H N => ∃ j, y = .int j ∧ (InLong j ∧ InLong (t + j)) ∧ N (t + j) H) Fin σ H1 := by
  refine gen_go walk_tup ht (fun j t H' => t = (ns.take j).sum ∧ Ext [] H1 H') (fun H2 e => ⟨by rw [List.take_zero]; rfl, e⟩) (fun j t H' _ ⟨_, e⟩ => tupF_sq (tupF_ext e hp)) (fun j x t H' H'' hj ⟨hs, e⟩ y => ?_) fun t H' ⟨hs, e⟩ => ?_
  · obtain ⟨rfl, hx⟩ := y
    have hj' : j < ns.length := by omega
    have hnj : ns[j]? = some (ns[j]) := List.getElem?_eq_getElem hj'
    refine ⟨hσ x, ?_⟩
    simp only [tYes, if_true]
    obtain ⟨b1, b2⟩ := hb j _ hnj
    refine hte j x _ _ _ hx hnj e fun H4 e4 => ⟨_, rfl, ⟨b1, by rw [hs]; exact b2⟩, ?_, e.trans e4⟩
    rw [take_snoc hnj, hs, List.sum_append]
    simp
  · rw [← hlen, List.take_length] at hs
    rw [hs]
    exact hd H' e
theorem two_long {ns : List Int} (hl : ns.length ≤ 2) (hb : ∀ n ∈ ns, 0 ≤ n ∧ n ≤ 4194304) : ∀ j n, ns[j]? = some n → InLong n ∧ InLong ((ns.take j).sum + n) := by
  intro j n h
  have lo : ∀ x : Int, 0 ≤ x → x ≤ 8388608 → InLong x := fun x h1 h2 => by unfold InLong; omega
  match ns, hl, hb, j, h with
  | [x], _, hb, 0, h => cases h; have := hb n (by simp); exact ⟨lo _ (by omega) (by omega), lo _ (by simp; omega) (by simp; omega)⟩
  | [x, y], _, hb, 0, h => cases h; have := hb n (by simp); exact ⟨lo _ (by omega) (by omega), lo _ (by simp; omega) (by simp; omega)⟩
  | [x, y], _, hb, 1, h => cases h; have := hb n (by simp); have := hb x (by simp); exact ⟨lo _ (by omega) (by omega), lo _ (by simp; omega) (by simp; omega)⟩
theorem td_ints {H : Hp} : ∀ {ys : List V} {ns : List Int}, TdAll K H ys (ns.map PyData.int) → ys = ns.map V.int
  | _, [], .nil => rfl
  | _, _ :: _, .cons (.int _) r => by rw [td_ints r]; rfl
/-- any over the keys of a locked dict -/
theorem gany_keys {P d : Addr} {o : Obj} {kvs : List (Key × V)} {te : TE} {vs : List Nat} {σ : L2.St} {H1 : Hp} {Qt Qf : Hp → Prop} {i : Nat} (r : Nat → Bool) (ht : GxR.TabG H1 P) (hd : H1 d = some (.frz o (.dK kvs)))
    (hσ : ∀ x, wipe ((wipe σ vs).set i (some x)) vs = wipe σ vs)
    (hte : ∀ (j : Nat) (k : Key) (v : V) (H' : Hp) (R : VK), kvs[j]? = some (k, v) → Ext [] H1 H' → (∀ H'', Ext [] H' H'' → R (.bl (r j)) H'') → te ((wipe σ vs).set i (some (kV k))) H' R)
    (hT : ∀ H' j, j < kvs.length → r j = true → Ext [] H1 H' → Qt H') (hF : ∀ H', (∀ j, j < kvs.length → r j = false) → Ext [] H1 H' → Qf H') :
    GB P (Itk d o kvs) (gName i) tYes te vs () (fun _ y H N => ∃ b, y = .bl b ∧ if b = true then Qt H else N () H) (fun _ H => Qf H) σ H1 := by
  refine gen_go walk_keys ht (fun j _ H' => (∀ m, m < j → r m = false) ∧ Ext [] H1 H') (fun H2 e => ⟨fun m hm => absurd hm (Nat.not_lt_zero _), e⟩) (fun j t H' _ ⟨_, e⟩ => e.frz _ _ _ hd) (fun j x t H' H'' hj ⟨hs, e⟩ y => ?_) fun t H' ⟨hs, e⟩ => hF H' hs e
  obtain ⟨rfl, k, v, hk, rfl⟩ := y
  refine ⟨hσ _, ?_⟩
  simp only [tYes, if_true]
  refine hte j k v _ _ hk e fun H4 e4 => ⟨_, rfl, ?_⟩
  cases hr : r j with
  | true => simp only [if_true]; exact hT H4 j hj hr (e.trans e4)
  | false =>
    simp only [Bool.false_eq_true, if_false]
    refine ⟨fun m hm => ?_, e.trans e4⟩
    by_cases q : m = j
    · rw [q]; exact hr
    · exact hs m (by omega)
theorem dctF_lock {H : Hp} {d p : Addr} {o : Obj} {k1 k2 : List (Key × V)} (h : dctF H p = some k1) (hd : H d = some (.dK k2)) : dctF (upd H d (.frz o (.dK k2))) p = some k1 := by
  by_cases e : p = d
  · subst e
    rw [dctF_dK hd] at h
    cases h
    exact dctF_frz upd_same
  · unfold dctF
    rw [upd_ne e]
    exact h
theorem valV_at : ∀ {kvs : List (Key × V)} {j : Nat} {k : Key} {v : V}, kvs[j]? = some (k, v) → ∃ v', valV kvs k = some v'
  | p :: r, 0, k, v, h => by cases h; exact ⟨v, valV_pos rfl⟩
  | p :: r, j + 1, k, v, h => by
    by_cases e : p.1 = k
    · exact ⟨_, valV_pos e⟩
    · rw [valV_neg e]; exact valV_at (by simpa using h)
theorem at_valV {kvs : List (Key × V)} {k : Key} {v : V} (h : valV kvs k = some v) : ∃ j : Nat, kvs[j]? = some (k, v) := by
  induction kvs with
  | nil => cases h
  | cons p r ih =>
    by_cases e : p.1 = k
    · rw [valV_pos e] at h
      cases h
      exact ⟨0, by rw [← e]; rfl⟩
    · rw [valV_neg e] at h
      obtain ⟨j, hj⟩ := ih h
      exact ⟨j + 1, by simpa using hj⟩
end
end Sq
namespace Sq
open PySem L2
def top (i : Nat) : Stmt := PySem.Challenge.pw_sequenthall_k32_trees_in_order.main.body.getD i (.Pass ⟨0, 0, 0, 0⟩)
end Sq
set_option Elab.async false
set_option linter.all false
set_option maxRecDepth 100000
set_option maxHeartbeats 2000000
namespace Sq
open PySem PySem.Spec PyProof.Rows L2
local macro_rules | `(tactic| walk_at "rd") => `(tactic| simp only [tCont, tDisp, tPairs, rIndexS, wipe, tNoPart, tDG2, tDGF, tDInF, tDNInF, sDPutF, tDNewF, rSortD, rInS, rInT, rEqLF, tDcF, tDc2F, tLcF, tForF, tAllF, tAnyF, tSumF, iEnumF, iZipF, iKeysF, iItems, tLZip, tYes, tSeq, tIfS, tNext, tRet, tRetN, tDrop, tTest, tB, tNot, tAnd, tOr, tChain, tOp, tUn, tCB, tCons, tNil, tC, tVar, tIf, tAndV, tOrV, tNotV, tAsg, tPar, tPar3, gName, gSub, gTupF, gCons, gNil, tTupF, tLstF, rI0, rI, rIxF, rIxG, rIxS, rSetF, rSlF, rCatF, rCatL, rTupL, rListT, rListL, rLenT, rLenL, iTupF, iLstF, rAppF, rExtF, rPopF, tBM, tBM0, tSl, tPart, rEq, rNe, tCall, L2.start,
  List.map_cons, List.map_nil, List.length_cons, List.length_nil, Nat.sub_self, List.replicate, List.append_nil, List.cons_append, List.nil_append, List.getElem?_cons_zero, List.getElem?_cons_succ, List.set_cons_zero, List.set_cons_succ,
  exSl, exI, exI2, exB, exS, exR, ex1, ex1', V.int.injEq, V.bl.injEq, V.ref.injEq, V.str.injEq, Option.some.injEq, List.cons.injEq, and_true, true_and, reduceCtorEq, false_and, and_false, or_false, false_or, exists_false, exists_and_left, exists_eq_left', decide_eq_true_eq, decide_true, decide_false, if_false, if_true, ite_true, ite_false, Bool.false_eq_true, Bool.not_true, Bool.not_false, Nat.reduceAdd, Nat.reduceSub, Nat.zero_add, atI_0, atI_1, atI_2, atI_3, ixN_0, ixN_1, ixN_2, cutV_1, cutV_2, Option.some.injEq, HO.lst.injEq, HO.dK.injEq, scal])
local macro_rules | `(tactic| walk_at "rdc") => `(tactic| simp (config := { contextual := true }) only [tCont, tDisp, tPairs, rIndexS, wipe, tNoPart, tDG2, tDGF, tDInF, tDNInF, sDPutF, tDNewF, rSortD, rInS, rInT, rEqLF, tDcF, tDc2F, tLcF, tForF, tAllF, tAnyF, tSumF, iEnumF, iZipF, iKeysF, iItems, tLZip, tYes, tSeq, tIfS, tNext, tRet, tRetN, tDrop, tTest, tB, tNot, tAnd, tOr, tChain, tOp, tUn, tCB, tCons, tNil, tC, tVar, tIf, tAndV, tOrV, tNotV, tAsg, tPar, tPar3, gName, gSub, gTupF, gCons, gNil, tTupF, tLstF, rI0, rI, rIxF, rIxG, rIxS, rSetF, rSlF, rCatF, rCatL, rTupL, rListT, rListL, rLenT, rLenL, iTupF, iLstF, rAppF, rExtF, rPopF, tBM, tBM0, tSl, tPart, rEq, rNe, tCall, L2.start,
  List.map_cons, List.map_nil, List.length_cons, List.length_nil, Nat.sub_self, List.replicate, List.append_nil, List.cons_append, List.nil_append, List.getElem?_cons_zero, List.getElem?_cons_succ, List.set_cons_zero, List.set_cons_succ,
  exSl, exI, exI2, exB, exS, exR, ex1, ex1', V.int.injEq, V.bl.injEq, V.ref.injEq, V.str.injEq, Option.some.injEq, List.cons.injEq, and_true, true_and, reduceCtorEq, false_and, and_false, or_false, false_or, exists_false, exists_and_left, exists_eq_left', decide_eq_true_eq, decide_true, decide_false, if_false, if_true, ite_true, ite_false, Bool.false_eq_true, Bool.not_true, Bool.not_false, Nat.reduceAdd, Nat.reduceSub, Nat.zero_add, atI_0, atI_1, atI_2, atI_3, ixN_0, ixN_1, ixN_2, cutV_1, cutV_2, Option.some.injEq, HO.lst.injEq, HO.dK.injEq, scal, *])
abbrev s__law_dice : Stmt := top 14
abbrev s__law_roll : Stmt := top 15
abbrev s__law_rounds : Stmt := top 16
/-- names that are still the built-in ones -/
structure Bl (mg : Str → Option Value) : Prop where
  b_len : mg "len" = none
  b_abs : mg "abs" = none
  b_int : mg "int" = none
  b_str : mg "str" = none
  b_tuple : mg "tuple" = none
  b_list : mg "list" = none
  b_dict : mg "dict" = none
  b_sorted : mg "sorted" = none
  b_sum : mg "sum" = none
  b_any : mg "any" = none
  b_all : mg "all" = none
  b_max : mg "max" = none
  b_min : mg "min" = none
  b_range : mg "range" = none
  b_zip : mg "zip" = none
  b_enumerate : mg "enumerate" = none
  b_reversed : mg "reversed" = none
  b_isinstance : mg "isinstance" = none
/-- three numbers in a list of their own -/
def DiceAt (H : Hp) (a : Addr) : Prop := ∃ x y z : Int, H a = some (.lst [.int x, .int y, .int z])
def spDice : Sp := fun vs H Q _ => ∃ c : Int, vs = [.int c] ∧ ∀ p H', H p = none → Ext [] H H' → DiceAt H' p → Q (.ref p) H'
def spRoll : Sp := fun vs H Q _ => ∃ (a : Addr) (m : Int), vs = [.ref a, .int m] ∧ DiceAt H a ∧ 0 < m ∧ m < 1000000 ∧ ∀ r H', 0 ≤ r → r < m → Ext [a] H H' → DiceAt H' a → Q (.int r) H'
section
variable {P : Program} {w : World} {K : PySem.W.Frag} {mg : Str → Option Value} {base : Heap} {f c : Addr} {fd : FuncData}
theorem sc__law_dice : FnScope ["cell"] ["cell"] (defScope s__law_dice) := ⟨rfl, rfl, rfl, by decide +kernel, rfl, by decide +kernel, by decide +kernel⟩
theorem ok_dice (F : Dn K mg "_law_dice" s__law_dice f fd c) (B : Bl mg) : Cal P w K mg base 1 "_law_dice" spDice := by
  refine F.cal (ps := ["cell"]) (fun _ _ _ _ _ _ us hl => match us, hl with | [_], _ => rfl) sc__law_dice (fun vs H Q E h => ?_) (fun A outer s H vs Q E hr h => ?_)
  · obtain ⟨_, rfl, _⟩ := h; rfl
  obtain ⟨n, rfl, q⟩ := h
  refine ⟨_, (pss_cons (ps_if (pt_chain op_lt op_lt (pe_op op_sub pe_int pe_int) (pv 0) pe_int) (pss_one (ps_ret (pe_lstF (pa_cons (pe_callB call_abs (by rfl) B.b_abs (by decide +kernel) (pa_cons (pv 0) pa_nil)) (pa_cons pe_int (pa_cons pe_int pa_nil)))))) pss_nil)
    (pss_one (ps_ret (pe_lstF (pa_cons (pv 0) (pa_cons (pe_op op_add pe_int (pe_op op_mod (pe_callTy call_int1 (by rfl) B.b_int (by decide +kernel) (pa_cons (pv 0) pa_nil)) pe_int)) (pa_cons (pe_callTy call_int1 (by rfl) B.b_int (by decide +kernel) (pa_cons (pe_cmpR op_ge (pv 0) (pe_op op_pow pe_int pe_int) (nomark _)) pa_nil)) pa_nil))))))), ?_⟩
  walk_at "rd"
  have z : 3 ≤ sizeLine := by decide
  have e : ∀ x y u : Int, 3 ≤ sizeLine ∧ ∀ p H2, H p = none → Ext [] H H2 → H2 p = some (.lst [.int x, .int y, .int u]) → Q (.ref p) H2 := fun x y u => ⟨z, fun p H2 hp e h => q p H2 hp e ⟨x, y, u, h⟩⟩
  have e2 : (0 : Int) < 1009 ∧ CPow 10 18 ∧ 3 ≤ sizeLine ∧ ∀ p H2, H p = none → Ext [] H H2 → H2 p = some (.lst [.int n, .int (1 + n % 1009), .int (if (10 : Int) ^ Int.toNat 18 ≤ n then 1 else 0)]) → Q (.ref p) H2 := ⟨by decide, ⟨by decide, by decide, by decide⟩, e _ _ _⟩
  refine ite2 (fun _ => ite2 (fun _ => e _ _ _) fun _ => e2) fun _ => e2

theorem sc__law_roll : FnScope ["dice", "many", "found"] ["dice", "many"] (defScope s__law_roll) := ⟨rfl, rfl, rfl, by decide +kernel, rfl, by decide +kernel, by decide +kernel⟩
theorem ok_roll (F : Dn K mg "_law_roll" s__law_roll f fd c) (B : Bl mg) : Cal P w K mg base 1 "_law_roll" spRoll := by
  refine F.cal (ps := ["dice", "many"]) (fun _ _ _ _ _ _ us hl => match us, hl with | [_, _], _ => rfl) sc__law_roll (fun vs H Q E h => ?_) (fun A outer s H vs Q E hr h => ?_)
  · obtain ⟨_, _, rfl, _⟩ := h; rfl
  obtain ⟨a, m, rfl, ⟨x, y, u, ha⟩, m0, m1, q⟩ := h
  refine ⟨_, (pss_cons (ps_if (PW.pt (pw_or (pt_cmpR op_eq (pe_ix ix_lstF (pv 0) pe_int (fun _ _ => rfl)) pe_int (nomark _)) (pw_or1 (PW.pt (pw_and (pt_cmpR op_eq (pe_ix ix_lstF (pv 0) pe_int (fun _ _ => rfl)) pe_int (nomark _)) (pw_and1 (pt_cmpR op_gt (pe_ix ix_lstF (pv 0) pe_int (fun _ _ => rfl)) pe_int (nomark _)))))))) (pss_cons (ps_set (i := 2) sc__law_roll.nd rfl (by first | exact Or.inl rfl | exact Or.inr rfl) (pe_op op_mod (pe_callTy call_int1 (by rfl) B.b_int (by decide +kernel) (pa_cons (pe_ix ix_lstF (pv 0) pe_int (fun _ _ => rfl)) pa_nil)) (pv 1)))
    (pss_cons (ps_asg (pe_op op_fdivN (pe_ix ix_lstF (pv 0) pe_int (fun _ _ => rfl)) (pv 1)) (pg_sub (pv 0) pe_int set_lstF))
    (pss_one (ps_ret (pv 2))))) pss_nil)
    (pss_cons (ps_asg pe_int (pg_sub (pv 0) pe_int set_lstF))
    (pss_cons (ps_asg (pe_op op_mod (pe_callTy call_int1 (by rfl) B.b_int (by decide +kernel) (pa_cons (pe_op op_add (pe_op op_add (pe_op op_mul (pe_ix ix_lstF (pv 0) pe_int (fun _ _ => rfl)) pe_int) (pe_op op_mul (pe_ix ix_lstF (pv 0) pe_int (fun _ _ => rfl)) pe_int)) pe_int) pa_nil)) pe_int) (pg_sub (pv 0) pe_int set_lstF))
    (pss_cons (ps_asg (pe_op op_add (pe_ix ix_lstF (pv 0) pe_int (fun _ _ => rfl)) pe_int) (pg_sub (pv 0) pe_int set_lstF))
    (pss_one (ps_ret (pe_op op_mod (pe_callTy call_int1 (by rfl) B.b_int (by decide +kernel) (pa_cons (pe_op op_add (pe_op op_fdivN (pe_ix ix_lstF (pv 0) pe_int (fun _ _ => rfl)) pe_int) (pe_ix ix_lstF (pv 0) pe_int (fun _ _ => rfl))) pa_nil)) (pv 1)))))))), ?_⟩
  walk_at "rd"
  have q' := q
  clear q
  walk_at "rdc"
  have q := q'
  have bot : ∀ {p : Prop}, (∀ H2, Ext [a] H H2 → H2 a = some (HO.lst [V.int x, V.int y, V.int 0]) → CMul x 48271 ∧ CMul y 69621 ∧ (0 : Int) < 2147483647 ∧ ∀ H3, Ext [a] H2 H3 → H3 a = some (HO.lst [V.int ((x * 48271 + y * 69621 + 11) % 2147483647), V.int y, V.int 0]) →
      ∀ H4, Ext [a] H3 H4 → H4 a = some (HO.lst [V.int ((x * 48271 + y * 69621 + 11) % 2147483647), V.int (y + 1), V.int 0]) → CDivN ((x * 48271 + y * 69621 + 11) % 2147483647) 7 ∧
        Q (V.int ((((x * 48271 + y * 69621 + 11) % 2147483647).fdiv 7 + (x * 48271 + y * 69621 + 11) % 2147483647) % m)) H4) := fun {p} H2 e2 _ =>
    ⟨.inr (by decide), .inr (by decide), by decide, fun H3 e3 _ H4 e4 h4 => ⟨⟨by decide, by decide⟩, q _ _ (Int.emod_nonneg _ (by omega)) (Int.emod_lt_of_pos _ m0) ((e2.trans e3).trans e4) ⟨_, _, _, h4⟩⟩⟩
  have top : 0 < m ∧ CDivN x m ∧ ∀ H2, Ext [a] H H2 → H2 a = some (HO.lst [V.int (x.fdiv m), V.int y, V.int u]) → Q (V.int (x % m)) H2 :=
    ⟨m0, ⟨by omega, by omega⟩, fun H2 e2 h2 => q _ _ (Int.emod_nonneg _ (by omega)) (Int.emod_lt_of_pos _ m0) e2 ⟨_, _, _, h2⟩⟩
  by_cases h2 : u = 2
  · subst h2
    rw [if_pos rfl]
    exact ⟨⟨by omega, by omega⟩, top.2.2⟩
  · rw [if_neg h2]
    by_cases h1 : u = 1
    · subst h1
      rw [if_pos rfl]
      by_cases h0 : 0 < x
      · rw [if_pos h0]
        exact ⟨⟨by omega, by omega⟩, top.2.2⟩
      · rw [if_neg h0]
        exact bot (p := True)
    · rw [if_neg h1]
      exact bot (p := True)
end
end Sq
set_option Elab.async false
set_option linter.all false
set_option maxRecDepth 100000
set_option maxHeartbeats 2000000
namespace Sq
open PySem PySem.Spec PyProof.Rows L2 RZ
local macro_rules | `(tactic| walk_at "rd") => `(tactic| simp only [tCont, tDisp, tPairs, rIndexS, wipe, tNoPart, tDG2, tDGF, tDInF, tDNInF, sDPutF, tDNewF, rSortD, rInS, rInT, rEqLF, tDcF, tDc2F, tLcF, tForF, tAllF, tAnyF, tSumF, iEnumF, iZipF, iKeysF, iItems, tLZip, tYes, tSeq, tIfS, tNext, tRet, tRetN, tDrop, tTest, tB, tNot, tAnd, tOr, tChain, tOp, tUn, tCB, tCons, tNil, tC, tVar, tIf, tAndV, tOrV, tNotV, tAsg, tPar, tPar3, gName, gSub, gTupF, gCons, gNil, tTupF, tLstF, rI0, rI, rIxF, rIxG, rIxS, rSetF, rSlF, rCatF, rCatL, rTupL, rListT, rListL, rLenT, rLenL, iTupF, iLstF, rAppF, rExtF, rPopF, tBM, tBM0, tSl, tPart, rEq, rNe, tCall, L2.start,
  List.map_cons, List.map_nil, List.length_cons, List.length_nil, Nat.sub_self, List.replicate, List.append_nil, List.cons_append, List.nil_append, List.getElem?_cons_zero, List.getElem?_cons_succ, List.set_cons_zero, List.set_cons_succ,
  exSl, exI, exI2, exB, exS, exR, ex1, ex1', V.int.injEq, V.bl.injEq, V.ref.injEq, V.str.injEq, Option.some.injEq, List.cons.injEq, and_true, true_and, reduceCtorEq, false_and, and_false, or_false, false_or, exists_false, exists_and_left, exists_eq_left', decide_eq_true_eq, decide_true, decide_false, if_false, if_true, ite_true, ite_false, Bool.false_eq_true, Bool.not_true, Bool.not_false, Nat.reduceAdd, Nat.reduceSub, Nat.zero_add, atI_0, atI_1, atI_2, atI_3, ixN_0, ixN_1, ixN_2, cutV_1, cutV_2, Option.some.injEq, HO.lst.injEq, HO.dK.injEq, scal])
local macro_rules | `(tactic| walk_at "rdc") => `(tactic| simp (config := { contextual := true }) only [tCont, tDisp, tPairs, rIndexS, wipe, tNoPart, tDG2, tDGF, tDInF, tDNInF, sDPutF, tDNewF, rSortD, rInS, rInT, rEqLF, tDcF, tDc2F, tLcF, tForF, tAllF, tAnyF, tSumF, iEnumF, iZipF, iKeysF, iItems, tLZip, tYes, tSeq, tIfS, tNext, tRet, tRetN, tDrop, tTest, tB, tNot, tAnd, tOr, tChain, tOp, tUn, tCB, tCons, tNil, tC, tVar, tIf, tAndV, tOrV, tNotV, tAsg, tPar, tPar3, gName, gSub, gTupF, gCons, gNil, tTupF, tLstF, rI0, rI, rIxF, rIxG, rIxS, rSetF, rSlF, rCatF, rCatL, rTupL, rListT, rListL, rLenT, rLenL, iTupF, iLstF, rAppF, rExtF, rPopF, tBM, tBM0, tSl, tPart, rEq, rNe, tCall, L2.start,
  List.map_cons, List.map_nil, List.length_cons, List.length_nil, Nat.sub_self, List.replicate, List.append_nil, List.cons_append, List.nil_append, List.getElem?_cons_zero, List.getElem?_cons_succ, List.set_cons_zero, List.set_cons_succ,
  exSl, exI, exI2, exB, exS, exR, ex1, ex1', V.int.injEq, V.bl.injEq, V.ref.injEq, V.str.injEq, Option.some.injEq, List.cons.injEq, and_true, true_and, reduceCtorEq, false_and, and_false, or_false, false_or, exists_false, exists_and_left, exists_eq_left', decide_eq_true_eq, decide_true, decide_false, if_false, if_true, ite_true, ite_false, Bool.false_eq_true, Bool.not_true, Bool.not_false, Nat.reduceAdd, Nat.reduceSub, Nat.zero_add, atI_0, atI_1, atI_2, atI_3, ixN_0, ixN_1, ixN_2, cutV_1, cutV_2, Option.some.injEq, HO.lst.injEq, HO.dK.injEq, scal, *])
section
variable {P : Program} {w : World} {K : PySem.W.Frag} {mg : Str → Option Value} {base : Heap} {f c : Addr} {fd : FuncData} {NS : List Str}
abbrev s_holes : Stmt := top 1
abbrev n_holes : List Str := ["tree", "part", "name"]
theorem sc_holes : FnScope n_holes ["tree"] (defScope s_holes) := ⟨rfl, rfl, rfl, by decide +kernel, rfl, by decide +kernel, by decide +kernel⟩
def spHoles (K : PySem.W.Frag) (NS : List Str) (k : Nat) : Sp := fun vs H Q _ => ∃ (v : V) (t : Tr), vs = [v] ∧ Td K H v t.data ∧ t.dep ≤ k ∧ (∀ x ∈ t.names, x ∈ NS) ∧ ∀ (p : Addr) (ns : List Str) (H' : Hp), Ext [] H H' → tupF K H' p = some (ns.map V.str) → (∀ x, x ∈ ns ↔ x ∈ t.names) → Q (.ref p) H'
theorem ok_holes (F : Dn K mg "holes" s_holes f fd c) (B : Bl mg) (hN : NsOk NS) : ∀ k, Cal P w K mg base k "holes" (spHoles K NS k) := by
  refine F.calRec (ps := ["tree"]) (fun _ _ _ _ _ _ us hl => match us, hl with | [_], _ => rfl) (fun vs H Q E ⟨v, t, _, _, h, _⟩ => by have := t.dep_pos; omega) fun k G_holes => ?_
  refine F.ok sc_holes (fun vs H Q E h => ?_) (fun A outer s H vs Q E hr h => ?_)
  · obtain ⟨_, _, rfl, _⟩ := h; rfl
  obtain ⟨v, t, rfl, ht, hd, hns, q⟩ := h
  refine ⟨_, (pss_cons (ps_if (pt_cmpR op_eq (pe_ix (ix_tupK K) (pv 0) pe_int (fun _ _ => rfl)) pe_str (nomark _)) (pss_one (ps_ret (pe_tupK K (pa_cons (pe_ix (ix_tupK K) (pv 0) pe_int (fun _ _ => rfl)) pa_nil)))) pss_nil)
    (pss_one (ps_ret (pe_callTy (call_tupleK K) (by rfl) B.b_tuple (by decide +kernel) (pa_cons (pe_callB (call_sortedF rfl) (by rfl) B.b_sorted (by decide +kernel) (pa_cons (pe_dc2F (own := [("part", 1), ("name", 2)]) (vs1 := [2]) rfl sc_holes.nd (pi_tupK K (pe_slice (sl_tupK K) (pv 0) (po_some pe_int) po_none)) (blkOk_by (own := [("part", 1), ("name", 2)]) (N := n_holes) (sc := defScope s_holes) (by decide +kernel)) (by decide) (fun _ _ _ _ _ => (pg_name (i := 1) sc_holes.nd rfl (by first | exact Or.inl rfl | exact Or.inr rfl))) (fun _ _ _ _ _ => pts_nil) (fun _ _ _ _ _ => (pi_tupK K (C8.pe_c G_holes hr (by omega) (by rfl) (pa_cons (pv 1) pa_nil)))) (fun _ _ _ _ _ => (pg_name (i := 2) sc_holes.nd rfl (by first | exact Or.inl rfl | exact Or.inr rfl))) (fun _ _ _ _ _ => pts_nil) (fun _ _ _ _ _ => (pv 2)) (fun _ _ _ _ _ => pe_bl)) pa_nil)) pa_nil))))), ?_⟩
  cases hv : t.isV with
  | true =>
    cases t with
    | v x =>
      obtain ⟨p, rfl, hp⟩ := td_v ht
      have q' := q
      clear q
      walk_at "rdc"
      refine ⟨by decide, fun p2 H2 e2 h2 => q' p2 [x] H2 e2 h2 fun y => by simp [Tr.names]⟩
    | a => cases hv
    | b => cases hv
    | i s => cases hv
    | m s r => cases hv
  | false =>
    obtain ⟨p, ws, rfl, hp, hws⟩ := td_f hv ht
    have hne := Tr.hd_v hv
    have q' := q
    clear q ht
    walk_at "rdc"
    intro p1 H1 e1 h1
    refine dc2_go walk_tup (fun D i H' => ∃ ks, H' D = some (.dK (trueK ks)) ∧ ks.Nodup ∧ Ext [] H1 H' ∧ ∀ x, x ∈ ks ↔ ∃ j u, j < i ∧ t.args[j]? = some u ∧ x ∈ u.names) (fun D hD => ⟨[], upd_same, List.nodup_nil, Ext.new hD, fun x => by simp⟩)
      (fun D i H' ⟨ks, _, _, e, _⟩ => tupF_sq (tupF_ext e h1)) (fun D i x H' H'' hD hi ⟨ks, hk, nd, e, mem⟩ y => ?_) fun D H' hD ⟨ks, hk, nd, e, mem⟩ => ?_
    · obtain ⟨rfl, hx⟩ := y
      obtain ⟨u, hu, hum, hud⟩ := td_arg hws hx
      have hsub : ∀ y ∈ u.names, y ∈ NS := fun y hy => hns y (Tr.names_arg hum hy)
      walk_at "rd"
      refine ⟨x, u, rfl, (hud.ext e1).ext e, by have := Tr.dep_arg hum; omega, hsub, fun p2 ns H3 e3 h3 hns3 => ⟨p2, rfl, _, h3, ?_⟩⟩
      refine dc2_in walk_tup (fun j H' => ∃ ks, H' D = some (.dK (trueK ks)) ∧ ks.Nodup ∧ Ext [] H1 H' ∧ tupF K H' p2 = some (ns.map V.str) ∧ ∀ x, x ∈ ks ↔ (∃ j u, j < i ∧ t.args[j]? = some u ∧ x ∈ u.names) ∨ ∃ m, m < j ∧ ns[m]? = some x)
        ⟨ks, e3.dK0 hk, nd, e.trans e3, h3, fun x => by simp [mem]⟩ (fun j H' ⟨_, _, _, _, h, _⟩ => tupF_sq h) (fun j z H4 H5 hj ⟨ks, hk, nd, e, h, mem⟩ y => ?_) fun H4 ⟨ks, hk, nd, e, h, mem⟩ => ⟨ks, hk, nd, e, fun x => ?_⟩
      · obtain ⟨rfl, hz⟩ := y
        rw [List.getElem?_map] at hz
        cases hn : ns[j]? with
        | none => rw [hn] at hz; cases hz
        | some n =>
          rw [hn] at hz
          cases hz
          walk_at "rd"
          refine ⟨trueK ks, Sum.inr n, rfl, hk, ?_, addK ks n, by rw [put_true]; exact upd_same, nodup_addK nd, e.over hD (Ext.setD List.mem_cons_self hk), tupF_ext (Ext.setD (S := [D]) List.mem_cons_self hk) h, fun x => ?_⟩
          · have := nodup_sub nd (m := NS) fun x hx => (mem x).mp hx |>.elim (fun ⟨j, u, _, h1, h2⟩ => hns x (Tr.names_arg (List.mem_of_getElem? h1) h2)) fun ⟨m, _, h1⟩ => hsub x ((hns3 x).mp (List.mem_of_getElem? h1))
            have := hN.few
            have q : (trueK ks).length = ks.length := by unfold trueK; rw [List.length_map]
            have : (64 : Nat) < sizeLine := by decide
            omega
          · rw [mem_addK, mem]
            constructor
            · rintro ((⟨j0, u0, a1, a2, a3⟩ | ⟨m, h1, h2⟩) | h)
              · exact .inl ⟨j0, a1, u0, a2, a3⟩
              · exact .inr ⟨m, by omega, h2⟩
              · subst h; exact .inr ⟨j, by omega, hn⟩
            · rintro (⟨j0, a1, u0, a2, a3⟩ | ⟨m, h1, h2⟩)
              · exact .inl (.inl ⟨j0, u0, a1, a2, a3⟩)
              · by_cases q : m = j
                · subst q; rw [hn] at h2; exact .inr (Option.some.inj h2).symm
                · exact .inl (.inr ⟨m, by omega, h2⟩)
      · rw [mem]
        constructor
        · rintro (⟨j, u, h1, h2, h3⟩ | ⟨m, h1, h2⟩)
          · exact ⟨j, by omega, u, h2, h3⟩
          · exact ⟨i, by omega, u, hu, (hns3 x).mp (List.mem_of_getElem? h2)⟩
        · rintro ⟨j, h1, u', h2, h3⟩
          by_cases q : j = i
          · subst q
            rw [hu] at h2
            cases h2
            obtain ⟨m, hm, h4⟩ := List.mem_iff_getElem.mp ((hns3 x).mpr h3)
            exact .inr ⟨m, by rw [List.length_map]; exact hm, by rw [List.getElem?_eq_getElem hm, h4]⟩
          · exact .inl ⟨j, u', by omega, h2, h3⟩
    · refine ⟨D, rfl, trueK ks, dctF_dK hk, ks, trueK_keys ks, ?_, fun ys p2 H2 pm sr hp2 e2 h2 p3 H3 e3 h3 => q' p3 ys H3 (((e1.trans e).trans e2).trans e3) h3 fun x => ?_⟩
      · have := nodup_sub nd (m := NS) fun x hx => let ⟨j, u, _, h1, h2⟩ := (mem x).mp hx; hns x (Tr.names_arg (List.mem_of_getElem? h1) h2)
        have := hN.few
        omega
      · rw [pm.mem_iff, mem, Tr.names_args hv]
        constructor
        · rintro ⟨j, u, _, h1, h2⟩
          exact ⟨u, List.mem_of_getElem? h1, h2⟩
        · rintro ⟨u, h1, h2⟩
          obtain ⟨m, hm, h4⟩ := List.mem_iff_getElem.mp h1
          exact ⟨m, u, by have := hws.length; rw [List.length_map] at this; omega, by rw [List.getElem?_eq_getElem hm, h4], h2⟩
end
end Sq
set_option Elab.async false
set_option linter.all false
set_option maxRecDepth 100000
set_option maxHeartbeats 2000000
namespace Sq
open PySem PySem.Spec PyProof.Rows L2 RZ
local macro_rules | `(tactic| walk_at "rd") => `(tactic| simp only [tCont, tDisp, tPairs, rIndexS, wipe, tNoPart, tDG2, tDGF, tDInF, tDNInF, sDPutF, tDNewF, rSortD, rInS, rInT, rEqLF, tDcF, tDc2F, tLcF, tForF, tAllF, tAnyF, tSumF, iEnumF, iZipF, iKeysF, iItems, tLZip, tYes, tSeq, tIfS, tNext, tRet, tRetN, tDrop, tTest, tB, tNot, tAnd, tOr, tChain, tOp, tUn, tCB, tCons, tNil, tC, tVar, tIf, tAndV, tOrV, tNotV, tAsg, tPar, tPar3, gName, gSub, gTupF, gCons, gNil, tTupF, tLstF, rI0, rI, rIxF, rIxG, rIxS, rSetF, rSlF, rCatF, rCatL, rTupL, rListT, rListL, rLenT, rLenL, iTupF, iLstF, rAppF, rExtF, rPopF, tBM, tBM0, tSl, tPart, rEq, rNe, tCall, L2.start,
  List.map_cons, List.map_nil, List.length_cons, List.length_nil, Nat.sub_self, List.replicate, List.append_nil, List.cons_append, List.nil_append, List.getElem?_cons_zero, List.getElem?_cons_succ, List.set_cons_zero, List.set_cons_succ,
  exSl, exI, exI2, exB, exS, exR, ex1, ex1', V.int.injEq, V.bl.injEq, V.ref.injEq, V.str.injEq, Option.some.injEq, List.cons.injEq, and_true, true_and, reduceCtorEq, false_and, and_false, or_false, false_or, exists_false, exists_and_left, exists_eq_left', decide_eq_true_eq, decide_true, decide_false, if_false, if_true, ite_true, ite_false, Bool.false_eq_true, Bool.not_true, Bool.not_false, Nat.reduceAdd, Nat.reduceSub, Nat.zero_add, atI_0, atI_1, atI_2, atI_3, ixN_0, ixN_1, ixN_2, cutV_1, cutV_2, Option.some.injEq, HO.lst.injEq, HO.dK.injEq, scal])
local macro_rules | `(tactic| walk_at "rdc") => `(tactic| simp (config := { contextual := true }) only [tCont, tDisp, tPairs, rIndexS, wipe, tNoPart, tDG2, tDGF, tDInF, tDNInF, sDPutF, tDNewF, rSortD, rInS, rInT, rEqLF, tDcF, tDc2F, tLcF, tForF, tAllF, tAnyF, tSumF, iEnumF, iZipF, iKeysF, iItems, tLZip, tYes, tSeq, tIfS, tNext, tRet, tRetN, tDrop, tTest, tB, tNot, tAnd, tOr, tChain, tOp, tUn, tCB, tCons, tNil, tC, tVar, tIf, tAndV, tOrV, tNotV, tAsg, tPar, tPar3, gName, gSub, gTupF, gCons, gNil, tTupF, tLstF, rI0, rI, rIxF, rIxG, rIxS, rSetF, rSlF, rCatF, rCatL, rTupL, rListT, rListL, rLenT, rLenL, iTupF, iLstF, rAppF, rExtF, rPopF, tBM, tBM0, tSl, tPart, rEq, rNe, tCall, L2.start,
  List.map_cons, List.map_nil, List.length_cons, List.length_nil, Nat.sub_self, List.replicate, List.append_nil, List.cons_append, List.nil_append, List.getElem?_cons_zero, List.getElem?_cons_succ, List.set_cons_zero, List.set_cons_succ,
  exSl, exI, exI2, exB, exS, exR, ex1, ex1', V.int.injEq, V.bl.injEq, V.ref.injEq, V.str.injEq, Option.some.injEq, List.cons.injEq, and_true, true_and, reduceCtorEq, false_and, and_false, or_false, false_or, exists_false, exists_and_left, exists_eq_left', decide_eq_true_eq, decide_true, decide_false, if_false, if_true, ite_true, ite_false, Bool.false_eq_true, Bool.not_true, Bool.not_false, Nat.reduceAdd, Nat.reduceSub, Nat.zero_add, atI_0, atI_1, atI_2, atI_3, ixN_0, ixN_1, ixN_2, cutV_1, cutV_2, Option.some.injEq, HO.lst.injEq, HO.dK.injEq, scal, *])
/-! ### tables: names and their trees -/
def lk : List (Str × Tr) → Str → Option Tr
  | [], _ => none
  | (m, t) :: l, n => if m = n then some t else lk l n
def putL (l : List (Str × Tr)) (n : Str) (t : Tr) : List (Str × Tr) := if (lk l n).isSome then l.map (fun p => if p.1 = n then (p.1, t) else p) else l ++ [(n, t)]
inductive TabK (K : PySem.W.Frag) (H : Hp) : List (Key × V) → List (Str × Tr) → Prop
  | nil : TabK K H [] []
  | cons {n : Str} {v : V} {t : Tr} {kvs : List (Key × V)} {l : List (Str × Tr)} : Td K H v t.data → TabK K H kvs l → TabK K H ((Sum.inr n, v) :: kvs) ((n, t) :: l)
theorem TabK.ext {K : PySem.W.Frag} {S : List Addr} {H H' : Hp} (e : Ext S H H') : ∀ {kvs : List (Key × V)} {l : List (Str × Tr)}, TabK K H kvs l → TabK K H' kvs l
  | _, _, .nil => .nil
  | _, _, .cons h r => .cons (h.ext e) (r.ext e)
theorem TabK.length {K : PySem.W.Frag} {H : Hp} : ∀ {kvs : List (Key × V)} {l : List (Str × Tr)}, TabK K H kvs l → kvs.length = l.length
  | _, _, .nil => rfl
  | _, _, .cons _ r => congrArg Nat.succ r.length
theorem TabK.val {K : PySem.W.Frag} {H : Hp} (n : Str) : ∀ {kvs : List (Key × V)} {l : List (Str × Tr)}, TabK K H kvs l → (lk l n = none ∧ valV kvs (.inr n) = none) ∨ ∃ t v, lk l n = some t ∧ valV kvs (.inr n) = some v ∧ Td K H v t.data
  | _, _, .nil => .inl ⟨rfl, rfl⟩
  | _, _, .cons (n := m) (v := v) (t := t) h r => by
    by_cases e : m = n
    · exact .inr ⟨t, v, by simp [lk, e], by rw [valV_pos (by rw [e])], h⟩
    · rw [valV_neg (fun z => e (Sum.inr.inj z))]
      simp only [lk, if_neg e]
      exact r.val n
theorem TabK.get {K : PySem.W.Frag} {H : Hp} : ∀ {kvs : List (Key × V)} {l : List (Str × Tr)} {j : Nat} {k : Key} {v : V}, TabK K H kvs l → kvs[j]? = some (k, v) → ∃ n t, k = .inr n ∧ l[j]? = some (n, t) ∧ Td K H v t.data
  | _, _, 0, _, _, .cons h _, e => by cases e; exact ⟨_, _, rfl, rfl, h⟩
  | _, _, _ + 1, _, _, .cons _ r, e => r.get (by simpa using e)
theorem TabK.snoc {K : PySem.W.Frag} {H : Hp} {n : Str} {v : V} {t : Tr} (h : Td K H v t.data) : ∀ {kvs : List (Key × V)} {l : List (Str × Tr)}, TabK K H kvs l → TabK K H (kvs ++ [(.inr n, v)]) (l ++ [(n, t)])
  | _, _, .nil => .cons h .nil
  | _, _, .cons h' r => .cons h' (r.snoc h)
theorem TabK.over {K : PySem.W.Frag} {H : Hp} {n : Str} {v : V} {t : Tr} (h : Td K H v t.data) : ∀ {kvs : List (Key × V)} {l : List (Str × Tr)}, TabK K H kvs l → TabK K H (kvs.map fun kv => if kv.1 = Sum.inr n then (kv.1, v) else kv) (l.map fun p => if p.1 = n then (p.1, t) else p)
  | _, _, .nil => .nil
  | _, _, .cons (n := m) h' r => by
    rw [List.map_cons, List.map_cons]
    by_cases e : m = n
    · simp only [e, if_true]
      exact .cons h (r.over h)
    · simp only [if_neg e, if_neg (fun z => e (Sum.inr.inj z) : ¬ (Sum.inr m : Key) = Sum.inr n)]
      exact .cons h' (r.over h)
theorem TabK.put {K : PySem.W.Frag} {H : Hp} {n : Str} {v : V} {t : Tr} {kvs : List (Key × V)} {l : List (Str × Tr)} (r : TabK K H kvs l) (h : Td K H v t.data) : TabK K H (putK kvs (.inr n) v) (putL l n t) := by
  unfold putK putL
  rw [valV_any]
  rcases r.val n with ⟨h1, h2⟩ | ⟨t', v', h1, h2, _⟩
  · rw [h1, h2]
    exact r.snoc h
  · rw [h1, h2]
    exact r.over h
namespace Tr
/-- trees put in names' places -/
def fill (s : Str → Option Tr) : Tr → Tr
  | v x => (s x).getD (v x)
  | a => a
  | b => b
  | i t => i (t.fill s)
  | m t u => m (t.fill s) (u.fill s)
theorem fill_nv {s : Str → Option Tr} {t : Tr} (h : t.isV = false) : (t.fill s).isV = false ∧ (t.fill s).hd = t.hd ∧ (t.fill s).args = t.args.map (fill s) := by
  cases t with
  | v x => cases h
  | a => exact ⟨rfl, rfl, rfl⟩
  | b => exact ⟨rfl, rfl, rfl⟩
  | i t => exact ⟨rfl, rfl, rfl⟩
  | m t u => exact ⟨rfl, rfl, rfl⟩
end Tr
/-- a table's dict -/
def TabA (K : PySem.W.Frag) (H : Hp) (a : Addr) (l : List (Str × Tr)) : Prop := ∃ kvs, dctF H a = some kvs ∧ TabK K H kvs l
theorem TabA.ext {K : PySem.W.Frag} {S : List Addr} {H H' : Hp} {a : Addr} {l : List (Str × Tr)} (e : Ext S H H') (n : a ∉ S) : TabA K H a l → TabA K H' a l := fun ⟨kvs, h, r⟩ => ⟨kvs, dctF_ext e n h, r.ext e⟩
theorem TabA.ext0 {K : PySem.W.Frag} {H H' : Hp} {a : Addr} {l : List (Str × Tr)} (e : Ext [] H H') : TabA K H a l → TabA K H' a l := TabA.ext e (fun z => nomatch z)
section
variable {P : Program} {w : World} {K : PySem.W.Frag} {mg : Str → Option Value} {base : Heap} {f c : Addr} {fd : FuncData} {NS : List Str}
abbrev s_filled : Stmt := top 2
abbrev n_filled : List Str := ["tree", "table", "part"]
theorem sc_filled : FnScope n_filled ["tree", "table"] (defScope s_filled) := ⟨rfl, rfl, rfl, by decide +kernel, rfl, by decide +kernel, by decide +kernel⟩
def spFill (K : PySem.W.Frag) (k : Nat) : Sp := fun vs H Q _ => ∃ (v : V) (t : Tr) (a : Addr) (l : List (Str × Tr)), vs = [v, .ref a] ∧ Td K H v t.data ∧ t.dep ≤ k ∧ TabA K H a l ∧ ∀ (v' : V) (H' : Hp), Ext [] H H' → Td K H' v' (t.fill (lk l)).data → Q v' H'
theorem ok_filled (F : Dn K mg "filled" s_filled f fd c) (B : Bl mg) : ∀ k, Cal P w K mg base k "filled" (spFill K k) := by
  refine F.calRec (ps := ["tree", "table"]) (fun _ _ _ _ _ _ us hl => match us, hl with | [_, _], _ => rfl) (fun vs H Q E ⟨v, t, _, _, _, _, h, _⟩ => by have := t.dep_pos; omega) fun k G_filled => ?_
  refine F.ok sc_filled (fun vs H Q E h => ?_) (fun A outer s H vs Q E hr h => ?_)
  · obtain ⟨_, _, _, _, rfl, _⟩ := h; rfl
  obtain ⟨v, t, a, l, rfl, ht, hd, hl, q⟩ := h
  refine ⟨_, (pss_cons (ps_if (pt_cmpR op_eq (pe_ix (ix_tupK K) (pv 0) pe_int (fun _ _ => rfl)) pe_str (nomark _)) (pss_one (ps_ret (pe_dget2F (hu_of hr) (pv 1) (pe_ix (ix_tupK K) (pv 0) pe_int (fun _ _ => rfl)) (pv 0) ⟨rfl, rfl, rfl, rfl⟩))) pss_nil)
    (pss_one (ps_ret (pe_op (op_catK K) (pe_tupK K (pa_cons (pe_ix (ix_tupK K) (pv 0) pe_int (fun _ _ => rfl)) pa_nil)) (pe_callTy (call_tupleK K) (by rfl) B.b_tuple (by decide +kernel) (pa_cons (pe_lcF (own := [("part", 2)]) rfl sc_filled.nd (pi_tupK K (pe_slice (sl_tupK K) (pv 0) (po_some pe_int) po_none)) (blkOk_by (own := [("part", 2)]) (N := n_filled) (sc := defScope s_filled) (by decide +kernel)) (fun _ _ _ _ _ => (pg_name (i := 2) sc_filled.nd rfl (by first | exact Or.inl rfl | exact Or.inr rfl))) (fun _ _ _ _ _ => pts_nil) (fun _ _ _ _ _ => (C8.pe_c G_filled hr (by omega) (by rfl) (pa_cons (pv 2) (pa_cons (pv 1) pa_nil))))) pa_nil)))))), ?_⟩
  cases hv : t.isV with
  | true =>
    cases t with
    | v x =>
      have ht0 := ht
      obtain ⟨p, rfl, hp⟩ := td_v ht
      obtain ⟨kvs, hk, hr'⟩ := hl
      have q' := q
      clear q
      walk_at "rdc"
      rcases hr'.val x with ⟨h1, h2⟩ | ⟨t', v', h1, h2, h3⟩
      · rw [h2]
        exact q' _ _ (Ext.refl _ _) (by rw [Tr.fill, h1]; exact ht0)
      · rw [h2]
        exact q' _ _ (Ext.refl _ _) (by rw [Tr.fill, h1]; exact h3)
    | a => cases hv
    | b => cases hv
    | i s => cases hv
    | m s r => cases hv
  | false =>
    obtain ⟨p, ws, rfl, hp, hws⟩ := td_f hv ht
    have hne := Tr.hd_v hv
    have q' := q
    clear q ht
    walk_at "rdc"
    have hlen : ws.length = t.args.length := by have := hws.length; rw [List.length_map] at this; exact this
    have ha2 := t.args_len
    have hs1 : (100000 : Nat) < sizeLine := by decide
    obtain ⟨n1, n2, n3⟩ := Tr.fill_nv (s := lk l) hv
    refine ⟨by decide, fun p1 H1 e1 h1 => ⟨_, tupF_ext e1 hp, fun p2 H2 e2 h2 => ?_⟩⟩
    rw [cutV_1] at h2
    have e12 := e1.trans e2
    refine lc_map (ds := t.args.map fun u => (u.fill (lk l)).data) h2 (by rw [List.length_map]; exact hlen.symm) (by omega) (fun x => rfl) (fun j x d H' R hx hdj e hR => ?_) fun D ys H' hD e hys hall => ?_
    · obtain ⟨u, hu, hum, hud⟩ := td_arg hws hx
      rw [List.getElem?_map, hu] at hdj
      cases hdj
      walk_at "rd"
      exact ⟨x, u, a, l, rfl, (hud.ext e12).ext e, by have := Tr.dep_arg hum; omega, (hl.ext0 e12).ext0 e, fun v' H'' e' h' => hR v' H'' e' h'⟩
    · refine ⟨D, rfl, ys, hys, fun q H3 e3 h3 => ⟨_, tupF_ext e3 (tupF_ext e (tupF_ext e2 h1)), ?_, fun p4 H4 e4 h4 => q' _ H4 (((e12.trans e).trans e3).trans e4) ?_⟩⟩
      · have := hall.length
        rw [List.length_map] at this
        simp only [List.length_cons, List.length_nil]
        omega
      · refine td_mk n1 (by rw [n2]; exact h4) ?_
        rw [n3, List.map_map]
        exact (hall.ext e3).ext e4
end
end Sq
set_option Elab.async false
set_option linter.all false
set_option maxRecDepth 100000
set_option maxHeartbeats 2000000
namespace Sq
open PySem PySem.Spec PyProof.Rows L2 RZ
local macro_rules | `(tactic| walk_at "rd") => `(tactic| simp only [tCont, tDisp, tPairs, rIndexS, wipe, tNoPart, tDG2, tDGF, tDInF, tDNInF, sDPutF, tDNewF, rSortD, rInS, rInT, rEqLF, tDcF, tDc2F, tLcF, tForF, tAllF, tAnyF, tSumF, iEnumF, iZipF, iKeysF, iItems, tLZip, tYes, tSeq, tIfS, tNext, tRet, tRetN, tDrop, tTest, tB, tNot, tAnd, tOr, tChain, tOp, tUn, tCB, tCons, tNil, tC, tVar, tIf, tAndV, tOrV, tNotV, tAsg, tPar, tPar3, gName, gSub, gTupF, gCons, gNil, tTupF, tLstF, rI0, rI, rIxF, rIxG, rIxS, rSetF, rSlF, rCatF, rCatL, rTupL, rListT, rListL, rLenT, rLenL, iTupF, iLstF, rAppF, rExtF, rPopF, tBM, tBM0, tSl, tPart, rEq, rNe, tCall, L2.start,
  List.map_cons, List.map_nil, List.length_cons, List.length_nil, Nat.sub_self, List.replicate, List.append_nil, List.cons_append, List.nil_append, List.getElem?_cons_zero, List.getElem?_cons_succ, List.set_cons_zero, List.set_cons_succ,
  exSl, exI, exI2, exB, exS, exR, ex1, ex1', V.int.injEq, V.bl.injEq, V.ref.injEq, V.str.injEq, Option.some.injEq, List.cons.injEq, and_true, true_and, reduceCtorEq, false_and, and_false, or_false, false_or, exists_false, exists_and_left, exists_eq_left', decide_eq_true_eq, decide_true, decide_false, if_false, if_true, ite_true, ite_false, Bool.false_eq_true, Bool.not_true, Bool.not_false, Nat.reduceAdd, Nat.reduceSub, Nat.zero_add, atI_0, atI_1, atI_2, atI_3, ixN_0, ixN_1, ixN_2, cutV_1, cutV_2, Option.some.injEq, HO.lst.injEq, HO.dK.injEq, scal])
local macro_rules | `(tactic| walk_at "rdc") => `(tactic| simp (config := { contextual := true }) only [tCont, tDisp, tPairs, rIndexS, wipe, tNoPart, tDG2, tDGF, tDInF, tDNInF, sDPutF, tDNewF, rSortD, rInS, rInT, rEqLF, tDcF, tDc2F, tLcF, tForF, tAllF, tAnyF, tSumF, iEnumF, iZipF, iKeysF, iItems, tLZip, tYes, tSeq, tIfS, tNext, tRet, tRetN, tDrop, tTest, tB, tNot, tAnd, tOr, tChain, tOp, tUn, tCB, tCons, tNil, tC, tVar, tIf, tAndV, tOrV, tNotV, tAsg, tPar, tPar3, gName, gSub, gTupF, gCons, gNil, tTupF, tLstF, rI0, rI, rIxF, rIxG, rIxS, rSetF, rSlF, rCatF, rCatL, rTupL, rListT, rListL, rLenT, rLenL, iTupF, iLstF, rAppF, rExtF, rPopF, tBM, tBM0, tSl, tPart, rEq, rNe, tCall, L2.start,
  List.map_cons, List.map_nil, List.length_cons, List.length_nil, Nat.sub_self, List.replicate, List.append_nil, List.cons_append, List.nil_append, List.getElem?_cons_zero, List.getElem?_cons_succ, List.set_cons_zero, List.set_cons_succ,
  exSl, exI, exI2, exB, exS, exR, ex1, ex1', V.int.injEq, V.bl.injEq, V.ref.injEq, V.str.injEq, Option.some.injEq, List.cons.injEq, and_true, true_and, reduceCtorEq, false_and, and_false, or_false, false_or, exists_false, exists_and_left, exists_eq_left', decide_eq_true_eq, decide_true, decide_false, if_false, if_true, ite_true, ite_false, Bool.false_eq_true, Bool.not_true, Bool.not_false, Nat.reduceAdd, Nat.reduceSub, Nat.zero_add, atI_0, atI_1, atI_2, atI_3, ixN_0, ixN_1, ixN_2, cutV_1, cutV_2, Option.some.injEq, HO.lst.injEq, HO.dK.injEq, scal, *])
namespace Tr
/-- what a sign weighs -/
def hw (wi wm : Int) : Tr → Int
  | i _ => wi
  | m _ _ => wm
  | _ => 1
def wt (wi wm : Int) : Tr → Int
  | i t => wi + t.wt wi wm
  | m t u => wm + (t.wt wi wm + u.wt wi wm)
  | _ => 1
theorem wt_nv {wi wm : Int} {t : Tr} (h : t.isV = false) : t.wt wi wm = t.hw wi wm + (t.args.map (wt wi wm)).sum := by
  cases t <;> simp [wt, hw, args] at *
def pw (d : Nat) : Int := ((2 ^ d : Nat) : Int)
theorem pw_succ (d : Nat) : pw (d + 1) = 2 * pw d := by unfold pw; rw [Nat.pow_succ]; omega
theorem pw_le {d e : Nat} (h : d ≤ e) : pw d ≤ pw e := by
  unfold pw
  have := Nat.pow_le_pow_right (n := 2) (by omega) h
  omega
theorem wt_le {wi wm : Int} (h1 : 1 ≤ wi ∧ wi ≤ 3) (h2 : 1 ≤ wm ∧ wm ≤ 3) : ∀ t : Tr, 1 ≤ t.wt wi wm ∧ t.wt wi wm ≤ 4 * pw t.dep - 3
  | v _ => by simp only [wt, dep]; decide
  | a => by simp only [wt, dep]; decide
  | b => by simp only [wt, dep]; decide
  | i t => by
    have := wt_le h1 h2 t
    simp only [wt, dep, pw_succ]
    omega
  | m t u => by
    have i1 := wt_le h1 h2 t
    have i2 := wt_le h1 h2 u
    have p1 := pw_le (Nat.le_max_left t.dep u.dep)
    have p2 := pw_le (Nat.le_max_right t.dep u.dep)
    simp only [wt, dep, pw_succ]
    omega
theorem wt_20 {wi wm : Int} (h1 : 1 ≤ wi ∧ wi ≤ 3) (h2 : 1 ≤ wm ∧ wm ≤ 3) {t : Tr} (h : t.dep ≤ 20) : 1 ≤ t.wt wi wm ∧ t.wt wi wm ≤ 4194304 := by
  obtain ⟨q1, q2⟩ := wt_le h1 h2 t
  have p1 := pw_le h
  have : pw 20 = 1048576 := by decide
  omega
end Tr
/-- weights of the two signs -/
def WtA (H : Hp) (a : Addr) (wi wm : Int) : Prop := dctF H a = some [(Sum.inr ("i" : Str), V.int wi), (Sum.inr ("m" : Str), V.int wm)] ∧ (1 ≤ wi ∧ wi ≤ 3) ∧ (1 ≤ wm ∧ wm ≤ 3)
theorem WtA.ext0 {H H' : Hp} {a : Addr} {wi wm : Int} (e : Ext [] H H') (h : WtA H a wi wm) : WtA H' a wi wm := ⟨dctF_ext e (fun z => nomatch z) h.1, h.2⟩
theorem wt_get {wi wm : Int} (t : Tr) : (valV [((Sum.inr ("i" : Str) : Key), V.int wi), (Sum.inr ("m" : Str), .int wm)] (.inr t.hd)).getD (.int 1) = .int (t.hw wi wm) := by
  have h1 : ¬ (Sum.inr ("i" : Str) : Key) = Sum.inr ("v" : Str) := by decide
  have h2 : ¬ (Sum.inr ("m" : Str) : Key) = Sum.inr ("v" : Str) := by decide
  have h3 : ¬ (Sum.inr ("i" : Str) : Key) = Sum.inr ("a" : Str) := by decide
  have h4 : ¬ (Sum.inr ("m" : Str) : Key) = Sum.inr ("a" : Str) := by decide
  have h5 : ¬ (Sum.inr ("i" : Str) : Key) = Sum.inr ("b" : Str) := by decide
  have h6 : ¬ (Sum.inr ("m" : Str) : Key) = Sum.inr ("b" : Str) := by decide
  have h7 : ¬ (Sum.inr ("i" : Str) : Key) = Sum.inr ("m" : Str) := by decide
  cases t with
  | v x => rw [Tr.hd, valV_neg h1, valV_neg h2]; rfl
  | a => rw [Tr.hd, valV_neg h3, valV_neg h4]; rfl
  | b => rw [Tr.hd, valV_neg h5, valV_neg h6]; rfl
  | i t => rw [Tr.hd, valV_pos rfl]; rfl
  | m t u => rw [Tr.hd, valV_neg h7, valV_pos rfl]; rfl
section
variable {P : Program} {w : World} {K : PySem.W.Frag} {mg : Str → Option Value} {base : Heap} {f c tb : Addr} {fd : FuncData} {NS : List Str}
abbrev s_weight : Stmt := top 7
abbrev n_weight : List Str := ["tree", "weights", "part"]
theorem sc_weight : FnScope n_weight ["tree", "weights"] (defScope s_weight) := ⟨rfl, rfl, rfl, by decide +kernel, rfl, by decide +kernel, by decide +kernel⟩
def spWt (K : PySem.W.Frag) (tb : Addr) (k : Nat) : Sp := fun vs H Q _ => ∃ (v : V) (t : Tr) (a : Addr) (wi wm : Int), vs = [v, .ref a] ∧ Td K H v t.data ∧ 2 * t.dep ≤ k ∧ t.dep ≤ 20 ∧ WtA H a wi wm ∧ GxR.TabG H tb ∧ ∀ (H' : Hp), Ext [] H H' → Q (.int (t.wt wi wm)) H'
theorem ok_weight (F : Dn K mg "weight" s_weight f fd c) (B : Bl mg) (TB : GxR.TabB base mg c tb) : ∀ k, Cal P w K mg base k "weight" (spWt K tb k) := by
  have h0 : ∀ k, k < 2 → ∀ vs H Q E, ¬ spWt K tb k vs H Q E := fun k hk vs H Q E ⟨v, t, _, _, _, _, _, h, _⟩ => by have := t.dep_pos; omega
  refine F.calRec2 (ps := ["tree", "weights"]) (fun _ _ _ _ _ _ us hl => match us, hl with | [_, _], _ => rfl) (h0 0 (by omega)) (h0 1 (by omega)) fun k G_weight => ?_
  refine F.ok sc_weight (fun vs H Q E h => ?_) (fun A outer s H vs Q E hrG h => ?_)
  · obtain ⟨_, _, _, _, _, rfl, _⟩ := h; rfl
  have hr := hrG.mono (Nat.le_succ k)
  obtain ⟨v, t, a, wi, wm, rfl, ht, hd, h20, hw, htb, q⟩ := h
  refine ⟨_, (pss_cons (ps_if (pt_cmpR op_eq (pe_ix (ix_tupK K) (pv 0) pe_int (fun _ _ => rfl)) pe_str (nomark _)) (pss_one (ps_ret pe_int)) pss_nil)
    (pss_one (ps_ret (pe_op op_add (pe_dget2F (hu_of hr) (pv 1) (pe_ix (ix_tupK K) (pv 0) pe_int (fun _ _ => rfl)) pe_int ⟨rfl, rfl, rfl, rfl⟩) (pe_sumF (own := [("part", 2)]) hr rfl sc_weight.nd (by rfl) B.b_sum TB rfl (pi_tupK K (pe_slice (sl_tupK K) (pv 0) (po_some pe_int) po_none)) (blkOk_by (own := [("part", 2)]) (N := n_weight) (sc := defScope s_weight) (by decide +kernel)) (by decide +kernel) (by rfl) (by rfl) (fun _ _ _ _ _ => (pg_name (i := 2) sc_weight.nd rfl (by first | exact Or.inl rfl | exact Or.inr rfl))) (fun _ _ _ _ _ => pts_nil) (fun _ _ _ _ _ => (C8.pe_c G_weight (Room.gen hrG) (by omega) (by rfl) (pa_cons (pv 2) (pa_cons (pv 1) pa_nil))))))))), ?_⟩
  cases hv : t.isV with
  | true =>
    cases t with
    | v x =>
      obtain ⟨p, rfl, hp⟩ := td_v ht
      have q' := q
      clear q
      walk_at "rdc"
      exact q' _ (Ext.refl _ _)
    | a => cases hv
    | b => cases hv
    | i s => cases hv
    | m s r => cases hv
  | false =>
    obtain ⟨p, ws, rfl, hp, hws⟩ := td_f hv ht
    have hne := Tr.hd_v hv
    have q' := q
    have hw1 := hw.1
    clear q ht
    walk_at "rdc"
    have hlen : ws.length = t.args.length := by have := hws.length; rw [List.length_map] at this; exact this
    intro p1 H1 e1 h1
    refine gsum_map (ns := t.args.map (Tr.wt wi wm)) (e1.tab _ htb) h1 (by rw [List.length_map]; exact hlen.symm) (fun x => rfl) (two_long (by rw [List.length_map]; exact t.args_len) fun n hn => ?_) (fun j x n H' R hx hn e hR => ?_) fun H' e => ⟨_, wt_get t, ?_⟩
    · obtain ⟨u, hu, rfl⟩ := List.mem_map.mp hn
      have := Tr.wt_20 hw.2.1 hw.2.2 (t := u) (by have := Tr.dep_arg hu; omega)
      omega
    · obtain ⟨u, hu, hum, hud⟩ := td_arg hws hx
      rw [List.getElem?_map, hu] at hn
      cases hn
      have := Tr.dep_arg hum
      walk_at "rd"
      exact ⟨x, u, a, wi, wm, rfl, (hud.ext e1).ext e, by omega, by omega, (hw.ext0 e1).ext0 e, e.tab _ (e1.tab _ htb), hR⟩
    · rw [← Tr.wt_nv hv]
      exact q' _ (e1.trans e)
abbrev s__law_weight : Stmt := top 18
abbrev n__law_weight : List Str := ["tree", "weights", "part"]
theorem sc__law_weight : FnScope n__law_weight ["tree", "weights"] (defScope s__law_weight) := ⟨rfl, rfl, rfl, by decide +kernel, rfl, by decide +kernel, by decide +kernel⟩
theorem ok_lweight (F : Dn K mg "_law_weight" s__law_weight f fd c) (B : Bl mg) : ∀ k, Cal P w K mg base k "_law_weight" (spWt K tb k) := by
  have h0 : ∀ k, k < 2 → ∀ vs H Q E, ¬ spWt K tb k vs H Q E := fun k hk vs H Q E ⟨v, t, _, _, _, _, _, h, _⟩ => by have := t.dep_pos; omega
  refine F.calRec2 (ps := ["tree", "weights"]) (fun _ _ _ _ _ _ us hl => match us, hl with | [_, _], _ => rfl) (h0 0 (by omega)) (h0 1 (by omega)) fun k G__law_weight => ?_
  refine F.ok sc__law_weight (fun vs H Q E h => ?_) (fun A outer s H vs Q E hr h => ?_)
  · obtain ⟨_, _, _, _, _, rfl, _⟩ := h; rfl
  obtain ⟨v, t, a, wi, wm, rfl, ht, hd, h20, hw, htb, q⟩ := h
  refine ⟨_, (pss_one (ps_ret (pe_ifExp (pt_cmpR op_eq (pe_ix (ix_tupK K) (pv 0) pe_int (fun _ _ => rfl)) pe_str (nomark _)) pe_int (pe_op op_add (pe_dget2F (hu_of hr) (pv 1) (pe_ix (ix_tupK K) (pv 0) pe_int (fun _ _ => rfl)) pe_int ⟨rfl, rfl, rfl, rfl⟩) (pe_callB (cr_sum rfl) (by rfl) B.b_sum (by decide +kernel) (pa_cons (pe_lcF (own := [("part", 2)]) rfl sc__law_weight.nd (pi_tupK K (pe_slice (sl_tupK K) (pv 0) (po_some pe_int) po_none)) (blkOk_by (own := [("part", 2)]) (N := n__law_weight) (sc := defScope s__law_weight) (by decide +kernel)) (fun _ _ _ _ _ => (pg_name (i := 2) sc__law_weight.nd rfl (by first | exact Or.inl rfl | exact Or.inr rfl))) (fun _ _ _ _ _ => pts_nil) (fun _ _ _ _ _ => (C8.pe_c G__law_weight hr (by omega) (by rfl) (pa_cons (pv 2) (pa_cons (pv 1) pa_nil))))) pa_nil)))))), ?_⟩
  cases hv : t.isV with
  | true =>
    cases t with
    | v x =>
      obtain ⟨p, rfl, hp⟩ := td_v ht
      have q' := q
      clear q
      walk_at "rdc"
      exact q' _ (Ext.refl _ _)
    | a => cases hv
    | b => cases hv
    | i s => cases hv
    | m s r => cases hv
  | false =>
    obtain ⟨p, ws, rfl, hp, hws⟩ := td_f hv ht
    have hne := Tr.hd_v hv
    have q' := q
    have hw1 := hw.1
    clear q ht
    walk_at "rdc"
    have hlen : ws.length = t.args.length := by have := hws.length; rw [List.length_map] at this; exact this
    have ha2 := t.args_len
    intro p1 H1 e1 h1
    refine lc_map (ds := (t.args.map (Tr.wt wi wm)).map PyData.int) h1 (by rw [List.length_map, List.length_map]; exact hlen.symm) (by omega) (fun x => rfl) (fun j x d H' R hx hdj e hR => ?_) fun D ys H' hD e hys hall => ?_
    · obtain ⟨u, hu, hum, hud⟩ := td_arg hws hx
      rw [List.getElem?_map, List.getElem?_map, hu] at hdj
      cases hdj
      have := Tr.dep_arg hum
      walk_at "rd"
      exact ⟨x, u, a, wi, wm, rfl, (hud.ext e1).ext e, by omega, by omega, (hw.ext0 e1).ext0 e, e.tab _ (e1.tab _ htb), fun H'' e' => hR _ _ e' (.int _)⟩
    · rw [td_ints hall] at hys
      refine ⟨D, t.args.map (Tr.wt wi wm), rfl, SqL.of hys, _, wt_get t, _, rfl, ?_⟩
      rw [← Tr.wt_nv hv]
      exact q' _ (e1.trans e)
end
end Sq
set_option Elab.async false
set_option linter.all false
set_option maxRecDepth 100000
set_option maxHeartbeats 2000000
namespace Sq
open PySem PySem.Spec PyProof.Rows L2 RZ
local macro_rules | `(tactic| walk_at "rd") => `(tactic| simp only [tCont, tDisp, tPairs, rIndexS, wipe, tNoPart, tDG2, tDGF, tDInF, tDNInF, sDPutF, tDNewF, rSortD, rInS, rInT, rEqLF, tDcF, tDc2F, tLcF, tForF, tAllF, tAnyF, tSumF, iEnumF, iZipF, iKeysF, iItems, tLZip, tYes, tSeq, tIfS, tNext, tRet, tRetN, tDrop, tTest, tB, tNot, tAnd, tOr, tChain, tOp, tUn, tCB, tCons, tNil, tC, tVar, tIf, tAndV, tOrV, tNotV, tAsg, tPar, tPar3, gName, gSub, gTupF, gCons, gNil, tTupF, tLstF, rI0, rI, rIxF, rIxG, rIxS, rSetF, rSlF, rCatF, rCatL, rTupL, rListT, rListL, rLenT, rLenL, iTupF, iLstF, rAppF, rExtF, rPopF, tBM, tBM0, tSl, tPart, rEq, rNe, tCall, L2.start,
  List.map_cons, List.map_nil, List.length_cons, List.length_nil, Nat.sub_self, List.replicate, List.append_nil, List.cons_append, List.nil_append, List.getElem?_cons_zero, List.getElem?_cons_succ, List.set_cons_zero, List.set_cons_succ,
  exSl, exI, exI2, exB, exS, exR, ex1, ex1', V.int.injEq, V.bl.injEq, V.ref.injEq, V.str.injEq, Option.some.injEq, List.cons.injEq, and_true, true_and, reduceCtorEq, false_and, and_false, or_false, false_or, exists_false, exists_and_left, exists_eq_left', decide_eq_true_eq, decide_true, decide_false, if_false, if_true, ite_true, ite_false, Bool.false_eq_true, Bool.not_true, Bool.not_false, Nat.reduceAdd, Nat.reduceSub, Nat.zero_add, atI_0, atI_1, atI_2, atI_3, ixN_0, ixN_1, ixN_2, cutV_1, cutV_2, Option.some.injEq, HO.lst.injEq, HO.dK.injEq, scal])
local macro_rules | `(tactic| walk_at "rdc") => `(tactic| simp (config := { contextual := true }) only [tCont, tDisp, tPairs, rIndexS, wipe, tNoPart, tDG2, tDGF, tDInF, tDNInF, sDPutF, tDNewF, rSortD, rInS, rInT, rEqLF, tDcF, tDc2F, tLcF, tForF, tAllF, tAnyF, tSumF, iEnumF, iZipF, iKeysF, iItems, tLZip, tYes, tSeq, tIfS, tNext, tRet, tRetN, tDrop, tTest, tB, tNot, tAnd, tOr, tChain, tOp, tUn, tCB, tCons, tNil, tC, tVar, tIf, tAndV, tOrV, tNotV, tAsg, tPar, tPar3, gName, gSub, gTupF, gCons, gNil, tTupF, tLstF, rI0, rI, rIxF, rIxG, rIxS, rSetF, rSlF, rCatF, rCatL, rTupL, rListT, rListL, rLenT, rLenL, iTupF, iLstF, rAppF, rExtF, rPopF, tBM, tBM0, tSl, tPart, rEq, rNe, tCall, L2.start,
  List.map_cons, List.map_nil, List.length_cons, List.length_nil, Nat.sub_self, List.replicate, List.append_nil, List.cons_append, List.nil_append, List.getElem?_cons_zero, List.getElem?_cons_succ, List.set_cons_zero, List.set_cons_succ,
  exSl, exI, exI2, exB, exS, exR, ex1, ex1', V.int.injEq, V.bl.injEq, V.ref.injEq, V.str.injEq, Option.some.injEq, List.cons.injEq, and_true, true_and, reduceCtorEq, false_and, and_false, or_false, false_or, exists_false, exists_and_left, exists_eq_left', decide_eq_true_eq, decide_true, decide_false, if_false, if_true, ite_true, ite_false, Bool.false_eq_true, Bool.not_true, Bool.not_false, Nat.reduceAdd, Nat.reduceSub, Nat.zero_add, atI_0, atI_1, atI_2, atI_3, ixN_0, ixN_1, ixN_2, cutV_1, cutV_2, Option.some.injEq, HO.lst.injEq, HO.dK.injEq, scal, *])
namespace Tr
/-- how often a name stands -/
def cnt (n : Str) : Tr → Nat
  | v x => if x = n then 1 else 0
  | i t => t.cnt n
  | m t u => t.cnt n + u.cnt n
  | _ => 0
theorem cnt_nv {n : Str} {t : Tr} (h : t.isV = false) : t.cnt n = (t.args.map (cnt n)).sum := by
  cases t with
  | v x => cases h
  | a => rfl
  | b => rfl
  | i s => simp [cnt, args]
  | m s r => simp [cnt, args]
end Tr
theorem put_keys (ks : List Str) (kvs : List (Key × V)) (x : Str) (v : V) (h : kvs.map (·.1) = ks.map Sum.inr) : (putK kvs (Sum.inr x) v).map (·.1) = (addK ks x).map Sum.inr := by
  have e : (kvs.any fun kv => decide (kv.1 = Sum.inr x)) = decide (x ∈ ks) := by
    have : (kvs.any fun kv => decide (kv.1 = Sum.inr x)) = (kvs.map (·.1)).any fun k => decide (k = Sum.inr x) := by rw [List.any_map]; rfl
    rw [this, h, List.any_map]
    clear h this
    induction ks with
    | nil => rfl
    | cons y ys ih =>
      rw [List.any_cons, ih]
      by_cases h : y = x
      · subst h; simp
      · have h' : ¬ x = y := fun z => h z.symm
        simp [h, h']
  unfold putK addK
  rw [e]
  by_cases q : x ∈ ks
  · rw [decide_eq_true q, if_pos rfl, if_pos q, List.map_map, ← h]
    refine List.map_congr_left fun y _ => ?_
    simp only [Function.comp]
    split <;> rfl
  · rw [decide_eq_false q, if_neg Bool.false_ne_true, if_neg q, List.map_append, List.map_append, h]; rfl
/-- a dict that counts names -/
def CnK (NS : List Str) (kvs : List (Key × V)) (cnt : Str → Nat) : Prop := ∃ ks : List Str, kvs.map (·.1) = ks.map Sum.inr ∧ ks.Nodup ∧ (∀ x ∈ ks, x ∈ NS) ∧ ∀ n, valV kvs (.inr n) = if cnt n = 0 then none else some (.int (cnt n : Nat))
theorem CnK.nil {NS : List Str} : CnK NS [] (fun _ => 0) := ⟨[], rfl, List.nodup_nil, fun x hx => (by cases hx), fun n => rfl⟩
theorem CnK.get {NS : List Str} {kvs : List (Key × V)} {cnt : Str → Nat} (h : CnK NS kvs cnt) (n : Str) : (valV kvs (.inr n)).getD (.int 0) = .int (cnt n : Nat) := by
  obtain ⟨_, _, _, _, q⟩ := h
  rw [q]
  split
  · rename_i e; rw [e]; rfl
  · rfl
theorem CnK.put {NS : List Str} {kvs : List (Key × V)} {cnt : Str → Nat} (h : CnK NS kvs cnt) {x : Str} (hx : x ∈ NS) : CnK NS (putK kvs (.inr x) (.int ((cnt x : Nat) + 1))) (fun n => cnt n + if x = n then 1 else 0) := by
  obtain ⟨ks, h1, h2, h3, h4⟩ := h
  refine ⟨addK ks x, put_keys ks kvs x _ h1, nodup_addK h2, fun y hy => ?_, fun n => ?_⟩
  · rcases mem_addK.mp hy with q | q
    · exact h3 y q
    · rw [q]; exact hx
  · rw [valV_put, h4]
    by_cases e : n = x
    · subst e
      simp
    · have e1 : ¬ (Sum.inr n : Key) = Sum.inr x := fun z => e (Sum.inr.inj z)
      have e2 : ¬ x = n := fun z => e z.symm
      simp [e1, e2]
theorem CnK.len {NS : List Str} {kvs : List (Key × V)} {cnt : Str → Nat} (h : CnK NS kvs cnt) : kvs.length ≤ NS.length := by
  obtain ⟨ks, h1, h2, h3, _⟩ := h
  have := congrArg List.length h1
  rw [List.length_map, List.length_map] at this
  rw [this]
  exact nodup_sub h2 h3
section
variable {P : Program} {w : World} {K : PySem.W.Frag} {mg : Str → Option Value} {base : Heap} {f c tb : Addr} {fd : FuncData} {NS : List Str}
abbrev s_count_in : Stmt := top 9
abbrev n_count_in : List Str := ["tree", "table", "part"]
theorem sc_count_in : FnScope n_count_in ["tree", "table"] (defScope s_count_in) := ⟨rfl, rfl, rfl, by decide +kernel, rfl, by decide +kernel, by decide +kernel⟩
abbrev s_counted : Stmt := top 8
abbrev n_counted : List Str := ["tree", "table"]
theorem sc_counted : FnScope n_counted ["tree"] (defScope s_counted) := ⟨rfl, rfl, rfl, by decide +kernel, rfl, by decide +kernel, by decide +kernel⟩
def spCntIn (K : PySem.W.Frag) (NS : List Str) (k : Nat) : Sp := fun vs H Q _ => ∃ (v : V) (t : Tr) (a : Addr) (kvs : List (Key × V)) (cnt : Str → Nat), vs = [v, .ref a] ∧ Td K H v t.data ∧ t.dep ≤ k ∧ (∀ x ∈ t.names, x ∈ NS) ∧ H a = some (.dK kvs) ∧ CnK NS kvs cnt ∧
  ∀ (H' : Hp) (kvs' : List (Key × V)), Ext [a] H H' → H' a = some (.dK kvs') → CnK NS kvs' (fun n => cnt n + t.cnt n) → Q .non H'
def spCounted (K : PySem.W.Frag) (NS : List Str) (k : Nat) : Sp := fun vs H Q _ => ∃ (v : V) (t : Tr), vs = [v] ∧ Td K H v t.data ∧ t.dep ≤ k ∧ (∀ x ∈ t.names, x ∈ NS) ∧
  ∀ (a : Addr) (H' : Hp) (kvs' : List (Key × V)), Ext [] H H' → H' a = some (.dK kvs') → CnK NS kvs' (fun n => t.cnt n) → Q (.ref a) H'
theorem ok_counted {L : Nat} (F : Dn K mg "counted" s_counted f fd c) (G_count_in : Cal P w K mg base L "count_in" (spCntIn K NS L)) : Cal P w K mg base (L + 1) "counted" (spCounted K NS L) := by
  refine F.cal (ps := ["tree"]) (fun _ _ _ _ _ _ us hl => match us, hl with | [_], _ => rfl) sc_counted (fun vs H Q E h => ?_) (fun A outer s H vs Q E hr h => ?_)
  · obtain ⟨_, _, rfl, _⟩ := h; rfl
  obtain ⟨v, t, rfl, ht, hd, hns, q⟩ := h
  refine ⟨_, (pss_cons (ps_set (i := 1) sc_counted.nd rfl (by first | exact Or.inl rfl | exact Or.inr rfl) pe_dnewF)
    (pss_cons (ps_expr (C8.pe_c G_count_in hr (by omega) (by rfl) (pa_cons (pv 0) (pa_cons (pv 1) pa_nil))))
    (pss_one (ps_ret (pv 1))))), ?_⟩
  walk_at "rd"
  intro p H1 hp e1 h1
  refine ⟨v, t, p, [], fun _ => 0, rfl, ht.ext e1, hd, hns, h1, CnK.nil, fun H2 kvs' e2 h2 hc => q p H2 kvs' (e1.over hp e2) h2 (by simpa using hc)⟩
theorem ok_count_in (F : Dn K mg "count_in" s_count_in f fd c) (hN : NsOk NS) : ∀ k, Cal P w K mg base k "count_in" (spCntIn K NS k) := by
  refine F.calRec (ps := ["tree", "table"]) (fun _ _ _ _ _ _ us hl => match us, hl with | [_, _], _ => rfl) (fun vs H Q E ⟨v, t, _, _, _, _, _, h, _⟩ => by have := t.dep_pos; omega) fun k G_count_in => ?_
  refine F.ok sc_count_in (fun vs H Q E h => ?_) (fun A outer s H vs Q E hr h => ?_)
  · obtain ⟨_, _, _, _, _, rfl, _⟩ := h; rfl
  obtain ⟨v, t, a, kvs, cn, rfl, ht, hd, hns, ha, hc, q⟩ := h
  refine ⟨_, (pss_one (ps_if (pt_cmpR op_eq (pe_ix (ix_tupK K) (pv 0) pe_int (fun _ _ => rfl)) pe_str (nomark _)) (pss_one (ps_dputF (hu_of hr) (pv 1) (pe_ix (ix_tupK K) (pv 0) pe_int (fun _ _ => rfl)) (pe_op op_add (pe_dget2F (hu_of hr) (pv 1) (pe_ix (ix_tupK K) (pv 0) pe_int (fun _ _ => rfl)) pe_int ⟨rfl, rfl, rfl, rfl⟩) pe_int) rfl)) (pss_one (ps_forF PassesOwn.never rfl (pi_tupK K (pe_slice (sl_tupK K) (pv 0) (po_some pe_int) po_none)) (pg_name (i := 2) sc_count_in.nd rfl (by first | exact Or.inl rfl | exact Or.inr rfl)) (pss_one (ps_expr (C8.pe_c G_count_in hr (by omega) (by rfl) (pa_cons (pv 2) (pa_cons (pv 1) pa_nil))))))))), ?_⟩
  have hs1 : (100 : Nat) < sizeLine := by decide
  have had := dctF_dK ha
  cases hv : t.isV with
  | true =>
    cases t with
    | v x =>
      obtain ⟨p, rfl, hp⟩ := td_v ht
      have q' := q
      clear q
      walk_at "rdc"
      refine ⟨_, hc.get x, by have := hc.len; have := hN.few; omega, fun H2 e2 h2 => q' H2 _ e2 h2 (hc.put (hns x (by simp [Tr.names])))⟩
    | a => cases hv
    | b => cases hv
    | i s => cases hv
    | m s r => cases hv
  | false =>
    obtain ⟨p, ws, rfl, hp, hws⟩ := td_f hv ht
    have hne := Tr.hd_v hv
    have q' := q
    clear q ht
    walk_at "rdc"
    intro p1 H1 e1 h1
    refine for_go walk_tup (fun j σ' H' => ∃ x0 kvs', σ' = [some (V.ref p), some (V.ref a), x0] ∧ Ext [a] H1 H' ∧ H' a = some (.dK kvs') ∧ CnK NS kvs' (fun n => cn n + ((t.args.take j).map (Tr.cnt n)).sum)) ⟨_, kvs, rfl, Ext.refl _ _, e1.dK0 ha, by simpa using hc⟩ (fun j σ' H' _ ⟨_, _, _, e, _⟩ => tupF_sq (tupF_ext e h1)) (fun j x σ' H' H'' hj ⟨x0, kvs', hσ, e, hk, hcn⟩ y => ?_) fun σ' H' ⟨x0, kvs', hσ, e, hk, hcn⟩ => ?_
    · obtain ⟨rfl, hx⟩ := y
      subst hσ
      obtain ⟨u, hu, hum, hud⟩ := td_arg hws hx
      walk_at "rd"
      refine ⟨x, u, a, kvs', _, rfl, (hud.ext e1).ext e, by have := Tr.dep_arg hum; omega, fun y hy => hns y (Tr.names_arg hum hy), hk, hcn, fun H2 kvs2 e2 h2 hc2 => ?_⟩
      have e12 : Ext [a] H1 H2 := e.trans e2
      have hc3 : CnK NS kvs2 (fun n => cn n + ((t.args.take (j + 1)).map (Tr.cnt n)).sum) := by
        rw [take_snoc hu]
        simpa [Nat.add_assoc] using hc2
      exact ⟨e12, kvs2, h2, hc3⟩
    · subst hσ
      walk_at "rd"
      refine q' H' kvs' (e1.any.trans e) hk ?_
      have : ws.length = t.args.length := by have := hws.length; rw [List.length_map] at this; exact this
      rw [this, List.take_length] at hcn
      have e3 : (fun n => cn n + t.cnt n) = fun n => cn n + (t.args.map (Tr.cnt n)).sum := funext fun n => by rw [Tr.cnt_nv hv]
      rw [e3]
      exact hcn
end
end Sq
set_option Elab.async false
set_option linter.all false
set_option maxRecDepth 100000
set_option maxHeartbeats 4000000
namespace Sq
open PySem PySem.Spec PyProof.Rows L2 RZ
local macro_rules | `(tactic| walk_at "rd") => `(tactic| simp only [tCont, tDisp, tPairs, rIndexS, wipe, tNoPart, tDG2, tDGF, tDInF, tDNInF, sDPutF, tDNewF, rSortD, rInS, rInT, rEqLF, tDcF, tDc2F, tLcF, tForF, tAllF, tAnyF, tSumF, iEnumF, iZipF, iKeysF, iItems, tLZip, tYes, tSeq, tIfS, tNext, tRet, tRetN, tDrop, tTest, tB, tNot, tAnd, tOr, tChain, tOp, tUn, tCB, tCons, tNil, tC, tVar, tIf, tAndV, tOrV, tNotV, tAsg, tPar, tPar3, gName, gSub, gTupF, gCons, gNil, tTupF, tLstF, rI0, rI, rIxF, rIxG, rIxS, rSetF, rSlF, rCatF, rCatL, rTupL, rListT, rListL, rLenT, rLenL, iTupF, iLstF, rAppF, rExtF, rPopF, tBM, tBM0, tSl, tPart, rEq, rNe, tCall, L2.start,
  List.map_cons, List.map_nil, List.length_cons, List.length_nil, Nat.sub_self, List.replicate, List.append_nil, List.cons_append, List.nil_append, List.getElem?_cons_zero, List.getElem?_cons_succ, List.set_cons_zero, List.set_cons_succ,
  exSl, exI, exI2, exB, exS, exR, ex1, ex1', V.int.injEq, V.bl.injEq, V.ref.injEq, V.str.injEq, Option.some.injEq, List.cons.injEq, and_true, true_and, reduceCtorEq, false_and, and_false, or_false, false_or, exists_false, exists_and_left, exists_eq_left', decide_eq_true_eq, decide_true, decide_false, if_false, if_true, ite_true, ite_false, Bool.false_eq_true, Bool.not_true, Bool.not_false, Nat.reduceAdd, Nat.reduceSub, Nat.zero_add, atI_0, atI_1, atI_2, atI_3, ixN_0, ixN_1, ixN_2, cutV_1, cutV_2, Option.some.injEq, HO.lst.injEq, HO.dK.injEq, scal])
local macro_rules | `(tactic| walk_at "rdc") => `(tactic| simp (config := { contextual := true }) only [tCont, tDisp, tPairs, rIndexS, wipe, tNoPart, tDG2, tDGF, tDInF, tDNInF, sDPutF, tDNewF, rSortD, rInS, rInT, rEqLF, tDcF, tDc2F, tLcF, tForF, tAllF, tAnyF, tSumF, iEnumF, iZipF, iKeysF, iItems, tLZip, tYes, tSeq, tIfS, tNext, tRet, tRetN, tDrop, tTest, tB, tNot, tAnd, tOr, tChain, tOp, tUn, tCB, tCons, tNil, tC, tVar, tIf, tAndV, tOrV, tNotV, tAsg, tPar, tPar3, gName, gSub, gTupF, gCons, gNil, tTupF, tLstF, rI0, rI, rIxF, rIxG, rIxS, rSetF, rSlF, rCatF, rCatL, rTupL, rListT, rListL, rLenT, rLenL, iTupF, iLstF, rAppF, rExtF, rPopF, tBM, tBM0, tSl, tPart, rEq, rNe, tCall, L2.start,
  List.map_cons, List.map_nil, List.length_cons, List.length_nil, Nat.sub_self, List.replicate, List.append_nil, List.cons_append, List.nil_append, List.getElem?_cons_zero, List.getElem?_cons_succ, List.set_cons_zero, List.set_cons_succ,
  exSl, exI, exI2, exB, exS, exR, ex1, ex1', V.int.injEq, V.bl.injEq, V.ref.injEq, V.str.injEq, Option.some.injEq, List.cons.injEq, and_true, true_and, reduceCtorEq, false_and, and_false, or_false, false_or, exists_false, exists_and_left, exists_eq_left', decide_eq_true_eq, decide_true, decide_false, if_false, if_true, ite_true, ite_false, Bool.false_eq_true, Bool.not_true, Bool.not_false, Nat.reduceAdd, Nat.reduceSub, Nat.zero_add, atI_0, atI_1, atI_2, atI_3, ixN_0, ixN_1, ixN_2, cutV_1, cutV_2, Option.some.injEq, HO.lst.injEq, HO.dK.injEq, scal, *])
namespace Tr
/-- every name stands at least as often -/
def cond (s t : Tr) : Bool := t.names.all fun x => decide (t.cnt x ≤ s.cnt x)
theorem cnt_pos {x : Str} : ∀ {t : Tr}, x ∈ t.names ↔ t.cnt x ≠ 0
  | v y => by
    by_cases e : y = x
    · subst e; simp [names, cnt]
    · simp [names, cnt, e, Ne.symm e]
  | a => by simp [names, cnt]
  | b => by simp [names, cnt]
  | i t => by simpa [names, cnt] using cnt_pos (t := t)
  | m t u => by
    have h1 := cnt_pos (x := x) (t := t)
    have h2 := cnt_pos (x := x) (t := u)
    simp only [names, cnt, List.mem_append, h1, h2]
    omega
theorem cond_iff {s t : Tr} : s.cond t = true ↔ ∀ x, t.cnt x ≤ s.cnt x := by
  unfold cond
  rw [List.all_eq_true]
  constructor
  · intro h x
    by_cases q : x ∈ t.names
    · exact of_decide_eq_true (h x q)
    · have : t.cnt x = 0 := Classical.byContradiction fun z => q (cnt_pos.mpr z)
      omega
  · intro h x _
    exact decide_eq_true (h x)
def ix : Tr → Nat
  | b => 1
  | i _ => 2
  | m _ _ => 3
  | _ => 0
/-- the order's first steps, r for what its last ones give -/
def pre (wi wm : Int) (s t : Tr) (r : Bool) : Bool :=
  if s.cond t = false then false else if s.wt wi wm ≠ t.wt wi wm then decide (t.wt wi wm < s.wt wi wm) else if s.isV || t.isV then false else if s.hd ≠ t.hd then decide (t.ix < s.ix) else r
def abv (wi wm : Int) : Tr → Tr → Bool
  | i s, i t => pre wi wm (i s) (i t) (if s ≠ t then abv wi wm s t else false)
  | m s s', m t t' => pre wi wm (m s s') (m t t') (if s ≠ t then abv wi wm s t else if s' ≠ t' then abv wi wm s' t' else false)
  | s, t => pre wi wm s t false
/-- the first pair of parts that are unlike -/
def lexA (wi wm : Int) : List Tr → List Tr → Bool
  | s :: ss, t :: ts => if s ≠ t then abv wi wm s t else lexA wi wm ss ts
  | _, _ => false
theorem abv_eq (wi wm : Int) (s t : Tr) : abv wi wm s t = pre wi wm s t (lexA wi wm s.args t.args) := by
  cases s <;> cases t <;> try rfl
  all_goals (simp only [abv, pre, isV, hd, Bool.or_false, Bool.or_true, Bool.false_or, Bool.true_or, ne_eq, if_true]; try rfl)
  all_goals (repeat (first | rfl | split)) <;> simp_all
end Tr
def ordS : List Str := ["a", "b", "i", "m"]
theorem Tr.hd_iff {t : Tr} : t.hd = "v" ↔ t.isV = true := by
  cases e : t.isV with
  | true =>
    cases t with
    | v x => simp [Tr.hd]
    | a => cases e
    | b => cases e
    | i s => cases e
    | m s r => cases e
  | false => simpa using Tr.hd_v e
theorem Tr.ix_ok {t : Tr} (h : t.isV = false) : ordS[t.ix]? = some t.hd ∧ ∀ m, m < t.ix → ordS[m]? ≠ some t.hd := by
  have k : ∀ (n : Nat) (x : Str), (ordS[n]? = some x ∧ ∀ m, m < n → ordS[m]? ≠ some x) ↔ (ordS[n]? = some x ∧ ∀ m ∈ List.range n, ordS[m]? ≠ some x) := fun n x => by simp
  rw [k]
  cases t with
  | v x => cases h
  | a => show ordS[0]? = some ("a" : Str) ∧ ∀ m ∈ List.range 0, ordS[m]? ≠ some ("a" : Str); decide
  | b => show ordS[1]? = some ("b" : Str) ∧ ∀ m ∈ List.range 1, ordS[m]? ≠ some ("b" : Str); decide
  | i s => show ordS[2]? = some ("i" : Str) ∧ ∀ m ∈ List.range 2, ordS[m]? ≠ some ("i" : Str); decide
  | m s r => show ordS[3]? = some ("m" : Str) ∧ ∀ m ∈ List.range 3, ordS[m]? ≠ some ("m" : Str); decide
section
variable {P : Program} {w : World} {K : PySem.W.Frag} {mg : Str → Option Value} {base : Heap} {f c tb tw : Addr} {fd : FuncData} {NS : List Str}
abbrev s_above : Stmt := top 10
abbrev n_above : List Str := ["one", "other", "weights", "order", "mine", "theirs", "name", "a", "b", "first", "second"]
theorem sc_above : FnScope n_above ["one", "other", "weights", "order"] (defScope s_above) := ⟨rfl, rfl, rfl, by decide +kernel, rfl, by decide +kernel, by decide +kernel⟩
def spAbv (K : PySem.W.Frag) (NS : List Str) (tb tw : Addr) (L k : Nat) : Sp := fun vs H Q _ => ∃ (v u : V) (s t : Tr) (a o : Addr) (wi wm : Int), vs = [v, u, .ref a, .ref o] ∧ Td K H v s.data ∧ Td K H u t.data ∧ s.dep + L ≤ k ∧ s.dep ≤ 20 ∧ t.dep ≤ 20 ∧ (∀ x ∈ s.names, x ∈ NS) ∧ (∀ x ∈ t.names, x ∈ NS) ∧ WtA H a wi wm ∧
  H o = some (.lst (ordS.map V.str)) ∧ GxR.TabG H tb ∧ GxR.TabG H tw ∧ ∀ (H' : Hp), Ext [] H H' → Q (.bl (s.abv wi wm t)) H'
theorem ok_above {L : Nat} (F : Dn K mg "above" s_above f fd c) (B : Bl mg) (TB : GxR.TabB base mg c tb) (hN : NsOk NS) (hL : 40 ≤ L) (G_counted : Cal P w K mg base 21 "counted" (spCounted K NS 20)) (G_weight : Cal P w K mg base 40 "weight" (spWt K tw 40)) :
    ∀ k, Cal P w K mg base k "above" (spAbv K NS tb tw (L + 1) k) := by
  refine F.calRec (ps := ["one", "other", "weights", "order"]) (fun _ _ _ _ _ _ us hl => match us, hl with | [_, _, _, _], _ => rfl) (fun vs H Q E ⟨v, u, s, t, _, _, _, _, _, _, _, h, _⟩ => by omega) fun k G_above => ?_
  refine F.ok sc_above (fun vs H Q E h => ?_) (fun A outer sh H vs Q E hr h => ?_)
  · obtain ⟨_, _, _, _, _, _, _, _, rfl, _⟩ := h; rfl
  obtain ⟨v, u, s, t, a, o, wi, wm, rfl, hs, ht, hd, hds, hdt, hns, hnt, hw, ho, htb, htw, q⟩ := h
  have hk : L ≤ k := by have := s.dep_pos; omega
  obtain ⟨k', rfl⟩ : ∃ k', k = k' + 1 := ⟨k - 1, by omega⟩
  have hrG := hr
  refine ⟨_, (pss_cons (ps_asg (pe_tupK K (pa_cons (C8.pe_c G_counted hr (by omega) (by rfl) (pa_cons (pv 0) pa_nil)) (pa_cons (C8.pe_c G_counted hr (by omega) (by rfl) (pa_cons (pv 1) pa_nil)) pa_nil))) (pg_tupK K (by rfl) (pgs_cons (pg_name (i := 4) sc_above.nd rfl (by first | exact Or.inl rfl | exact Or.inr rfl)) (pgs_cons (pg_name (i := 5) sc_above.nd rfl (by first | exact Or.inl rfl | exact Or.inr rfl)) pgs_nil))))
    (pss_cons (ps_if (pt_val (pe_lockD (pe_anyF (own := [("name", 6)]) hr rfl sc_above.nd (by rfl) B.b_any TB rfl (pi_keysF (pv 5)) (blkOk_by (own := [("name", 6)]) (N := n_above) (sc := defScope s_above) (by decide +kernel)) (by decide +kernel) (by rfl) (by rfl) (fun _ _ _ _ _ => (pg_name (i := 6) sc_above.nd rfl (by first | exact Or.inl rfl | exact Or.inr rfl))) (fun _ _ _ _ _ => pts_nil) (fun _ _ _ _ _ => (pe_cmpR op_gt (pe_dgetF (hu_of (Room.gen hrG)) (pv 5) (pv 6) (fun _ _ => rfl)) (pe_dget2F (hu_of (Room.gen hrG)) (pv 4) (pv 6) pe_int ⟨rfl, rfl, rfl, rfl⟩) (nomark _)))))) (pss_one (ps_ret pe_bl)) pss_nil)
    (pss_cons (ps_par (i := 7) (j := 8) (by rfl) sc_above.nd rfl rfl (by decide) rfl rfl (pa_cons (C8.pe_c G_weight hr (by omega) (by rfl) (pa_cons (pv 0) (pa_cons (pv 2) pa_nil))) (pa_cons (C8.pe_c G_weight hr (by omega) (by rfl) (pa_cons (pv 1) (pa_cons (pv 2) pa_nil))) pa_nil)) (by rfl))
    (pss_cons (ps_if (pt_cmpR op_ne (pv 7) (pv 8) (nomark _)) (pss_one (ps_ret (pe_cmpR op_gt (pv 7) (pv 8) (nomark _)))) pss_nil)
    (pss_cons (ps_if (PW.pt (pw_or (pt_cmpR op_eq (pe_ix (ix_tupK K) (pv 0) pe_int (fun _ _ => rfl)) pe_str (nomark _)) (pw_or1 (pt_cmpR op_eq (pe_ix (ix_tupK K) (pv 1) pe_int (fun _ _ => rfl)) pe_str (nomark _))))) (pss_one (ps_ret pe_bl)) pss_nil)
    (pss_cons (ps_if (pt_cmpR op_ne (pe_ix (ix_tupK K) (pv 0) pe_int (fun _ _ => rfl)) (pe_ix (ix_tupK K) (pv 1) pe_int (fun _ _ => rfl)) (nomark _)) (pss_one (ps_ret (pe_cmpR op_gt (pe_bm PySem.F.plainAttrs_list PySem.F.slot_list_index PySem.F.type_list_index mt_indexS (pv 3) (pa_cons (pe_ix (ix_tupK K) (pv 0) pe_int (fun _ _ => rfl)) pa_nil)) (pe_bm PySem.F.plainAttrs_list PySem.F.slot_list_index PySem.F.type_list_index mt_indexS (pv 3) (pa_cons (pe_ix (ix_tupK K) (pv 1) pe_int (fun _ _ => rfl)) pa_nil)) (nomark _)))) pss_nil)
    (pss_cons (ps_forF PassesOwn.never rfl (pi_zipK K (by rfl) B.b_zip (pa_cons (pe_slice (sl_tupK K) (pv 0) (po_some pe_int) po_none) (pa_cons (pe_slice (sl_tupK K) (pv 1) (po_some pe_int) po_none) pa_nil))) (pg_tupZ K (by rfl) (pgs_cons (pg_name (i := 9) sc_above.nd rfl (by first | exact Or.inl rfl | exact Or.inr rfl)) (pgs_cons (pg_name (i := 10) sc_above.nd rfl (by first | exact Or.inl rfl | exact Or.inr rfl)) pgs_nil))) (pss_one (ps_if (pt_cmpR (op_neK K hr.units) (pv 9) (pv 10) (nomark _)) (pss_one (ps_ret (C8.pe_c G_above hr (by omega) (by rfl) (pa_cons (pv 9) (pa_cons (pv 10) (pa_cons (pv 2) (pa_cons (pv 3) pa_nil))))))) pss_nil)))
    (pss_one (ps_ret pe_bl))))))))), ?_⟩
  obtain ⟨pv, w1, ev, hpv⟩ := td_hd hs
  subst ev
  obtain ⟨pu, w2, eu, hpu⟩ := td_hd ht
  subst eu
  walk_at "rd"
  refine ⟨_, s, rfl, hs, hds, hns, fun p1 H1 k1 e1 h1 c1 => ⟨_, t, rfl, ht.ext e1, hdt, hnt, fun p2 H2 k2 e2 h2 c2 => ⟨by decide, fun p3 H3 e3 h3 => ⟨_, h3, rfl, _, _, rfl, _, _, rfl, rfl, p2, k2, e3.dK0 h2, fun o2 => ?_⟩⟩⟩⟩
  have h32 := e3.dK0 h2
  have e13 := (e1.trans e2).trans e3
  have hd2 : dctF (upd H3 p2 (.frz o2 (.dK k2))) p2 = some k2 := dctF_lock (dctF_dK h32) h32
  have hd1 : dctF (upd H3 p2 (.frz o2 (.dK k2))) p1 = some k1 := dctF_lock (dctF_dK (e3.dK0 (e2.dK0 h1))) h32
  have tlock : ∀ P, GxR.TabG H P → GxR.TabG (upd H3 p2 (.frz o2 (.dK k2))) P := fun P h => (Ext.lockD h32).tab P (e13.tab P h)
  obtain ⟨ks, kk1, kk2, kk3, kk4⟩ := id c2
  have key : ∀ (j : Nat) (k : Key) (v : V), k2[j]? = some (k, v) → ∃ n : Str, k = Sum.inr n := fun j k v h => by
    have := congrArg (fun l => l[j]?) kk1
    simp only [List.getElem?_map, h, Option.map_some] at this
    cases e : ks[j]? with
    | none => rw [e] at this; cases this
    | some n => rw [e] at this; cases this; exact ⟨n, rfl⟩
  refine ⟨_, rfl, p2, o2, k2, rfl, upd_same, ?_⟩
  refine gany_keys (fun j => match k2[j]? with | some (.inr n, _) => decide (s.cnt n < t.cnt n) | _ => false) (tlock _ htb) upd_same (fun x => rfl) (fun j k v H' R hj e hR => ?_) (fun H' j hj hr e => ?_) fun H' hr e => ?_
  · obtain ⟨n, rfl⟩ := key j k v hj
    obtain ⟨v', hv'⟩ := valV_at hj
    have hv2 := kk4 n
    rw [hv'] at hv2
    have hne : t.cnt n ≠ 0 := fun z => by rw [if_pos z] at hv2; cases hv2
    rw [if_neg hne] at hv2
    cases hv2
    have f2 := dctF_ext e (fun z => nomatch z) hd2
    have f1 := dctF_ext e (fun z => nomatch z) hd1
    have g1 := c1.get n
    walk_at "rd"
    refine ⟨n, rfl, k2, f2, _, hv', k1, f1, n, rfl, k1, f1, _, rfl, _, g1, ?_⟩
    have hR' := hR H' (Ext.refl _ _)
    simp only [hj] at hR'
    have ec : decide (((s.cnt n : Nat) : Int) < ((t.cnt n : Nat) : Int)) = decide (s.cnt n < t.cnt n) := decide_eq_decide.mpr Int.ofNat_lt
    rw [ec]
    exact hR'
  · refine ⟨e.frz _ _ _ upd_same, true, rfl, ?_⟩
    have e4 := Ext.unlockD h32 e
    rw [if_pos rfl]
    have hab : s.abv wi wm t = false := by
      rw [Tr.abv_eq]
      unfold Tr.pre
      have : s.cond t = false := by
        cases hc : s.cond t with
        | false => rfl
        | true =>
          obtain ⟨⟨k, v⟩, hkv⟩ : ∃ p, k2[j]? = some p := ⟨_, List.getElem?_eq_getElem hj⟩
          obtain ⟨n, rfl⟩ := key j k v hkv
          simp only [hkv, decide_eq_true_eq] at hr
          have := Tr.cond_iff.mp hc n
          omega
      rw [this]; rfl
    rw [hab] at q
    exact q _ (e13.trans e4)
  · refine ⟨e.frz _ _ _ upd_same, false, rfl, ?_⟩
    have e4 := e13.trans (Ext.unlockD h32 e)
    rw [if_neg Bool.false_ne_true]
    have hw4 := hw.ext0 e4
    refine ⟨_, s, a, wi, wm, rfl, hs.ext e4, by omega, hds, hw4, e4.tab _ htw, fun H5 e5 => ⟨_, t, a, wi, wm, rfl, (ht.ext e4).ext e5, by omega, hdt, hw4.ext0 e5, e5.tab _ (e4.tab _ htw), fun H6 e6 => ?_⟩⟩
    have e46 := (e4.trans e5).trans e6
    have hpv6 := tupF_ext e46 hpv
    have hpu6 := tupF_ext e46 hpu
    have q' := q
    clear q
    have hcond : s.cond t = true := by
      refine Tr.cond_iff.mpr fun n => Classical.byContradiction fun hlt => ?_
      have hne : t.cnt n ≠ 0 := fun z => hlt (by omega)
      have := kk4 n
      rw [if_neg hne] at this
      obtain ⟨j, hj⟩ := at_valV this
      have hr' := hr j (List.getElem?_eq_some_iff.mp hj).1
      simp only [hj, decide_eq_false_iff_not] at hr'
      omega
    have ho6 := (e46).lst0 ho
    walk_at "rdc"
    refine ⟨_, _, ⟨rfl, rfl⟩, rfl, ?_⟩
    have q6 : ∀ H', Ext [] H6 H' → Q (.bl (s.abv wi wm t)) H' := fun H' e' => q' H' (e46.trans e')
    rw [Tr.abv_eq] at q6
    unfold Tr.pre at q6
    rw [hcond, if_neg (by decide)] at q6
    by_cases hwe : s.wt wi wm = t.wt wi wm
    · rw [if_neg (by simp [hwe])]
      rw [if_neg (by simp [hwe])] at q6
      by_cases hv : s.isV = true ∨ t.isV = true
      · rw [if_pos (by simpa using hv)] at q6
        refine ite2 (fun _ => q6 _ (Ext.refl _ _)) fun h1 => ite2 (fun _ => q6 _ (Ext.refl _ _)) fun h2 => ?_
        rcases hv with z | z
        · exact absurd (Tr.hd_iff.mpr z) h1
        · exact absurd (Tr.hd_iff.mpr z) h2
      · have hs' : s.isV = false := by cases e : s.isV with | false => rfl | true => exact absurd (.inl e) hv
        have ht' : t.isV = false := by cases e : t.isV with | false => rfl | true => exact absurd (.inr e) hv
        rw [if_neg (by simp [hs', ht'])] at q6
        rw [if_neg (Tr.hd_v hs'), if_neg (Tr.hd_v ht')]
        by_cases hh : s.hd = t.hd
        · rw [if_neg (by simp [hh])]
          rw [if_neg (by simp [hh])] at q6
          intro p4 H7 e7 h7
          refine ⟨_, tupF_ext e7 hpu6, fun p5 H8 e8 h8 => ⟨p4, p5, ⟨rfl, rfl⟩, _, tupF_ext e8 h7, _, h8, ?_⟩⟩
          rw [cutV_1] at h8
          obtain ⟨_, ws1, ep, hp', hw1⟩ := td_f hs' hs
          cases ep
          rw [hpv] at hp'
          cases hp'
          obtain ⟨_, ws2, ep, hp', hw2⟩ := td_f ht' ht
          cases ep
          rw [hpu] at hp'
          cases hp'
          have e68 := e7.trans e8
          have l1 : w1.length = s.args.length := by have := hw1.length; rw [List.length_map] at this; exact this
          have l2 : w2.length = t.args.length := by have := hw2.length; rw [List.length_map] at this; exact this
          have q8 : ∀ H', Ext [] H8 H' → Q (.bl (Tr.lexA wi wm s.args t.args)) H' := fun H' e' => q6 H' (e68.trans e')
          have e08 := e46.trans e68
          have hw8 := hw.ext0 e08
          have ho8 := e08.lst0 ho
          have hr' := hr
          refine for_go (walk_zipT rfl) (fun j σ' H' => ∃ x9 x10, σ' = [some (V.ref pv), some (V.ref pu), some (V.ref a), some (V.ref o), some (V.ref p1), some (V.ref p2), none, some (V.int (Tr.wt wi wm s)), some (V.int (Tr.wt wi wm t)), x9, x10] ∧ Ext [] H8 H' ∧ Tr.lexA wi wm s.args t.args = Tr.lexA wi wm (s.args.drop j) (t.args.drop j))
            ⟨none, none, rfl, Ext.refl _ _, rfl⟩ (fun j σ' H' _ ⟨_, _, _, e, _⟩ => ⟨tupF_sq (tupF_ext (e8.trans e) h7), tupF_sq (tupF_ext e h8)⟩) (fun j z σ' H' H'' hj ⟨x9, x10, hσ, e, hlex⟩ y => ?_) fun σ' H' ⟨x9, x10, hσ, e, hlex⟩ => ?_
          · subst hσ
            refine pair_tgt y fun x y hx hy eT => ?_
            obtain ⟨s1, hs1, hsm, hsd⟩ := td_arg hw1 hx
            obtain ⟨t1, ht1, htm, htd⟩ := td_arg hw2 hy
            have e9 := e.trans eT
            have e09 := e08.trans e9
            have lx : Tr.lexA wi wm (s.args.drop j) (t.args.drop j) = if s1 ≠ t1 then s1.abv wi wm t1 else Tr.lexA wi wm (s.args.drop (j + 1)) (t.args.drop (j + 1)) := by
              rw [List.drop_eq_getElem_cons (List.getElem?_eq_some_iff.mp hs1).1, List.drop_eq_getElem_cons (List.getElem?_eq_some_iff.mp ht1).1, (List.getElem?_eq_some_iff.mp hs1).2, (List.getElem?_eq_some_iff.mp ht1).2]
              rfl
            have ds := Tr.dep_arg hsm
            have dt := Tr.dep_arg htm
            walk_at "rd"
            refine ⟨x, [y], ⟨rfl, rfl⟩, y, [], rfl, rfl, s1.data, t1.data, hsd.ext e09, htd.ext e09, Tr.shaped hN (fun n h => hns n (Tr.names_arg hsm h)) (by omega), Tr.shaped hN (fun n h => hnt n (Tr.names_arg htm h)) (by omega), _, rfl, ?_⟩
            rw [if_pos rfl, Tr.eqv_data]
            by_cases hq : s1 = t1
            · subst hq
              rw [if_neg (by simp)]
              exact ⟨_, _, ⟨rfl, rfl⟩, e9, by rw [hlex, lx, if_neg (by simp)]⟩
            · rw [if_pos (by simp [hq])]
              refine ⟨x, y, s1, t1, a, o, wi, wm, rfl, hsd.ext e09, htd.ext e09, by omega, by omega, by omega, fun n h => hns n (Tr.names_arg hsm h), fun n h => hnt n (Tr.names_arg htm h), hw8.ext0 e9, e9.lst0 ho8, e09.tab _ htb, e09.tab _ htw, fun H9 e10 => ?_⟩
              have := q8 H9 (e9.trans e10)
              rw [hlex, lx, if_pos hq] at this
              exact this
          · subst hσ
            have : Tr.lexA wi wm s.args t.args = false := by
              rw [hlex]
              by_cases hl : s.args.length ≤ t.args.length
              · rw [(List.drop_eq_nil_of_le (by omega) : List.drop (min w1.length w2.length) s.args = [])]; rfl
              · rw [(List.drop_eq_nil_of_le (by omega) : List.drop (min w1.length w2.length) t.args = [])]; cases List.drop (min w1.length w2.length) s.args <;> rfl
            rw [this] at q8
            exact q8 H' e
        · rw [if_pos (by simp [hh])]
          rw [if_pos hh] at q6
          obtain ⟨a1, a2⟩ := Tr.ix_ok hs'
          obtain ⟨b1, b2⟩ := Tr.ix_ok ht'
          refine ⟨tyV_lst ho6, ordS, rfl, s.ix, a1, a2, tyV_lst ho6, ordS, rfl, t.ix, b1, b2, ?_⟩
          have ec : decide (((t.ix : Nat) : Int) < ((s.ix : Nat) : Int)) = decide (t.ix < s.ix) := decide_eq_decide.mpr Int.ofNat_lt
          rw [ec]
          exact q6 _ (Ext.refl _ _)
    · rw [if_pos (by simp [hwe])]
      rw [if_pos hwe] at q6
      exact ⟨_, rfl, _, rfl, q6 _ (Ext.refl _ _)⟩
end
end Sq
set_option Elab.async false
set_option linter.all false
set_option maxRecDepth 100000
set_option maxHeartbeats 4000000
namespace Sq
open PySem PySem.Spec PyProof.Rows L2 RZ
local macro_rules | `(tactic| walk_at "rd") => `(tactic| simp only [tCont, tDisp, tPairs, rIndexS, wipe, tNoPart, tDG2, tDGF, tDInF, tDNInF, sDPutF, tDNewF, rSortD, rInS, rInT, rEqLF, tDcF, tDc2F, tLcF, tForF, tAllF, tAnyF, tSumF, iEnumF, iZipF, iKeysF, iItems, tLZip, tYes, tSeq, tIfS, tNext, tRet, tRetN, tDrop, tTest, tB, tNot, tAnd, tOr, tChain, tOp, tUn, tCB, tCons, tNil, tC, tVar, tIf, tAndV, tOrV, tNotV, tAsg, tPar, tPar3, gName, gSub, gTupF, gCons, gNil, tTupF, tLstF, rI0, rI, rIxF, rIxG, rIxS, rSetF, rSlF, rCatF, rCatL, rTupL, rListT, rListL, rLenT, rLenL, iTupF, iLstF, rAppF, rExtF, rPopF, tBM, tBM0, tSl, tPart, rEq, rNe, tCall, L2.start,
  List.map_cons, List.map_nil, List.length_cons, List.length_nil, Nat.sub_self, List.replicate, List.append_nil, List.cons_append, List.nil_append, List.getElem?_cons_zero, List.getElem?_cons_succ, List.set_cons_zero, List.set_cons_succ,
  exSl, exI, exI2, exB, exS, exR, ex1, ex1', V.int.injEq, V.bl.injEq, V.ref.injEq, V.str.injEq, Option.some.injEq, List.cons.injEq, and_true, true_and, reduceCtorEq, false_and, and_false, or_false, false_or, exists_false, exists_and_left, exists_eq_left', decide_eq_true_eq, decide_true, decide_false, if_false, if_true, ite_true, ite_false, Bool.false_eq_true, Bool.not_true, Bool.not_false, Nat.reduceAdd, Nat.reduceSub, Nat.zero_add, atI_0, atI_1, atI_2, atI_3, ixN_0, ixN_1, ixN_2, cutV_1, cutV_2, Option.some.injEq, HO.lst.injEq, HO.dK.injEq, scal])
local macro_rules | `(tactic| walk_at "rdc") => `(tactic| simp (config := { contextual := true }) only [tCont, tDisp, tPairs, rIndexS, wipe, tNoPart, tDG2, tDGF, tDInF, tDNInF, sDPutF, tDNewF, rSortD, rInS, rInT, rEqLF, tDcF, tDc2F, tLcF, tForF, tAllF, tAnyF, tSumF, iEnumF, iZipF, iKeysF, iItems, tLZip, tYes, tSeq, tIfS, tNext, tRet, tRetN, tDrop, tTest, tB, tNot, tAnd, tOr, tChain, tOp, tUn, tCB, tCons, tNil, tC, tVar, tIf, tAndV, tOrV, tNotV, tAsg, tPar, tPar3, gName, gSub, gTupF, gCons, gNil, tTupF, tLstF, rI0, rI, rIxF, rIxG, rIxS, rSetF, rSlF, rCatF, rCatL, rTupL, rListT, rListL, rLenT, rLenL, iTupF, iLstF, rAppF, rExtF, rPopF, tBM, tBM0, tSl, tPart, rEq, rNe, tCall, L2.start,
  List.map_cons, List.map_nil, List.length_cons, List.length_nil, Nat.sub_self, List.replicate, List.append_nil, List.cons_append, List.nil_append, List.getElem?_cons_zero, List.getElem?_cons_succ, List.set_cons_zero, List.set_cons_succ,
  exSl, exI, exI2, exB, exS, exR, ex1, ex1', V.int.injEq, V.bl.injEq, V.ref.injEq, V.str.injEq, Option.some.injEq, List.cons.injEq, and_true, true_and, reduceCtorEq, false_and, and_false, or_false, false_or, exists_false, exists_and_left, exists_eq_left', decide_eq_true_eq, decide_true, decide_false, if_false, if_true, ite_true, ite_false, Bool.false_eq_true, Bool.not_true, Bool.not_false, Nat.reduceAdd, Nat.reduceSub, Nat.zero_add, atI_0, atI_1, atI_2, atI_3, ixN_0, ixN_1, ixN_2, cutV_1, cutV_2, Option.some.injEq, HO.lst.injEq, HO.dK.injEq, scal, *])
/-- a place -/
def plD (p : List Nat) : PyData := .tuple (p.map fun k => .int (k : Nat))
theorem TdAll.set {K : PySem.W.Frag} {H : Hp} {v : V} {d : PyData} : ∀ {vs : List V} {ds : List PyData} (k : Nat), TdAll K H vs ds → Td K H v d → TdAll K H (vs.set k v) (ds.set k d)
  | _, _, _, .nil, _ => .nil
  | _, _, 0, .cons _ r, h => .cons h r
  | _, _, k + 1, .cons h' r, h => .cons h' (TdAll.set k r h)
namespace Tr
def spots : Tr → List (List Nat)
  | v _ => []
  | a => [[]]
  | b => [[]]
  | i t => [] :: t.spots.map (0 :: ·)
  | m t u => [] :: (t.spots.map (0 :: ·) ++ u.spots.map (1 :: ·))
def atP : Tr → List Nat → Option Tr
  | t, [] => some t
  | i t, 0 :: p => t.atP p
  | m t _, 0 :: p => t.atP p
  | m _ u, 1 :: p => u.atP p
  | _, _ => none
def putP : Tr → List Nat → Tr → Tr
  | _, [], w => w
  | i t, 0 :: p, w => i (t.putP p w)
  | m t u, 0 :: p, w => m (t.putP p w) u
  | m t u, 1 :: p, w => m t (u.putP p w)
  | t, _, _ => t
/-- the places of all parts, from the k-th -/
def spotsA (k : Nat) : List Tr → List (List Nat)
  | [] => []
  | t :: ts => t.spots.map (k :: ·) ++ spotsA (k + 1) ts
theorem spots_nv {t : Tr} (h : t.isV = false) : t.spots = [] :: spotsA 0 t.args := by
  cases t with
  | v x => cases h
  | a => rfl
  | b => rfl
  | i s => simp [spots, args, spotsA]
  | m s r => simp [spots, args, spotsA]
theorem spots_len : ∀ t : Tr, t.spots.length ≤ 2 ^ t.dep - 1
  | v _ => Nat.zero_le _
  | a => by decide
  | b => by decide
  | i t => by
    have := spots_len t
    have p : 1 ≤ 2 ^ t.dep := Nat.one_le_two_pow
    simp only [spots, List.length_cons, List.length_map, dep, Nat.pow_succ]
    omega
  | m t u => by
    have h1 := spots_len t
    have h2 := spots_len u
    have p1 : 2 ^ t.dep ≤ 2 ^ max t.dep u.dep := Nat.pow_le_pow_right (by omega) (Nat.le_max_left _ _)
    have p2 : 2 ^ u.dep ≤ 2 ^ max t.dep u.dep := Nat.pow_le_pow_right (by omega) (Nat.le_max_right _ _)
    have q1 : 1 ≤ 2 ^ t.dep := Nat.one_le_two_pow
    have q2 : 1 ≤ 2 ^ u.dep := Nat.one_le_two_pow
    simp only [spots, List.length_cons, List.length_append, List.length_map, dep, Nat.pow_succ]
    omega
theorem spots_10 {t : Tr} (h : t.dep ≤ 10) : t.spots.length ≤ 1023 := by
  have h1 := spots_len t
  have p1 : 2 ^ t.dep ≤ 2 ^ 10 := Nat.pow_le_pow_right (by omega) h
  have : 2 ^ 10 = 1024 := by decide
  omega
theorem spots_mem : ∀ {t : Tr} {q : List Nat}, q ∈ t.spots → q.length < t.dep ∧ ∃ u, t.atP q = some u ∧ u.isV = false
  | v _, q, h => by cases h
  | a, q, h => by
    have e : q = [] := by simpa [spots] using h
    subst e; exact ⟨by decide, a, rfl, rfl⟩
  | b, q, h => by
    have e : q = [] := by simpa [spots] using h
    subst e; exact ⟨by decide, b, rfl, rfl⟩
  | i t, q, h => by
    rcases List.mem_cons.mp h with e | h
    · subst e; exact ⟨Nat.succ_pos _, i t, rfl, rfl⟩
    · obtain ⟨r, hr, rfl⟩ := List.mem_map.mp h
      obtain ⟨h1, u, h2, h3⟩ := spots_mem hr
      exact ⟨by simp only [List.length_cons, dep]; omega, u, h2, h3⟩
  | m t s, q, h => by
    rcases List.mem_cons.mp h with e | h
    · subst e; exact ⟨Nat.succ_pos _, m t s, rfl, rfl⟩
    · rcases List.mem_append.mp h with h | h
      · obtain ⟨r, hr, rfl⟩ := List.mem_map.mp h
        obtain ⟨h1, u, h2, h3⟩ := spots_mem hr
        exact ⟨by simp only [List.length_cons, dep]; omega, u, h2, h3⟩
      · obtain ⟨r, hr, rfl⟩ := List.mem_map.mp h
        obtain ⟨h1, u, h2, h3⟩ := spots_mem hr
        exact ⟨by simp only [List.length_cons, dep]; omega, u, h2, h3⟩
theorem spotsA_at {j : Nat} : ∀ {ts : List Tr} {k : Nat} {u : Tr}, ts[j]? = some u → spotsA k (ts.take (j + 1)) = spotsA k (ts.take j) ++ u.spots.map ((k + j) :: ·) := by
  induction j with
  | zero =>
    intro ts k u h
    cases ts with
    | nil => cases h
    | cons t ts => cases h; simp [spotsA]
  | succ j ih =>
    intro ts k u h
    cases ts with
    | nil => cases h
    | cons t ts =>
      have h' : ts[j]? = some u := by simpa using h
      rw [List.take_succ_cons, List.take_succ_cons, spotsA, spotsA, ih h', List.append_assoc]
      have : k + 1 + j = k + (j + 1) := by omega
      rw [this]
theorem spotsA_len {ts : List Tr} (h : ∀ u ∈ ts, u.dep ≤ 10) : ∀ k, (spotsA k ts).length ≤ 1023 * ts.length := by
  induction ts with
  | nil => intro k; exact Nat.zero_le _
  | cons t ts ih =>
    intro k
    have h1 := spots_10 (h t List.mem_cons_self)
    have h2 := ih (fun u hu => h u (List.mem_cons_of_mem _ hu)) (k + 1)
    simp only [spotsA, List.length_append, List.length_map, List.length_cons]
    omega
theorem atP_cons {t u : Tr} {k : Nat} {p : List Nat} : t.atP (k :: p) = some u ↔ ∃ s, t.args[k]? = some s ∧ s.atP p = some u := by
  cases t with
  | v x => simp [atP, args]
  | a => simp [atP, args]
  | b => simp [atP, args]
  | i s =>
    match k with
    | 0 => simp [atP, args]
    | k + 1 => simp [atP, args]
  | m s r =>
    match k with
    | 0 => simp [atP, args]
    | 1 => simp [atP, args]
    | k + 2 => simp [atP, args]
theorem putP_cons {t s w : Tr} {k : Nat} {p : List Nat} (h : t.args[k]? = some s) : (t.putP (k :: p) w).isV = false ∧ (t.putP (k :: p) w).hd = t.hd ∧ (t.putP (k :: p) w).args = t.args.set k (s.putP p w) := by
  cases t with
  | v x => simp [args] at h
  | a => simp [args] at h
  | b => simp [args] at h
  | i r =>
    match k with
    | 0 => simp [args] at h; subst h; exact ⟨rfl, rfl, rfl⟩
    | k + 1 => simp [args] at h
  | m r r' =>
    match k with
    | 0 => simp [args] at h; subst h; exact ⟨rfl, rfl, rfl⟩
    | 1 => simp [args] at h; subst h; exact ⟨rfl, rfl, rfl⟩
    | k + 2 => simp [args] at h
theorem nv_of_args {t s : Tr} {k : Nat} (h : t.args[k]? = some s) : t.isV = false := by
  cases t with
  | v x => simp [args] at h
  | _ => rfl
end Tr
section
variable {P : Program} {w : World} {K : PySem.W.Frag} {mg : Str → Option Value} {base : Heap} {f c tb tw : Addr} {fd : FuncData} {NS : List Str}
abbrev s_at : Stmt := top 5
abbrev n_at : List Str := ["tree", "place", "k"]
theorem sc_at : FnScope n_at ["tree", "place"] (defScope s_at) := ⟨rfl, rfl, rfl, by decide +kernel, rfl, by decide +kernel, by decide +kernel⟩
abbrev s_laid_at : Stmt := top 6
abbrev n_laid_at : List Str := ["tree", "place", "other", "k"]
theorem sc_laid_at : FnScope n_laid_at ["tree", "place", "other"] (defScope s_laid_at) := ⟨rfl, rfl, rfl, by decide +kernel, rfl, by decide +kernel, by decide +kernel⟩
abbrev s_spots : Stmt := top 4
abbrev n_spots : List Str := ["tree", "found", "k", "part", "place"]
theorem sc_spots : FnScope n_spots ["tree"] (defScope s_spots) := ⟨rfl, rfl, rfl, by decide +kernel, rfl, by decide +kernel, by decide +kernel⟩
def spAt (K : PySem.W.Frag) : Sp := fun vs H Q _ => ∃ (v y : V) (t u : Tr) (p : List Nat), vs = [v, y] ∧ Td K H v t.data ∧ Td K H y (plD p) ∧ t.atP p = some u ∧ ∀ (v' : V) (H' : Hp), Ext [] H H' → Td K H' v' u.data → Q v' H'
theorem ok_at (F : Dn K mg "at" s_at f fd c) : Cal P w K mg base 1 "at" (spAt K) := by
  refine F.cal (ps := ["tree", "place"]) (fun _ _ _ _ _ _ us hl => match us, hl with | [_, _], _ => rfl) sc_at (fun vs H Q E h => ?_) (fun A outer s H vs Q E hr h => ?_)
  · obtain ⟨_, _, _, _, _, rfl, _⟩ := h; rfl
  obtain ⟨v, y, t, u, p, rfl, ht, hy, hat, q⟩ := h
  refine ⟨_, (pss_cons (ps_forF PassesOwn.never rfl (pi_tupK K (pv 1)) (pg_name (i := 2) sc_at.nd rfl (by first | exact Or.inl rfl | exact Or.inr rfl)) (pss_one (ps_set (i := 0) sc_at.nd rfl (by first | exact Or.inl rfl | exact Or.inr rfl) (pe_ix (ix_tupK K) (pv 0) (pe_op op_add (pv 2) pe_int) (fun _ _ => rfl)))))
    (pss_one (ps_ret (pv 0)))), ?_⟩
  cases hy with
  | tup hp hall =>
    rename_i ap ps
    walk_at "rd"
    refine ⟨_, hp, ?_⟩
    refine for_go walk_tup (fun j σ' H' => ∃ v1 t1 x2, σ' = [some v1, some (V.ref ap), x2] ∧ Ext [] H H' ∧ Td K H' v1 (Tr.data t1) ∧ t1.atP (p.drop j) = some u) ⟨v, t, none, rfl, Ext.refl _ _, ht, by simpa using hat⟩ (fun j σ' H' _ ⟨_, _, _, _, e, _⟩ => tupF_sq (tupF_ext e hp)) (fun j z σ' H' H'' hj ⟨v1, t1, x2, hσ, e, h1, hu⟩ y => ?_) fun σ' H' ⟨v1, t1, x2, hσ, e, h1, hu⟩ => ?_
    · obtain ⟨rfl, hz⟩ := y
      subst hσ
      obtain ⟨d, hd, hzd⟩ := hall.get hz
      rw [List.getElem?_map] at hd
      cases hk : p[j]? with
      | none => rw [hk] at hd; cases hd
      | some k =>
        rw [hk] at hd
        cases hd
        cases hzd
        have hjp := (List.getElem?_eq_some_iff.mp hk).1
        rw [List.drop_eq_getElem_cons hjp, (List.getElem?_eq_some_iff.mp hk).2] at hu
        obtain ⟨s1, hs1, hs2⟩ := Tr.atP_cons.mp hu
        obtain ⟨q1, ws, rfl, hq1, hws⟩ := td_f (Tr.nv_of_args hs1) h1
        have hlen : ws.length = t1.args.length := by have := hws.length; rw [List.length_map] at this; exact this
        have hkl := (List.getElem?_eq_some_iff.mp hs1).1
        obtain ⟨w1, hw1⟩ : ∃ w1, ws[k]? = some w1 := ⟨_, List.getElem?_eq_getElem (by omega)⟩
        obtain ⟨u1, hu1, _, hud⟩ := td_arg hws hw1
        rw [hs1] at hu1
        cases hu1
        walk_at "rd"
        have hat1 : atI (V.str t1.hd :: ws) ((k : Int) + 1) = some w1 := by
          have : ((k : Int) + 1) = ((k + 1 : Nat) : Int) := by omega
          rw [this, at_ix (by rw [List.length_cons]; omega)]
          simpa using hw1
        exact ⟨_, hq1, w1, hat1, w1, s1, _, ⟨rfl, rfl⟩, e, hud, hs2⟩
    · subst hσ
      walk_at "rd"
      have hlen : ps.length = p.length := by have := hall.length; rw [List.length_map] at this; exact this
      rw [hlen, List.drop_length] at hu
      cases t1 <;> (simp only [Tr.atP] at hu; cases hu; exact q _ _ e h1)
def spLaid (K : PySem.W.Frag) (k : Nat) : Sp := fun vs H Q _ => ∃ (v y z : V) (t u r : Tr) (p : List Nat), vs = [v, y, z] ∧ Td K H v t.data ∧ Td K H y (plD p) ∧ p.length < k ∧ p.length ≤ 60 ∧ t.atP p = some u ∧ Td K H z r.data ∧ ∀ (v' : V) (H' : Hp), Ext [] H H' → Td K H' v' (t.putP p r).data → Q v' H'
theorem ok_laid (F : Dn K mg "laid_at" s_laid_at f fd c) : ∀ k, Cal P w K mg base k "laid_at" (spLaid K k) := by
  refine F.calRec (ps := ["tree", "place", "other"]) (fun _ _ _ _ _ _ us hl => match us, hl with | [_, _, _], _ => rfl) (fun vs H Q E ⟨v, _, _, t, _, _, _, _, _, _, h, _⟩ => by omega) fun lv G_laid_at => ?_
  refine F.ok sc_laid_at (fun vs H Q E h => ?_) (fun A outer s H vs Q E hr h => ?_)
  · obtain ⟨_, _, _, _, _, _, _, rfl, _⟩ := h; rfl
  obtain ⟨v, y, z, t, u, r, p, rfl, ht, hy, hpl, hp60, hat, hz, q⟩ := h
  refine ⟨_, (pss_cons (ps_if (pt_cmpR (op_eqK K hr.units) (pv 1) (pe_tupK K pa_nil) (nomark _)) (pss_one (ps_ret (pv 2))) pss_nil)
    (pss_cons (ps_set (i := 3) sc_laid_at.nd rfl (by first | exact Or.inl rfl | exact Or.inr rfl) (pe_op op_add (pe_ix (ix_tupK K) (pv 1) pe_int (fun _ _ => rfl)) pe_int))
    (pss_one (ps_ret (pe_op (op_catK K) (pe_op (op_catK K) (pe_slice (sl_tupK K) (pv 0) po_none (po_some (pv 3))) (pe_tupK K (pa_cons (C8.pe_c G_laid_at hr (by omega) (by rfl) (pa_cons (pe_ix (ix_tupK K) (pv 0) (pv 3) (fun _ _ => rfl)) (pa_cons (pe_slice (sl_tupK K) (pv 1) (po_some pe_int) po_none) (pa_cons (pv 2) pa_nil)))) pa_nil))) (pe_slice (sl_tupK K) (pv 0) (po_some (pe_op op_add (pv 3) pe_int)) po_none)))))), ?_⟩
  have hy0 := hy
  cases hy with
  | tup hp hall =>
    rename_i ap ps
    have hempty : ∀ p2 H2, tupF K H2 p2 = some [] → Td K H2 (.ref p2) (.tuple []) := fun p2 H2 h => .tup h .nil
    have shp : SeqAt.shaped (plD p) = true := by
      have : ∀ l : List Nat, PyData.canLayAll0 (l.map fun k => PyData.int (k : Nat)) = true ∧ PyData.depthAll (l.map fun k => PyData.int (k : Nat)) = 0 := fun l => by
        induction l with
        | nil => exact ⟨by rw [List.map_nil, PyData.canLayAll0], by rw [List.map_nil, PyData.depthAll]⟩
        | cons x l ih => exact ⟨by rw [List.map_cons, PyData.canLayAll0, ih.1, PyData.canLay0]; rfl, by rw [List.map_cons, PyData.depthAll, ih.2, PyData.depth]; rfl⟩
      unfold SeqAt.shaped plD
      rw [PyData.canLay0, PyData.depth, (this p).1, (this p).2]
      rfl
    have she : SeqAt.shaped (.tuple []) = true := by decide +kernel
    have q' := q
    clear q
    walk_at "rd"
    refine ⟨by decide, fun p1 H1 e1 h1 => ⟨plD p, .tuple [], hy0.ext e1, hempty _ _ h1, shp, she, _, rfl, ?_⟩⟩
    cases p with
    | nil =>
      rw [if_neg Bool.false_ne_true]
      have : PyData.eqv (plD []) (.tuple []) = true := by unfold plD; rw [List.map_nil, Tr.eqv_tup, Tr.eqvAll_nil]
      rw [this, if_pos rfl]
      cases t <;> exact q' _ _ e1 (hz.ext e1)
    | cons k p' =>
      rw [if_neg Bool.false_ne_true]
      have : PyData.eqv (plD (k :: p')) (.tuple []) = false := by unfold plD; rw [List.map_cons, Tr.eqv_tup, Tr.eqvAll_cn]
      rw [this, if_neg Bool.false_ne_true]
      obtain ⟨s1, hs1, hs2⟩ := Tr.atP_cons.mp hat
      cases hall with
      | cons hk hall' =>
        cases hk
        obtain ⟨q1, ws, rfl, hq1, hws⟩ := td_f (Tr.nv_of_args hs1) ht
        have hlen : ws.length = t.args.length := by have := hws.length; rw [List.length_map] at this; exact this
        have hkl := (List.getElem?_eq_some_iff.mp hs1).1
        obtain ⟨w1, hw1⟩ : ∃ w1, ws[k]? = some w1 := ⟨_, List.getElem?_eq_getElem (by omega)⟩
        obtain ⟨u1, hu1, _, hud⟩ := td_arg hws hw1
        rw [hs1] at hu1
        cases hu1
        have ek : ((k : Int) + 1) = ((k + 1 : Nat) : Int) := by omega
        have hat1 : atI (V.str t.hd :: ws) ((k : Int) + 1) = some w1 := by
          rw [ek, at_ix (by rw [List.length_cons]; omega)]
          simpa using hw1
        refine ⟨_, tupF_ext e1 hp, .int (k : Nat), atI_0, _, rfl, _, rfl, _, tupF_ext e1 hq1, fun p2 H2 e2 h2 => ⟨_, rfl, _, tupF_ext (e1.trans e2) hq1, w1, hat1, _, tupF_ext (e1.trans e2) hp, fun p3 H3 e3 h3 => ?_⟩⟩
        rw [cutV_1] at h3
        rw [ek, cutV_to] at h2
        have e13 := (e1.trans e2).trans e3
        have hpl' : p'.length + 1 < lv + 1 := by simpa using hpl
        refine ⟨w1, .ref p3, z, s1, u, r, p', rfl, hud.ext e13, .tup h3 (hall'.ext e13), by omega, by simp at hp60; omega, hs2, hz.ext e13, fun v' H4 e4 h4 => ?_⟩
        have len2 : ws.length ≤ 2 := by rw [hlen]; exact t.args_len
        have szl : (100 : Nat) < sizeLine := by decide
        have e14 := e13.trans e4
        refine ⟨by decide, fun p5 H5 e5 h5 => ⟨_, tupF_ext (e3.trans (e4.trans e5)) h2, _, h5, by rw [List.length_take, List.length_singleton, List.length_cons]; omega, fun p6 H6 e6 h6 => ⟨q1, rfl, _, tupF_ext (e14.trans (e5.trans e6)) hq1, fun p7 H7 e7 h7 => ?_⟩⟩⟩
        have ek2 : ((k : Int) + 1 + 1) = ((k + 2 : Nat) : Int) := by omega
        rw [ek2, cutV_from] at h7
        refine ⟨_, tupF_ext e7 h6, _, h7, by rw [List.length_append, List.length_take, List.length_singleton, List.length_cons, List.length_drop, List.length_cons]; omega, fun p8 H8 e8 h8 => q' _ _ ((e14.trans (e5.trans e6)).trans (e7.trans e8)) ?_⟩
        obtain ⟨n1, n2, n3⟩ := Tr.putP_cons (p := p') (w := r) hs1
        refine td_mk (ws := ws.set k v') n1 ?_ ?_
        · rw [n2, h8]
          congr 1
          rw [List.set_eq_take_append_cons_drop, if_pos (by omega)]
          simp
        · rw [n3, List.map_set]
          have e48 := (e5.trans e6).trans (e7.trans e8)
          exact ((hws.ext e14).ext ((e5.trans e6).trans (e7.trans e8))).set k (h4.ext e48)
def spSpots (K : PySem.W.Frag) (k : Nat) : Sp := fun vs H Q _ => ∃ (v : V) (t : Tr), vs = [v] ∧ Td K H v t.data ∧ t.dep ≤ k ∧ t.dep ≤ 10 ∧ ∀ (v' : V) (H' : Hp), Ext [] H H' → Td K H' v' (.tuple (t.spots.map plD)) → Q v' H'
theorem ok_spots (F : Dn K mg "spots" s_spots f fd c) (B : Bl mg) : ∀ k, Cal P w K mg base k "spots" (spSpots K k) := by
  refine F.calRec (ps := ["tree"]) (fun _ _ _ _ _ _ us hl => match us, hl with | [_], _ => rfl) (fun vs H Q E ⟨v, t, _, _, h, _⟩ => by have := t.dep_pos; omega) fun k G_spots => ?_
  refine F.ok sc_spots (fun vs H Q E h => ?_) (fun A outer s H vs Q E hr h => ?_)
  · obtain ⟨_, _, rfl, _⟩ := h; rfl
  obtain ⟨v, t, rfl, ht, hd, h10, q⟩ := h
  refine ⟨_, (pss_cons (ps_if (pt_cmpR op_eq (pe_ix (ix_tupK K) (pv 0) pe_int (fun _ _ => rfl)) pe_str (nomark _)) (pss_one (ps_ret (pe_tupK K pa_nil))) pss_nil)
    (pss_cons (ps_set (i := 1) sc_spots.nd rfl (by first | exact Or.inl rfl | exact Or.inr rfl) (pe_lstF (pa_cons (pe_tupK K pa_nil) pa_nil)))
    (pss_cons (ps_forF PassesOwn.never rfl (pi_enumK K (by rfl) B.b_enumerate (pa_cons (pe_slice (sl_tupK K) (pv 0) (po_some pe_int) po_none) pa_nil)) (pg_tupZ K (by rfl) (pgs_cons (pg_name (i := 2) sc_spots.nd rfl (by first | exact Or.inl rfl | exact Or.inr rfl)) (pgs_cons (pg_name (i := 3) sc_spots.nd rfl (by first | exact Or.inl rfl | exact Or.inr rfl)) pgs_nil))) (pss_one (ps_expr (pe_bm PySem.F.plainAttrs_list PySem.F.slot_list_extend PySem.F.type_list_extend mt_extF (pv 1) (pa_cons (pe_lcF (own := [("place", 4)]) rfl sc_spots.nd (pi_tupK K (C8.pe_c G_spots hr (by omega) (by rfl) (pa_cons (pv 3) pa_nil))) (blkOk_by (own := [("place", 4)]) (N := n_spots) (sc := defScope s_spots) (by decide +kernel)) (fun _ _ _ _ _ => (pg_name (i := 4) sc_spots.nd rfl (by first | exact Or.inl rfl | exact Or.inr rfl))) (fun _ _ _ _ _ => pts_nil) (fun _ _ _ _ _ => (pe_op (op_catK K) (pe_tupK K (pa_cons (pv 2) pa_nil)) (pv 4)))) pa_nil)))))
    (pss_one (ps_ret (pe_callTy (call_tupleK K) (by rfl) B.b_tuple (by decide +kernel) (pa_cons (pv 1) pa_nil))))))), ?_⟩
  cases hv : t.isV with
  | true =>
    cases t with
    | v x =>
      obtain ⟨p, rfl, hp⟩ := td_v ht
      have q' := q
      clear q
      walk_at "rdc"
      exact ⟨by decide, fun p1 H1 e1 h1 => q' _ H1 e1 (.tup h1 .nil)⟩
    | a => cases hv
    | b => cases hv
    | i s => cases hv
    | m s r => cases hv
  | false =>
    obtain ⟨p, ws, rfl, hp, hws⟩ := td_f hv ht
    have hne := Tr.hd_v hv
    have q' := q
    clear q ht
    walk_at "rdc"
    have hlen : ws.length = t.args.length := by have := hws.length; rw [List.length_map] at this; exact this
    have ha2 := t.args_len
    refine ⟨by decide, fun p1 H1 e1 h1 => ⟨by decide, fun p2 H2 n2 e2 h2 => ⟨_, tupF_ext (e1.trans e2) hp, fun p3 H3 e3 h3 => ?_⟩⟩⟩
    rw [cutV_1] at h3
    have e03 := (e1.trans e2).trans e3
    have g1 : Td K H3 (.ref p1) (plD []) := .tup (tupF_ext (e2.trans e3) h1) .nil
    refine for_go walk_enumT (fun j σ' H' => ∃ x2 x3 x4 ys, σ' = [some (V.ref p), some (V.ref p2), x2, x3, x4] ∧ Ext [p2] H3 H' ∧ H' p2 = some (.lst ys) ∧ TdAll K H' ys (([] :: Tr.spotsA 0 (t.args.take j)).map plD)) ⟨none, none, none, _, rfl, Ext.refl _ _, e3.lst0 h2, .cons g1 .nil⟩
      (fun j σ' H' _ ⟨_, _, _, _, _, e, _⟩ => tupF_sq (tupF_ext e h3)) (fun j z σ' H' H'' hj ⟨x2, x3, x4, ys, hσ, e, hys, hall⟩ y => ?_) fun σ' H' ⟨x2, x3, x4, ys, hσ, e, hys, hall⟩ => ?_
    · subst hσ
      refine pair_tgt y fun x z hx hz eT => ?_
      cases hx
      obtain ⟨u, hu, hum, hud⟩ := td_arg hws hz
      have hdu := Tr.dep_arg hum
      walk_at "rd"
      have e4 := e.trans eT.any
      have hys4 : H'' p2 = some (.lst ys) := eT.lst0 hys
      have hall4 := hall.ext eT
      have h4b : H'' p2 = some (.lst ys) := hys4
      refine ⟨.int (j : Nat), [z], ⟨rfl, rfl⟩, z, [], rfl, rfl, tyV_lst hys4, z, u, rfl, (hud.ext e03).ext e4, by omega, by omega, fun v' H5 e5 hv' => ?_⟩
      cases hv' with
      | tup h5 all5 =>
        have hl5 := all5.length
        have hsp := Tr.spots_10 (t := u) (by omega)
        rw [List.length_map] at hl5
        refine ⟨_, rfl, _, h5, ?_⟩
        refine lc_map (ds := u.spots.map fun q => plD (j :: q)) h5 (by rw [List.length_map]; exact hl5.symm) (by omega) (fun x => rfl) (fun m x d H6 R hx hd e6 hR => ?_) fun D zs H6 hD e6 hzs hzall => ?_
        · obtain ⟨d', hd', hxd⟩ := all5.get hx
          rw [List.getElem?_map] at hd hd'
          cases hq : u.spots[m]? with
          | none => rw [hq] at hd; cases hd
          | some q0 =>
            rw [hq] at hd hd'
            cases hd
            cases hd'
            cases hxd with
            | tup hx1 hx2 =>
              have hx1' := tupF_ext e6 hx1
              have hx2' := hx2.ext e6
              walk_at "rd"
              have hq0 := (Tr.spots_mem (List.mem_of_getElem? hq)).1
              have hxl := hx2.length
              rw [List.length_map] at hxl
              refine ⟨by decide, fun p7 H7 e7 h7 => ⟨_, h7, _, tupF_ext e7 hx1', by rw [sizeLine_eq, List.length_singleton]; omega, fun p8 H8 e8 h8 => hR _ _ (e7.trans e8) (.tup h8 (.cons (.int _) ((hx2'.ext e7).ext e8)))⟩⟩
        · have e56 := e5.trans e6
          have l1 := hall.length
          have l2 := hzall.length
          have l3 := Tr.spotsA_len (ts := t.args.take j) (fun u hu => by have := Tr.dep_arg (List.mem_of_mem_take hu); omega) 0
          have l4 : (t.args.take j).length ≤ 2 := by rw [List.length_take]; omega
          simp only [List.length_map, List.length_cons] at l1 l2
          refine ⟨D, rfl, ys, e56.lst0 hys4, zs, hzs, by rw [sizeLine_eq]; omega, fun H7 e7 h7 => ⟨_, _, _, ⟨rfl, rfl, rfl⟩, (e4.trans e56.any).trans e7, _, h7, ?_⟩⟩
          have := ((hall4.ext e56).ext e7).append (hzall.ext e7)
          rw [Tr.spotsA_at hu, List.map_append, List.map_map, Nat.zero_add]
          exact this
    · subst hσ
      walk_at "rd"
      have : ws.length = t.args.length := hlen
      rw [this, List.take_length] at hall
      refine ⟨ys, hys, fun p7 H7 e7 h7 => q' _ _ ?_ ?_⟩
      · exact ((e1.trans (Ext.over (e2.trans e3) n2 e)).trans e7)
      · rw [Tr.spots_nv hv]
        exact .tup h7 (hall.ext e7)
end
end Sq
set_option Elab.async false
set_option linter.all false
set_option maxRecDepth 100000
set_option maxHeartbeats 4000000
namespace Sq
open PySem PySem.Spec PyProof.Rows L2 RZ
local macro_rules | `(tactic| walk_at "rd") => `(tactic| simp only [tCont, tDisp, tPairs, rIndexS, wipe, tNoPart, tDG2, tDGF, tDInF, tDNInF, sDPutF, tDNewF, rSortD, rInS, rInT, rEqLF, tDcF, tDc2F, tLcF, tForF, tAllF, tAnyF, tSumF, iEnumF, iZipF, iKeysF, iItems, tLZip, tYes, tSeq, tIfS, tNext, tRet, tRetN, tDrop, tTest, tB, tNot, tAnd, tOr, tChain, tOp, tUn, tCB, tCons, tNil, tC, tVar, tIf, tAndV, tOrV, tNotV, tAsg, tPar, tPar3, gName, gSub, gTupF, gCons, gNil, tTupF, tLstF, rI0, rI, rIxF, rIxG, rIxS, rSetF, rSlF, rCatF, rCatL, rTupL, rListT, rListL, rLenT, rLenL, iTupF, iLstF, rAppF, rExtF, rPopF, tBM, tBM0, tSl, tPart, rEq, rNe, tCall, L2.start,
  List.map_cons, List.map_nil, List.length_cons, List.length_nil, Nat.sub_self, List.replicate, List.append_nil, List.cons_append, List.nil_append, List.getElem?_cons_zero, List.getElem?_cons_succ, List.set_cons_zero, List.set_cons_succ,
  exSl, exI, exI2, exB, exS, exR, ex1, ex1', V.int.injEq, V.bl.injEq, V.ref.injEq, V.str.injEq, Option.some.injEq, List.cons.injEq, and_true, true_and, reduceCtorEq, false_and, and_false, or_false, false_or, exists_false, exists_and_left, exists_eq_left', decide_eq_true_eq, decide_true, decide_false, if_false, if_true, ite_true, ite_false, Bool.false_eq_true, Bool.not_true, Bool.not_false, Nat.reduceAdd, Nat.reduceSub, Nat.zero_add, atI_0, atI_1, atI_2, atI_3, ixN_0, ixN_1, ixN_2, cutV_1, cutV_2, Option.some.injEq, HO.lst.injEq, HO.dK.injEq, scal])
local macro_rules | `(tactic| walk_at "rdc") => `(tactic| simp (config := { contextual := true }) only [tCont, tDisp, tPairs, rIndexS, wipe, tNoPart, tDG2, tDGF, tDInF, tDNInF, sDPutF, tDNewF, rSortD, rInS, rInT, rEqLF, tDcF, tDc2F, tLcF, tForF, tAllF, tAnyF, tSumF, iEnumF, iZipF, iKeysF, iItems, tLZip, tYes, tSeq, tIfS, tNext, tRet, tRetN, tDrop, tTest, tB, tNot, tAnd, tOr, tChain, tOp, tUn, tCB, tCons, tNil, tC, tVar, tIf, tAndV, tOrV, tNotV, tAsg, tPar, tPar3, gName, gSub, gTupF, gCons, gNil, tTupF, tLstF, rI0, rI, rIxF, rIxG, rIxS, rSetF, rSlF, rCatF, rCatL, rTupL, rListT, rListL, rLenT, rLenL, iTupF, iLstF, rAppF, rExtF, rPopF, tBM, tBM0, tSl, tPart, rEq, rNe, tCall, L2.start,
  List.map_cons, List.map_nil, List.length_cons, List.length_nil, Nat.sub_self, List.replicate, List.append_nil, List.cons_append, List.nil_append, List.getElem?_cons_zero, List.getElem?_cons_succ, List.set_cons_zero, List.set_cons_succ,
  exSl, exI, exI2, exB, exS, exR, ex1, ex1', V.int.injEq, V.bl.injEq, V.ref.injEq, V.str.injEq, Option.some.injEq, List.cons.injEq, and_true, true_and, reduceCtorEq, false_and, and_false, or_false, false_or, exists_false, exists_and_left, exists_eq_left', decide_eq_true_eq, decide_true, decide_false, if_false, if_true, ite_true, ite_false, Bool.false_eq_true, Bool.not_true, Bool.not_false, Nat.reduceAdd, Nat.reduceSub, Nat.zero_add, atI_0, atI_1, atI_2, atI_3, ixN_0, ixN_1, ixN_2, cutV_1, cutV_2, Option.some.injEq, HO.lst.injEq, HO.dK.injEq, scal, *])
section
variable {P : Program} {w : World} {K : PySem.W.Frag} {mg : Str → Option Value} {base : Heap} {f c tb tw : Addr} {fd : FuncData} {NS : List Str}
abbrev s__law_tree : Stmt := top 17
abbrev n__law_tree : List Str := ["dice", "deep", "names", "kind"]
theorem sc__law_tree : FnScope n__law_tree ["dice", "deep", "names"] (defScope s__law_tree) := ⟨rfl, rfl, rfl, by decide +kernel, rfl, by decide +kernel, by decide +kernel⟩

def spLT (K : PySem.W.Frag) (k : Nat) : Sp := fun vs H Q _ => ∃ (a : Addr) (d : Nat) (nm : Str), vs = [.ref a, .int (d : Nat), .str nm] ∧ d + 1 < k ∧ (nm = "xy" ∨ nm = "") ∧ DiceAt H a ∧
  ∀ (v' : V) (t : Tr) (H' : Hp), Ext [a] H H' → DiceAt H' a → Td K H' v' t.data → t.dep ≤ d + 1 → (∀ x ∈ t.names, nm = "xy" ∧ (x = "x" ∨ x = "y")) → Q v' H'
theorem ok_tree (F : Dn K mg "_law_tree" s__law_tree f fd c) (B : Bl mg) (G__law_roll : Cal P w K mg base 1 "_law_roll" spRoll) : ∀ k, Cal P w K mg base k "_law_tree" (spLT K k) := by
  refine F.calRec (ps := ["dice", "deep", "names"]) (fun _ _ _ _ _ _ us hl => match us, hl with | [_, _, _], _ => rfl) (fun vs H Q E ⟨_, _, _, _, h, _⟩ => by omega) fun k G__law_tree => ?_
  refine F.ok sc__law_tree (fun vs H Q E h => ?_) (fun A outer s H vs Q E hr h => ?_)
  · obtain ⟨_, _, _, rfl, _⟩ := h; rfl
  obtain ⟨a, d, nm, rfl, hk, hnm, hdi, q⟩ := h
  refine ⟨_, (pss_cons (ps_set (i := 3) sc__law_tree.nd rfl (by first | exact Or.inl rfl | exact Or.inr rfl) (C8.pe_c G__law_roll hr (by omega) (by rfl) (pa_cons (pv 0) (pa_cons pe_int pa_nil))))
    (pss_cons (ps_if (PW.pt (pw_or (pt_cmpR op_eq (pv 1) pe_int (nomark _)) (pw_or1 (pt_cmpR op_lt (pv 3) pe_int (nomark _))))) (pss_one (ps_ret (pe_ifExp (PW.pt (pw_or (pt_cmpR op_eq (pv 2) pe_str (nomark _)) (pw_or1 (pt_cmpR op_eq (C8.pe_c G__law_roll hr (by omega) (by rfl) (pa_cons (pv 0) (pa_cons pe_int pa_nil))) pe_int (nomark _))))) (pe_ix ix_lstF (pe_lstF (pa_cons (pe_tupK K (pa_cons pe_str pa_nil)) (pa_cons (pe_tupK K (pa_cons pe_str pa_nil)) pa_nil))) (C8.pe_c G__law_roll hr (by omega) (by rfl) (pa_cons (pv 0) (pa_cons pe_int pa_nil))) (fun _ _ => rfl)) (pe_tupK K (pa_cons pe_str (pa_cons (pe_ix ix_str (pv 2) (C8.pe_c G__law_roll hr (by omega) (by rfl) (pa_cons (pv 0) (pa_cons (pe_callB call_len_str (by rfl) B.b_len (by decide +kernel) (pa_cons (pv 2) pa_nil)) pa_nil))) (fun _ _ => rfl)) pa_nil)))))) pss_nil)
    (pss_cons (ps_if (pt_cmpR op_eq (pv 3) pe_int (nomark _)) (pss_one (ps_ret (pe_tupK K (pa_cons pe_str (pa_cons (C8.pe_c G__law_tree hr (by omega) (by rfl) (pa_cons (pv 0) (pa_cons (pe_op op_sub (pv 1) pe_int) (pa_cons (pv 2) pa_nil)))) pa_nil))))) pss_nil)
    (pss_one (ps_ret (pe_tupK K (pa_cons pe_str (pa_cons (C8.pe_c G__law_tree hr (by omega) (by rfl) (pa_cons (pv 0) (pa_cons (pe_op op_sub (pv 1) pe_int) (pa_cons (pv 2) pa_nil)))) (pa_cons (C8.pe_c G__law_tree hr (by omega) (by rfl) (pa_cons (pv 0) (pa_cons (pe_op op_sub (pv 1) pe_int) (pa_cons (pv 2) pa_nil)))) pa_nil))))))))), ?_⟩
  have dext : ∀ {H1 H2 : Hp}, DiceAt H1 a → Ext [] H1 H2 → DiceAt H2 a := fun ⟨x, y, z, h⟩ e => ⟨x, y, z, e.lst0 h⟩
  have pick : ∀ (H1 : Hp), Ext [a] H H1 → DiceAt H1 a → (1 ≤ sizeLine ∧ ∀ (p : Addr) (H2 : Hp), Ext [] H1 H2 → tupF K H2 p = some [V.str (Str.ofString "a")] → 1 ≤ sizeLine ∧ ∀ (p_1 : Addr) (H2_1 : Hp), Ext [] H2 H2_1 → tupF K H2_1 p_1 = some [V.str (Str.ofString "b")] →
      2 ≤ sizeLine ∧ ∀ (p_2 : Addr) (H2 : Hp), H2_1 p_2 = none → Ext [] H2_1 H2 → H2 p_2 = some (HO.lst [V.ref p, V.ref p_1]) → spRoll [V.ref a, V.int 2] H2 (fun y H2 => ∃ x x_1, y = V.int x_1 ∧ H2 p_2 = some (HO.lst x) ∧ ∃ x_2, atI x x_1 = some x_2 ∧ Q x_2 H2) C8.E0) := fun H1 e1 hd1 => by
    refine ⟨by decide, fun p1 H2 e2 h2 => ⟨by decide, fun p2 H3 e3 h3 => ⟨by decide, fun p3 H4 n4 e4 h4 => ⟨a, 2, rfl, dext (dext (dext hd1 e2) e3) e4, by decide, by decide, fun r2 H5 r20 r21 e5 hd5 => ⟨_, r2, rfl, e5.lst h4 ?_, ?_⟩⟩⟩⟩⟩
    · intro hm
      have : p3 = a := by simpa using hm
      obtain ⟨x, y, z, hx⟩ := dext (dext hd1 e2) e3
      rw [this, hx] at n4
      cases n4
    · have eAll : Ext [a] H H5 := ((e1.trans (e2.trans (e3.trans e4)).any)).trans e5
      by_cases h0 : r2 = 0
      · subst h0
        exact ⟨_, atI_0, q _ .a _ eAll hd5 (.tup (tupF_ext e5 (tupF_ext (e3.trans e4) h2)) (.cons (.str _) .nil)) (Nat.le_add_left _ _) (fun x hx => by cases hx)⟩
      · have h1 : r2 = 1 := by omega
        subst h1
        exact ⟨_, atI_1, q _ .b _ eAll hd5 (.tup (tupF_ext e5 (tupF_ext e4 h3)) (.cons (.str _) .nil)) (Nat.le_add_left _ _) (fun x hx => by cases hx)⟩
  have letter : ∀ (H1 : Hp), Ext [a] H H1 → DiceAt H1 a → nm = "xy" → (nm.length ≤ sizeLine ∧ spRoll [V.ref a, V.int ↑nm.length] H1 (fun y H2 => ∃ x, y = V.int x ∧ nm.length ≤ sizeLine ∧ ∃ x_1, atI nm.cps.toList x = some x_1 ∧ 2 ≤ sizeLine ∧
      ∀ (p : Addr) (H2_1 : Hp), Ext [] H2 H2_1 → tupF K H2_1 p = some [V.str (Str.ofString "v"), V.str { cps := #[x_1] }] → Q (V.ref p) H2_1) C8.E0) := fun H1 e1 hd1 hxy => by
    subst hxy
    have hl : Str.length "xy" = 2 := by decide
    rw [hl]
    refine ⟨by decide, a, 2, rfl, hd1, by decide, by decide, fun r2 H5 r20 r21 e5 hd5 => ⟨r2, rfl, by decide, ?_⟩⟩
    by_cases h0 : r2 = 0
    · subst h0
      exact ⟨_, (by rfl : atI (Str.cps "xy").toList 0 = some 120), by decide, fun p H6 e6 h6 => q _ (.v "x") _ ((e1.trans e5).trans e6.any) (dext hd5 e6) (.tup h6 (.cons (.str _) (.cons (.str _) .nil))) (Nat.le_add_left _ _) (fun x hx => ⟨rfl, .inl (by simpa [Tr.names] using hx)⟩)⟩
    · have h1 : r2 = 1 := by omega
      subst h1
      exact ⟨_, (by rfl : atI (Str.cps "xy").toList 1 = some 121), by decide, fun p H6 e6 h6 => q _ (.v "y") _ ((e1.trans e5).trans e6.any) (dext hd5 e6) (.tup h6 (.cons (.str _) (.cons (.str _) .nil))) (Nat.le_add_left _ _) (fun x hx => ⟨rfl, .inr (by simpa [Tr.names] using hx)⟩)⟩
  walk_at "rd"
  refine ⟨a, 6, rfl, hdi, by decide, by decide, fun r H1 r0 r1 e1 hd1 => ?_⟩
  dsimp only
  by_cases h0 : (d : Int) = 0
  · rw [if_pos h0]
    · by_cases hn : nm = ""
      · rw [if_pos hn]
        exact pick H1 e1 hd1
      · rw [if_neg hn]
        have hxy : nm = "xy" := hnm.resolve_right hn
        refine ⟨a, 2, rfl, hd1, by decide, by decide, fun r2 H2 r20 r21 e2 hd2 => ⟨rfl, ?_⟩⟩
        by_cases hr2 : r2 = 0
        · rw [if_pos (by rw [hr2])]
          exact pick H2 (e1.trans e2) hd2
        · rw [if_neg (fun z => hr2 (V.int.inj z))]
          exact letter H2 (e1.trans e2) hd2 hxy
  · rw [if_neg h0]
    refine ⟨r, rfl, ?_⟩
    by_cases h2 : r < 2
    · rw [if_pos h2]
      by_cases hn : nm = ""
      · rw [if_pos hn]
        exact pick H1 e1 hd1
      · rw [if_neg hn]
        have hxy : nm = "xy" := hnm.resolve_right hn
        refine ⟨a, 2, rfl, hd1, by decide, by decide, fun r2 H2 r20 r21 e2 hd2 => ⟨rfl, ?_⟩⟩
        by_cases hr2 : r2 = 0
        · rw [if_pos (by rw [hr2])]
          exact pick H2 (e1.trans e2) hd2
        · rw [if_neg (fun z => hr2 (V.int.inj z))]
          exact letter H2 (e1.trans e2) hd2 hxy
    · rw [if_neg h2]
      refine ⟨rfl, ?_⟩
      obtain ⟨d', rfl⟩ : ∃ d', d = d' + 1 := ⟨d - 1, by omega⟩
      have ed : (((d' + 1 : Nat) : Int) - 1) = (d' : Nat) := by omega
      rw [ed]
      by_cases h3 : V.int r = V.int 2
      · rw [if_pos h3]
        refine ⟨a, d', nm, rfl, by omega, hnm, hd1, fun v' t H2 e2 hd2 ht htd hns => ⟨by decide, fun p H3 e3 h3 => q _ (.i t) _ ((e1.trans e2).trans e3.any) (dext hd2 e3) (.tup h3 (.cons (.str _) (.cons (ht.ext e3) .nil))) (by simp only [Tr.dep]; omega) hns⟩⟩
      · rw [if_neg h3]
        refine ⟨a, d', nm, rfl, by omega, hnm, hd1, fun v1 t1 H2 e2 hd2 ht1 htd1 hns1 => ⟨a, d', nm, rfl, by omega, hnm, hd2, fun v2 t2 H3 e3 hd3 ht2 htd2 hns2 => ⟨by decide, fun p H4 e4 h4 => q _ (.m t1 t2) _ (((e1.trans e2).trans e3).trans e4.any) (dext hd3 e4) (.tup h4 (.cons (.str _) (.cons ((ht1.ext e3).ext e4) (.cons (ht2.ext e4) .nil)))) (by simp only [Tr.dep]; omega) fun x hx => ?_⟩⟩⟩
        rcases List.mem_append.mp hx with z | z
        · exact hns1 x z
        · exact hns2 x z
end
end Sq
set_option Elab.async false
set_option linter.all false
set_option maxRecDepth 100000
set_option maxHeartbeats 4000000
namespace Sq
open PySem PySem.Spec PyProof.Rows L2 RZ
local macro_rules | `(tactic| walk_at "rd") => `(tactic| simp only [tCont, tDisp, tPairs, rIndexS, wipe, tNoPart, tDG2, tDGF, tDInF, tDNInF, sDPutF, tDNewF, rSortD, rInS, rInT, rEqLF, tDcF, tDc2F, tLcF, tForF, tAllF, tAnyF, tSumF, iEnumF, iZipF, iKeysF, iItems, tLZip, tYes, tSeq, tIfS, tNext, tRet, tRetN, tDrop, tTest, tB, tNot, tAnd, tOr, tChain, tOp, tUn, tCB, tCons, tNil, tC, tVar, tIf, tAndV, tOrV, tNotV, tAsg, tPar, tPar3, gName, gSub, gTupF, gCons, gNil, tTupF, tLstF, rI0, rI, rIxF, rIxG, rIxS, rSetF, rSlF, rCatF, rCatL, rTupL, rListT, rListL, rLenT, rLenL, iTupF, iLstF, rAppF, rExtF, rPopF, tBM, tBM0, tSl, tPart, rEq, rNe, tCall, L2.start,
  List.map_cons, List.map_nil, List.length_cons, List.length_nil, Nat.sub_self, List.replicate, List.append_nil, List.cons_append, List.nil_append, List.getElem?_cons_zero, List.getElem?_cons_succ, List.set_cons_zero, List.set_cons_succ,
  exSl, exI, exI2, exB, exS, exR, ex1, ex1', V.int.injEq, V.bl.injEq, V.ref.injEq, V.str.injEq, Option.some.injEq, List.cons.injEq, and_true, true_and, reduceCtorEq, false_and, and_false, or_false, false_or, exists_false, exists_and_left, exists_eq_left', decide_eq_true_eq, decide_true, decide_false, if_false, if_true, ite_true, ite_false, Bool.false_eq_true, Bool.not_true, Bool.not_false, Nat.reduceAdd, Nat.reduceSub, Nat.zero_add, atI_0, atI_1, atI_2, atI_3, ixN_0, ixN_1, ixN_2, cutV_1, cutV_2, Option.some.injEq, HO.lst.injEq, HO.dK.injEq, scal])
local macro_rules | `(tactic| walk_at "rdc") => `(tactic| simp (config := { contextual := true }) only [tCont, tDisp, tPairs, rIndexS, wipe, tNoPart, tDG2, tDGF, tDInF, tDNInF, sDPutF, tDNewF, rSortD, rInS, rInT, rEqLF, tDcF, tDc2F, tLcF, tForF, tAllF, tAnyF, tSumF, iEnumF, iZipF, iKeysF, iItems, tLZip, tYes, tSeq, tIfS, tNext, tRet, tRetN, tDrop, tTest, tB, tNot, tAnd, tOr, tChain, tOp, tUn, tCB, tCons, tNil, tC, tVar, tIf, tAndV, tOrV, tNotV, tAsg, tPar, tPar3, gName, gSub, gTupF, gCons, gNil, tTupF, tLstF, rI0, rI, rIxF, rIxG, rIxS, rSetF, rSlF, rCatF, rCatL, rTupL, rListT, rListL, rLenT, rLenL, iTupF, iLstF, rAppF, rExtF, rPopF, tBM, tBM0, tSl, tPart, rEq, rNe, tCall, L2.start,
  List.map_cons, List.map_nil, List.length_cons, List.length_nil, Nat.sub_self, List.replicate, List.append_nil, List.cons_append, List.nil_append, List.getElem?_cons_zero, List.getElem?_cons_succ, List.set_cons_zero, List.set_cons_succ,
  exSl, exI, exI2, exB, exS, exR, ex1, ex1', V.int.injEq, V.bl.injEq, V.ref.injEq, V.str.injEq, Option.some.injEq, List.cons.injEq, and_true, true_and, reduceCtorEq, false_and, and_false, or_false, false_or, exists_false, exists_and_left, exists_eq_left', decide_eq_true_eq, decide_true, decide_false, if_false, if_true, ite_true, ite_false, Bool.false_eq_true, Bool.not_true, Bool.not_false, Nat.reduceAdd, Nat.reduceSub, Nat.zero_add, atI_0, atI_1, atI_2, atI_3, ixN_0, ixN_1, ixN_2, cutV_1, cutV_2, Option.some.injEq, HO.lst.injEq, HO.dK.injEq, scal, *])
namespace Tr
/-- names marked -/
def ren (mk : Str) (t : Tr) : Tr := t.fill fun n => some (.v (n ++ mk))
end Tr
def renL (mk : Str) (ks : List Str) : List (Str × Tr) := ks.map fun n => (n, Tr.v (n ++ mk))
theorem lk_renL (mk x : Str) : ∀ ks : List Str, lk (renL mk ks) x = if x ∈ ks then some (Tr.v (x ++ mk)) else none
  | [] => rfl
  | y :: ks => by
    have ih := lk_renL mk x ks
    show (if y = x then some (Tr.v (y ++ mk)) else lk (renL mk ks) x) = _
    by_cases e : y = x
    · subst e; simp
    · have e' : ¬ x = y := fun z => e z.symm
      simp [e, e', ih]
theorem putL_renL (mk x : Str) (ks : List Str) : putL (renL mk ks) x (Tr.v (x ++ mk)) = renL mk (addK ks x) := by
  unfold putL addK
  rw [lk_renL]
  by_cases h : x ∈ ks
  · simp only [if_pos h, Option.isSome_some, if_true]
    unfold renL
    rw [List.map_map]
    refine List.map_congr_left fun y _ => ?_
    simp only [Function.comp]
    split <;> simp_all
  · simp only [if_neg h, Option.isSome_none, Bool.false_eq_true, if_false]
    unfold renL
    rw [List.map_append]; rfl
theorem Tr.fill_congr {s s' : Str → Option Tr} : ∀ {t : Tr}, (∀ x ∈ t.names, (s x).getD (.v x) = (s' x).getD (.v x)) → t.fill s = t.fill s'
  | v x, h => h x (by simp [names])
  | a, _ => rfl
  | b, _ => rfl
  | i t, h => congrArg i (fill_congr (t := t) h)
  | m t u, h => by
    show m _ _ = m _ _
    rw [fill_congr (t := t) fun x hx => h x (List.mem_append_left _ hx), fill_congr (t := u) fun x hx => h x (List.mem_append_right _ hx)]
section
variable {P : Program} {w : World} {K : PySem.W.Frag} {mg : Str → Option Value} {base : Heap} {f c tb tw : Addr} {fd : FuncData} {NS : List Str}
abbrev s_apart : Stmt := top 11
abbrev n_apart : List Str := ["rule", "mark", "table", "tree", "name"]
theorem sc_apart : FnScope n_apart ["rule", "mark"] (defScope s_apart) := ⟨rfl, rfl, rfl, by decide +kernel, rfl, by decide +kernel, by decide +kernel⟩
def spApart (K : PySem.W.Frag) (NS : List Str) (k : Nat) : Sp := fun vs H Q _ => ∃ (v : V) (mk : Str) (l r : Tr), vs = [v, .str mk] ∧ Td K H v (.tuple [l.data, r.data]) ∧ l.dep ≤ k ∧ r.dep ≤ k ∧ (∀ x ∈ l.names, x ∈ NS ∧ x.length ≤ 5) ∧ (∀ x ∈ r.names, x ∈ NS ∧ x.length ≤ 5) ∧ mk.length ≤ 5 ∧
  ∀ (v' : V) (H' : Hp), Ext [] H H' → Td K H' v' (.tuple [(l.ren mk).data, (r.ren mk).data]) → Q v' H'
theorem ok_apart {L : Nat} (F : Dn K mg "apart" s_apart f fd c) (hN : NsOk NS) (G_holes : Cal P w K mg base L "holes" (spHoles K NS L)) (G_filled : Cal P w K mg base L "filled" (spFill K L)) : Cal P w K mg base (L + 1) "apart" (spApart K NS L) := by
  refine F.cal (ps := ["rule", "mark"]) (fun _ _ _ _ _ _ us hl => match us, hl with | [_, _], _ => rfl) sc_apart (fun vs H Q E h => ?_) (fun A outer s H vs Q E hr h => ?_)
  · obtain ⟨_, _, _, _, rfl, _⟩ := h; rfl
  obtain ⟨v, mk, l, r, rfl, hv, hdl, hdr, hl, hr2, hmk, q⟩ := h
  refine ⟨_, (pss_cons (ps_setDc2F (i := 2) (own := [("tree", 3), ("name", 4)]) (vs1 := [4]) rfl sc_apart.nd rfl rfl (sw_trueD rfl rfl rfl (by decide +kernel)) (pi_tupK K (pv 0)) (blkOk_by (own := [("tree", 3), ("name", 4)]) (N := n_apart) (sc := defScope s_apart) (by decide +kernel)) (by decide) (fun _ _ _ _ _ => (pg_name (i := 3) sc_apart.nd rfl (by first | exact Or.inl rfl | exact Or.inr rfl))) (fun _ _ _ _ _ => pts_nil) (fun _ _ _ _ _ => (pi_tupK K (C8.pe_c G_holes hr (by omega) (by rfl) (pa_cons (pv 3) pa_nil)))) (fun _ _ _ _ _ => (pg_name (i := 4) sc_apart.nd rfl (by first | exact Or.inl rfl | exact Or.inr rfl))) (fun _ _ _ _ _ => pts_nil) (fun _ _ _ _ _ => (pv 4)) (fun _ _ _ _ _ => (pe_tupK K (pa_cons pe_str (pa_cons (pe_op op_add_str (pv 4) (pv 1)) pa_nil)))))
    (pss_one (ps_ret (pe_tupK K (pa_cons (C8.pe_c G_filled hr (by omega) (by rfl) (pa_cons (pe_ix (ix_tupK K) (pv 0) pe_int (fun _ _ => rfl)) (pa_cons (pv 2) pa_nil))) (pa_cons (C8.pe_c G_filled hr (by omega) (by rfl) (pa_cons (pe_ix (ix_tupK K) (pv 0) pe_int (fun _ _ => rfl)) (pa_cons (pv 2) pa_nil))) pa_nil)))))), ?_⟩
  cases hv with
  | tup hp hall =>
    rename_i ap ps
    walk_at "rd"
    refine ⟨_, hp, ?_⟩
    have hlen : ps.length = 2 := hall.length
    have hmem : ∀ (j : Nat) (x : V), ps[j]? = some x → ∃ t : Tr, [l, r][j]? = some t ∧ Td K H x t.data ∧ t.dep ≤ L ∧ ∀ x ∈ t.names, x ∈ NS ∧ x.length ≤ 5 := fun j x h => by
      obtain ⟨d, h1, h2⟩ := hall.get h
      match j, h1 with
      | 0, h1 => cases h1; exact ⟨l, rfl, h2, hdl, hl⟩
      | 1, h1 => cases h1; exact ⟨r, rfl, h2, hdr, hr2⟩
    refine dc2_go walk_tup (fun D i H' => ∃ ks kvs, H' D = some (.dK kvs) ∧ TabK K H' kvs (renL mk ks) ∧ ks.Nodup ∧ (∀ x ∈ ks, x ∈ NS) ∧ Ext [] H H' ∧ ∀ j t x, j < i → [l, r][j]? = some t → x ∈ t.names → x ∈ ks) (fun D hD => ⟨[], [], upd_same, .nil, List.nodup_nil, fun x hx => (by cases hx), Ext.new hD, fun j t x h => absurd h (Nat.not_lt_zero _)⟩)
      (fun D i H' ⟨_, _, _, _, _, _, e, _⟩ => tupF_sq (tupF_ext e hp)) (fun D i x H' H'' hD hi ⟨ks, kvs, hk, htk, nd, sub, e, mem⟩ y => ?_) fun D H' hD ⟨ks, kvs, hk, htk, nd, sub, e, mem⟩ => ?_
    · obtain ⟨rfl, hx⟩ := y
      obtain ⟨t, ht, htd, htdep, htn⟩ := hmem i x hx
      walk_at "rd"
      refine ⟨x, t, rfl, htd.ext e, htdep, fun y hy => (htn y hy).1, fun p2 ns H3 e3 h3 hns3 => ⟨p2, rfl, _, h3, ?_⟩⟩
      refine dc2_in walk_tup (fun j H' => ∃ ks kvs, H' D = some (.dK kvs) ∧ TabK K H' kvs (renL mk ks) ∧ ks.Nodup ∧ (∀ x ∈ ks, x ∈ NS) ∧ Ext [] H H' ∧ tupF K H' p2 = some (ns.map V.str) ∧ (∀ j t x, j < i → [l, r][j]? = some t → x ∈ t.names → x ∈ ks) ∧ ∀ m n, m < j → ns[m]? = some n → n ∈ ks)
        ⟨ks, kvs, e3.dK0 hk, htk.ext e3, nd, sub, e.trans e3, h3, mem, fun m n h => absurd h (Nat.not_lt_zero _)⟩ (fun j H' ⟨_, _, _, _, _, _, _, h, _⟩ => tupF_sq h) (fun j z H4 H5 hj ⟨ks, kvs, hk, htk, nd, sub, e, h, mem, mem2⟩ y => ?_) fun H4 ⟨ks, kvs, hk, htk, nd, sub, e, h, mem, mem2⟩ => ⟨ks, kvs, hk, htk, nd, sub, e, fun j t' x hj ht' hx' => ?_⟩
      · obtain ⟨rfl, hz⟩ := y
        rw [List.getElem?_map] at hz
        cases hn : ns[j]? with
        | none => rw [hn] at hz; cases hz
        | some n =>
          rw [hn] at hz
          cases hz
          walk_at "rd"
          have hnt : n ∈ t.names := (hns3 n).mp (List.mem_of_getElem? hn)
          have hn5 := (htn n hnt).2
          have hs1 : (100 : Nat) < sizeLine := by decide
          have hlk : kvs.length ≤ 64 := by
            have h1 := htk.length
            have h2 := nodup_sub nd sub
            have h3 := hN.few
            unfold renL at h1
            rw [List.length_map] at h1
            omega
          refine ⟨by omega, by decide, fun p3 H6 e6 h6 => ⟨kvs, .inr n, rfl, e6.dK0 hk, by omega, addK ks n, _, upd_same, ?_, nodup_addK nd, fun y hy => ?_, (e.trans e6).over hD (Ext.setD List.mem_cons_self (e6.dK0 hk)), ?_, fun j' t' x' a b c => mem_addK.mpr (.inl (mem j' t' x' a b c)), fun m n' a b => ?_⟩⟩
          · have eS : Ext [D] H6 (upd H6 D (.dK (putK kvs (.inr n) (.ref p3)))) := Ext.setD List.mem_cons_self (e6.dK0 hk)
            rw [← putL_renL]
            refine ((htk.ext e6).put (t := Tr.v (n ++ mk)) ?_).ext eS
            exact .tup h6 (.cons (.str _) (.cons (.str _) .nil))
          · rcases mem_addK.mp hy with z | z
            · exact sub y z
            · rw [z]; exact (htn n hnt).1
          · have eS : Ext [D] H6 (upd H6 D (.dK (putK kvs (.inr n) (.ref p3)))) := Ext.setD List.mem_cons_self (e6.dK0 hk)
            exact tupF_ext eS (tupF_ext e6 h)
          · refine mem_addK.mpr ?_
            by_cases z : m = j
            · subst z; rw [hn] at b; exact .inr (Option.some.inj b).symm
            · exact .inl (mem2 m n' (by omega) b)
      · by_cases q : j = i
        · subst q
          rw [ht] at ht'
          cases ht'
          obtain ⟨m, hm, h4⟩ := List.mem_iff_getElem.mp ((hns3 x).mpr hx')
          exact mem2 m x (by rw [List.length_map]; exact hm) (by rw [List.getElem?_eq_getElem hm, h4])
        · exact mem j t' x (by omega) ht' hx'
    · have hT : TabA K H' D (renL mk ks) := ⟨kvs, dctF_dK hk, htk⟩
      have hren : ∀ (j : Nat) (t : Tr), [l, r][j]? = some t → t.fill (lk (renL mk ks)) = t.ren mk := fun j t ht => Tr.fill_congr fun x hx => by
        have hj : j < ps.length := by have := (List.getElem?_eq_some_iff.mp ht).1; simp at this; omega
        rw [lk_renL, if_pos (mem j t x hj ht hx)]
      obtain ⟨x0, hx0⟩ : ∃ x0, ps[0]? = some x0 := ⟨_, List.getElem?_eq_getElem (by omega)⟩
      obtain ⟨x1, hx1⟩ : ∃ x1, ps[1]? = some x1 := ⟨_, List.getElem?_eq_getElem (by omega)⟩
      obtain ⟨_, e0, h0, _⟩ := hmem 0 x0 hx0
      cases e0
      obtain ⟨_, e1, h1, _⟩ := hmem 1 x1 hx1
      cases e1
      have a0 : atI ps 0 = some x0 := (at_ix (k := 0) (by omega)).trans hx0
      have a1 : atI ps 1 = some x1 := (at_ix (k := 1) (by omega)).trans hx1
      refine ⟨_, tupF_ext e hp, x0, a0, x0, l, D, _, rfl, h0.ext e, hdl, hT, fun v1 H1 e1 h1' => ⟨_, tupF_ext e1 (tupF_ext e hp), x1, a1, x1, r, D, _, rfl, (h1.ext e).ext e1, hdr, hT.ext0 e1, fun v2 H2 e2 h2' => ⟨by decide, fun p H3 e3 h3 => q _ _ (((e.trans e1).trans e2).trans e3) ?_⟩⟩⟩
      rw [hren 0 l rfl] at h1'
      rw [hren 1 r rfl] at h2'
      exact .tup h3 (.cons ((h1'.ext e2).ext e3) (.cons (h2'.ext e3) .nil))
end
end Sq
set_option Elab.async false
set_option linter.all false
set_option maxRecDepth 100000
set_option maxHeartbeats 2000000
namespace Sq
open PySem PySem.Spec PyProof.Rows L2
/-! ### made one: what the steps do, that they end, that nothing grows too deep -/
namespace Tr
def sz : Tr → Nat
  | v _ => 1
  | a => 1
  | b => 1
  | i t => t.sz + 1
  | m t u => t.sz + u.sz + 1
theorem sz_pos : ∀ t : Tr, 1 ≤ t.sz := fun t => by cases t <;> simp [sz]
theorem dep_fill_ge (s : Str → Option Tr) : ∀ t : Tr, t.dep ≤ (t.fill s).dep
  | v x => dep_pos _
  | a => Nat.le_refl _
  | b => Nat.le_refl _
  | i t => Nat.succ_le_succ (dep_fill_ge s t)
  | m t u => by
    have h1 := dep_fill_ge s t
    have h2 := dep_fill_ge s u
    simp only [fill, dep]; omega
theorem dep_fill_le {s : Str → Option Tr} {B : Nat} (hB : 1 ≤ B) : ∀ {t : Tr}, (∀ x u, x ∈ t.names → s x = some u → u.dep ≤ B) → (t.fill s).dep + 1 ≤ t.dep + B
  | v x, h => by
    simp only [fill, dep]
    cases e : s x with
    | none => simp [dep]; omega
    | some u => have := h x u (by simp [names]) e; simp; omega
  | a, _ => by simp only [fill, dep]; omega
  | b, _ => by simp only [fill, dep]; omega
  | i t, h => by have := dep_fill_le hB (t := t) h; simp only [fill, dep]; omega
  | m t u, h => by
    have h1 := dep_fill_le hB (t := t) fun x w hx => h x w (List.mem_append_left _ hx)
    have h2 := dep_fill_le hB (t := u) fun x w hx => h x w (List.mem_append_right _ hx)
    simp only [fill, dep]; omega
theorem names_fill {s : Str → Option Tr} {x : Str} : ∀ {t : Tr}, x ∈ (t.fill s).names ↔ ∃ y ∈ t.names, x ∈ ((s y).getD (v y)).names
  | v y => by simp [fill, names]
  | a => by simp [fill, names]
  | b => by simp [fill, names]
  | i t => names_fill (t := t)
  | m t u => by
    have h1 := names_fill (s := s) (x := x) (t := t)
    have h2 := names_fill (s := s) (x := x) (t := u)
    simp only [fill, names, List.mem_append, h1, h2]
    constructor
    · rintro (⟨y, a, b⟩ | ⟨y, a, b⟩)
      · exact ⟨y, .inl a, b⟩
      · exact ⟨y, .inr a, b⟩
    · rintro ⟨y, a | a, b⟩
      · exact .inl ⟨y, a, b⟩
      · exact .inr ⟨y, a, b⟩
theorem fill_fill (s1 s2 : Str → Option Tr) : ∀ t : Tr, (t.fill s1).fill s2 = t.fill fun y => some (((s1 y).getD (v y)).fill s2)
  | v x => rfl
  | a => rfl
  | b => rfl
  | i t => congrArg i (fill_fill s1 s2 t)
  | m t u => by show m _ _ = m _ _; rw [fill_fill s1 s2 t, fill_fill s1 s2 u]
theorem fill_id {s : Str → Option Tr} : ∀ {t : Tr}, (∀ x ∈ t.names, s x = none) → t.fill s = t
  | v x, h => by simp [fill, h x (by simp [names])]
  | a, _ => rfl
  | b, _ => rfl
  | i t, h => congrArg i (fill_id (t := t) h)
  | m t u, h => by
    show m _ _ = m _ _
    rw [fill_id (t := t) fun x hx => h x (List.mem_append_left _ hx), fill_id (t := u) fun x hx => h x (List.mem_append_right _ hx)]
/-- a name within a tree that is not the name is smaller, whatever is put in -/
theorem sz_in {s : Str → Option Tr} {x : Str} : ∀ {t : Tr}, x ∈ t.names → t ≠ v x → ((v x).fill s).sz < (t.fill s).sz
  | v y, h, n => by
    have e : x = y := by simpa [names] using h
    exact absurd (by rw [e]) n
  | i t, h, _ => by
    by_cases e : t = v x
    · subst e; exact Nat.lt_succ_self _
    · exact Nat.lt_succ_of_lt (sz_in (t := t) h e)
  | m t u, h, _ => by
    rcases List.mem_append.mp h with h | h
    · have : ((v x).fill s).sz ≤ (t.fill s).sz := by
        by_cases e : t = v x
        · subst e; exact Nat.le_refl _
        · exact Nat.le_of_lt (sz_in (t := t) h e)
      simp only [fill, sz] at this ⊢; omega
    · have : ((v x).fill s).sz ≤ (u.fill s).sz := by
        by_cases e : u = v x
        · subst e; exact Nat.le_refl _
        · exact Nat.le_of_lt (sz_in (t := u) h e)
      simp only [fill, sz] at this ⊢; omega
end Tr
abbrev Tab := List (Str × Tr)
theorem lk_map (g : Tr → Tr) (n : Str) : ∀ l : Tab, lk (l.map fun p => (p.1, g p.2)) n = (lk l n).map g
  | [] => rfl
  | (k, t) :: l => by
    show (if k = n then some (g t) else lk (l.map _) n) = (if k = n then some t else lk l n).map g
    by_cases e : k = n
    · simp [e]
    · simp only [if_neg e]; exact lk_map g n l
theorem lk_mem {l : Tab} {n : Str} {t : Tr} (h : lk l n = some t) : (n, t) ∈ l := by
  induction l with
  | nil => cases h
  | cons p l ih =>
    obtain ⟨k, u⟩ := p
    simp only [lk] at h
    split at h
    · rename_i e; cases h; subst e; exact List.mem_cons_self
    · exact List.mem_cons_of_mem _ (ih h)
theorem lk_none {l : Tab} {n : Str} : lk l n = none ↔ n ∉ l.map (·.1) := by
  induction l with
  | nil => simp [lk]
  | cons p l ih =>
    obtain ⟨k, u⟩ := p
    simp only [lk, List.map_cons, List.mem_cons, not_or]
    by_cases e : k = n
    · simp [e]
    · rw [if_neg e, ih]
      exact ⟨fun h => ⟨fun z => e z.symm, h⟩, fun h => h.2⟩
theorem lk_snoc {l : Tab} {n : Str} {t : Tr} (h : lk l n = none) (x : Str) : lk (l ++ [(n, t)]) x = if x = n then some t else lk l x := by
  induction l with
  | nil =>
    by_cases e : x = n
    · subst e; simp [lk]
    · have : ¬ n = x := fun z => e z.symm
      simp [lk, e, this]
  | cons p l ih =>
    obtain ⟨k, u⟩ := p
    simp only [lk] at h
    split at h
    · cases h
    · rename_i hk
      have ih := ih h
      simp only [List.cons_append, lk]
      by_cases e : k = x
      · have : ¬ x = n := fun z => hk (e.trans z)
        simp [e, this]
      · simp only [if_neg e]; exact ih
/-- one name's tree -/
def one1 (x : Str) (o : Tr) : Str → Option Tr := lk [(x, o)]
def bindT (l : Tab) (x : Str) (o : Tr) : Tab := putL (l.map fun p => (p.1, p.2.fill (one1 x o))) x o
inductive Stp
  | out (r : Option Tab)
  | go (l : Tab) (rl : List (Tr × Tr))
/-- a pair that is unlike, the name ahead -/
def stepQ (l : Tab) (rest : List (Tr × Tr)) (p o : Tr) : Stp := match p with
  | .v x => if x ∈ o.names then .out none else .go (bindT l x o) rest
  | p => if p.hd ≠ o.hd then .out none else .go l ((p.args.zip o.args).reverse ++ rest)
def stepP (l : Tab) (rest : List (Tr × Tr)) (t u : Tr) : Stp :=
  if t = u then .go l rest else if t.isV = true then stepQ l rest t u else stepQ l rest u t
/-- one turn; the pairs still left, the last first -/
def stepU (l : Tab) : List (Tr × Tr) → Stp
  | [] => .out (some l)
  | (t, u) :: rest => stepP l rest (t.fill (lk l)) (u.fill (lk l))
def runU : Nat → Tab → List (Tr × Tr) → Option (Option Tab)
  | 0, _, _ => none
  | n + 1, l, rl => match stepU l rl with
    | .out r => some r
    | .go l rl => runU n l rl
def EB (k : Nat) : Nat := 3 * 2 ^ k + 1
theorem EB_succ (k : Nat) : EB (k + 1) + 1 = 2 * EB k := by unfold EB; rw [Nat.pow_succ]; omega
theorem EB_le {k : Nat} (h : k ≤ 4) : EB k ≤ 49 := by
  unfold EB
  have : 2 ^ k ≤ 2 ^ 4 := Nat.pow_le_pow_right (by omega) h
  omega
structure UI (NV : List Str) (l : Tab) (rl : List (Tr × Tr)) : Prop where
  nd : (l.map (·.1)).Nodup
  keys : ∀ n ∈ l.map (·.1), n ∈ NV
  vals : ∀ n t, (n, t) ∈ l → (∀ x ∈ t.names, x ∈ NV ∧ lk l x = none) ∧ t.dep ≤ EB l.length
  prs : ∀ t u, (t, u) ∈ rl → ((∀ x ∈ t.names, x ∈ NV) ∧ (t.fill (lk l)).dep ≤ EB l.length) ∧ (∀ x ∈ u.names, x ∈ NV) ∧ (u.fill (lk l)).dep ≤ EB l.length
theorem UI.fresh {NV : List Str} {l : Tab} {rl : List (Tr × Tr)} (h : UI NV l rl) {t : Tr} (ht : ∀ x ∈ t.names, x ∈ NV) : ∀ x ∈ (t.fill (lk l)).names, x ∈ NV ∧ lk l x = none := fun x hx => by
  obtain ⟨y, hy, hxy⟩ := Tr.names_fill.mp hx
  cases e : lk l y with
  | none =>
    rw [e] at hxy
    have : x = y := by simpa [Tr.names] using hxy
    subst this
    exact ⟨ht x hy, e⟩
  | some w =>
    rw [e] at hxy
    exact (h.vals y w (lk_mem e)).1 x hxy
theorem UI.len {NV : List Str} {l : Tab} {rl : List (Tr × Tr)} (h : UI NV l rl) : l.length ≤ NV.length := by
  have := nodup_sub h.nd h.keys
  rwa [List.length_map] at this
theorem one1_at {x y : Str} {o : Tr} : one1 x o y = if x = y then some o else none := rfl
theorem bindT_eq {l : Tab} {x : Str} {o : Tr} (h : lk l x = none) : bindT l x o = (l.map fun p => (p.1, p.2.fill (one1 x o))) ++ [(x, o)] := by
  unfold bindT putL
  rw [lk_map (fun t => t.fill (one1 x o)), h]
  rfl
theorem lk_bind {l : Tab} {x : Str} {o : Tr} (h : lk l x = none) (y : Str) : lk (bindT l x o) y = if y = x then some o else (lk l y).map (Tr.fill (one1 x o)) := by
  rw [bindT_eq h, lk_snoc (by rw [lk_map (fun t => t.fill (one1 x o)), h]; rfl), lk_map (fun t => t.fill (one1 x o))]
theorem fill_bind {l : Tab} {x : Str} {o : Tr} (h : lk l x = none) (t : Tr) : t.fill (lk (bindT l x o)) = (t.fill (lk l)).fill (one1 x o) := by
  rw [Tr.fill_fill]
  refine Tr.fill_congr fun y _ => ?_
  rw [lk_bind h]
  by_cases e : y = x
  · subst e
    rw [if_pos rfl, h]
    simp [Tr.fill, one1_at]
  · rw [if_neg e]
    cases lk l y with
    | none =>
      have : ¬ x = y := fun z => e z.symm
      simp [Tr.fill, one1_at, this]
    | some w => rfl
theorem dep_one {x : Str} {o t : Tr} : (t.fill (one1 x o)).dep + 1 ≤ t.dep + o.dep := Tr.dep_fill_le o.dep_pos fun y u _ h => by
  rw [one1_at] at h
  split at h
  · cases h; exact Nat.le_refl _
  · cases h
theorem UI.bind {NV : List Str} {l : Tab} {rl : List (Tr × Tr)} (h : UI NV l rl) {x : Str} {o : Tr} (hx : x ∈ NV) (hl : lk l x = none) (ho : ∀ y ∈ o.names, y ∈ NV ∧ lk l y = none) (hxo : x ∉ o.names) (hd : o.dep ≤ EB l.length) : UI NV (bindT l x o) rl := by
  have hlen : (bindT l x o).length = l.length + 1 := by rw [bindT_eq hl]; simp
  have hE := EB_succ l.length
  have mapfst : (bindT l x o).map (·.1) = l.map (·.1) ++ [x] := by
    rw [bindT_eq hl]
    simp
  have fresh : ∀ y, y ∈ NV → lk l y = none → y ≠ x → lk (bindT l x o) y = none := fun y _ h1 h2 => by rw [lk_bind hl, if_neg h2, h1]; rfl
  refine ⟨?_, fun n hn => ?_, fun n t hm => ?_, fun t u hm => ?_⟩
  · rw [mapfst]
    exact List.nodup_append.mpr ⟨h.nd, by simp, fun a ha b hb e => by
      have e' : b = x := by simpa using hb
      subst e' e
      exact (lk_none.mp hl) ha⟩
  · rw [mapfst] at hn
    rcases List.mem_append.mp hn with z | z
    · exact h.keys n z
    · have : n = x := by simpa using z
      rw [this]; exact hx
  · rw [hlen]
    rw [bindT_eq hl] at hm
    rcases List.mem_append.mp hm with z | z
    · obtain ⟨⟨n', w⟩, hw, e⟩ := List.mem_map.mp z
      cases e
      obtain ⟨h1, h2⟩ := h.vals n' w hw
      refine ⟨fun y hy => ?_, by have := dep_one (x := x) (o := o) (t := w); show (Tr.fill (one1 x o) w).dep ≤ _; omega⟩
      obtain ⟨z, hz, hyz⟩ := Tr.names_fill.mp hy
      rw [one1_at] at hyz
      by_cases e : x = z
      · rw [if_pos e] at hyz
        have hy' : y ∈ o.names := hyz
        obtain ⟨a, b⟩ := ho y hy'
        exact ⟨a, fresh y a b fun e => hxo (e ▸ hy')⟩
      · rw [if_neg e] at hyz
        have e2 : y = z := by simpa [Tr.names] using hyz
        subst e2
        obtain ⟨a, b⟩ := h1 y hz
        exact ⟨a, fresh y a b fun z => e z.symm⟩
    · have e : n = x ∧ t = o := by simpa using z
      obtain ⟨rfl, rfl⟩ := e
      exact ⟨fun y hy => let ⟨a, b⟩ := ho y hy; ⟨a, fresh y a b fun e => hxo (e ▸ hy)⟩, by omega⟩
  · obtain ⟨⟨a1, a2⟩, b1, b2⟩ := h.prs t u hm
    rw [hlen, fill_bind hl, fill_bind hl]
    exact ⟨⟨a1, by have := dep_one (x := x) (o := o) (t := t.fill (lk l)); omega⟩, b1, by have := dep_one (x := x) (o := o) (t := u.fill (lk l)); omega⟩
def szP (l : Tab) (rl : List (Tr × Tr)) : Nat := (rl.map fun p => (p.1.fill (lk l)).sz + (p.2.fill (lk l)).sz).sum
theorem UI.tail {NV : List Str} {l : Tab} {p : Tr × Tr} {rl : List (Tr × Tr)} (h : UI NV l (p :: rl)) : UI NV l rl := ⟨h.nd, h.keys, h.vals, fun t u hm => h.prs t u (List.mem_cons_of_mem _ hm)⟩
theorem Tr.args_sz : ∀ t : Tr, (t.args.map sz).sum < t.sz
  | v _ => Nat.zero_lt_one
  | a => Nat.zero_lt_one
  | b => Nat.zero_lt_one
  | i t => by simp [args, sz]
  | m t u => by simp [args, sz]
theorem zip_sz : ∀ ts us : List Tr, ((ts.zip us).map fun p => p.1.sz + p.2.sz).sum ≤ (ts.map Tr.sz).sum + (us.map Tr.sz).sum
  | [], _ => Nat.zero_le _
  | _ :: _, [] => Nat.zero_le _
  | t :: ts, u :: us => by
    have := zip_sz ts us
    simp only [List.zip_cons_cons, List.map_cons, List.sum_cons]
    omega
theorem UI.split {NV : List Str} {l : Tab} {rl : List (Tr × Tr)} (h : UI NV l rl) {p o : Tr} (hp : ∀ y ∈ p.names, y ∈ NV ∧ lk l y = none) (ho : ∀ y ∈ o.names, y ∈ NV ∧ lk l y = none) (dp : p.dep ≤ EB l.length) (dO : o.dep ≤ EB l.length) : UI NV l ((p.args.zip o.args).reverse ++ rl) := by
  refine ⟨h.nd, h.keys, h.vals, fun t u hm => ?_⟩
  rcases List.mem_append.mp hm with z | z
  · obtain ⟨a, b⟩ := List.of_mem_zip (List.mem_reverse.mp z)
    have ft : t.fill (lk l) = t := Tr.fill_id fun x hx => (hp x (Tr.names_arg a hx)).2
    have fu : u.fill (lk l) = u := Tr.fill_id fun x hx => (ho x (Tr.names_arg b hx)).2
    rw [ft, fu]
    have := Tr.dep_arg a
    have := Tr.dep_arg b
    exact ⟨⟨fun x hx => (hp x (Tr.names_arg a hx)).1, by omega⟩, fun x hx => (ho x (Tr.names_arg b hx)).1, by omega⟩
  · exact h.prs t u z
theorem split_sz {l : Tab} {p o : Tr} {rl : List (Tr × Tr)} (hp : ∀ y ∈ p.names, lk l y = none) (ho : ∀ y ∈ o.names, lk l y = none) : szP l ((p.args.zip o.args).reverse ++ rl) < p.sz + o.sz + szP l rl := by
  have e : ∀ q ∈ p.args.zip o.args, (q.1.fill (lk l)).sz + (q.2.fill (lk l)).sz = q.1.sz + q.2.sz := fun q hq => by
    obtain ⟨a, b⟩ := List.of_mem_zip hq
    rw [Tr.fill_id fun x hx => hp x (Tr.names_arg a hx), Tr.fill_id fun x hx => ho x (Tr.names_arg b hx)]
  unfold szP
  rw [List.map_append, List.sum_append, List.map_reverse, List.sum_reverse, List.map_congr_left e]
  have h1 := zip_sz p.args o.args
  have h2 := p.args_sz
  have h3 := o.args_sz
  omega
/-- one turn keeps what holds, and goes down -/
theorem step_ok {NV : List Str} {l : Tab} {rl : List (Tr × Tr)} (h : UI NV l rl) : match stepU l rl with
    | .out r => r = some l → rl = []
    | .go l' rl' => UI NV l' rl' ∧ (l'.length = l.length + 1 ∨ (l' = l ∧ szP l rl' < szP l rl)) := by
  cases rl with
  | nil => exact fun _ => rfl
  | cons pr rest =>
    obtain ⟨t, u⟩ := pr
    obtain ⟨⟨a1, a2⟩, b1, b2⟩ := h.prs t u List.mem_cons_self
    have ft := h.fresh a1
    have fu := h.fresh b1
    have hs : szP l ((t, u) :: rest) = (t.fill (lk l)).sz + (u.fill (lk l)).sz + szP l rest := by simp [szP]
    show match stepP l rest (t.fill (lk l)) (u.fill (lk l)) with
      | .out r => r = some l → (t, u) :: rest = []
      | .go l' rl' => UI NV l' rl' ∧ (l'.length = l.length + 1 ∨ (l' = l ∧ szP l rl' < szP l ((t, u) :: rest)))
    revert ft fu a2 b2 hs
    generalize t.fill (lk l) = t'
    generalize u.fill (lk l) = u'
    intro a2 b2 ft fu hs
    unfold stepP
    by_cases e : t' = u'
    · rw [if_pos e]
      refine ⟨h.tail, .inr ⟨rfl, ?_⟩⟩
      have := t'.sz_pos
      omega
    · rw [if_neg e]
      have key : ∀ p o : Tr, (∀ y ∈ p.names, y ∈ NV ∧ lk l y = none) → (∀ y ∈ o.names, y ∈ NV ∧ lk l y = none) → p.dep ≤ EB l.length → o.dep ≤ EB l.length → p.sz + o.sz + szP l rest = szP l ((t, u) :: rest) →
          (match stepQ l rest p o with
          | .out r => r = some l → (t, u) :: rest = []
          | .go l' rl' => UI NV l' rl' ∧ (l'.length = l.length + 1 ∨ (l' = l ∧ szP l rl' < szP l ((t, u) :: rest)))) := by
        intro p o hp ho dp dO hsz
        have nv : ∀ q : Tr, q = p → q.isV = false → (match (if q.hd ≠ o.hd then Stp.out none else .go l ((q.args.zip o.args).reverse ++ rest)) with
          | .out r => r = some l → (t, u) :: rest = []
          | .go l' rl' => UI NV l' rl' ∧ (l'.length = l.length + 1 ∨ (l' = l ∧ szP l rl' < szP l ((t, u) :: rest)))) := fun q eq hq => by
          subst eq
          by_cases z : q.hd = o.hd
          · rw [if_neg (by simp [z])]
            exact ⟨h.tail.split hp ho dp dO, .inr ⟨rfl, by have := split_sz (rl := rest) (fun y hy => (hp y hy).2) (fun y hy => (ho y hy).2); omega⟩⟩
          · rw [if_pos z]
            exact fun z => by cases z
        cases p with
        | v x =>
          obtain ⟨x1, x2⟩ := hp x (by simp [Tr.names])
          unfold stepQ
          by_cases z : x ∈ o.names
          · simp only [if_pos z]
            exact fun z => by cases z
          · simp only [if_neg z]
            exact ⟨h.tail.bind x1 x2 ho z dO, .inl (by rw [bindT_eq x2]; simp)⟩
        | a => exact nv _ rfl rfl
        | b => exact nv _ rfl rfl
        | i s => exact nv _ rfl rfl
        | m s r => exact nv _ rfl rfl
      by_cases hv : t'.isV = true
      · rw [if_pos hv]
        exact key t' u' ft fu a2 b2 hs.symm
      · rw [if_neg hv]
        exact key u' t' fu ft b2 a2 (by omega)
theorem run_ends {NV : List Str} (h4 : NV.length ≤ 4) : ∀ (f m : Nat) (l : Tab) (rl : List (Tr × Tr)), UI NV l rl → 4 - l.length ≤ f → szP l rl ≤ m → ∃ n r, runU n l rl = some r := by
  intro f
  induction f with
  | zero =>
    intro m
    induction m with
    | zero =>
      intro l rl h hf hm
      have hs := step_ok h
      cases e : stepU l rl with
      | out r => exact ⟨1, r, by simp [runU, e]⟩
      | go l' rl' =>
        rw [e] at hs
        obtain ⟨h', hd⟩ := hs
        have := h'.len
        have := h.len
        rcases hd with z | ⟨_, z⟩ <;> omega
    | succ m ih =>
      intro l rl h hf hm
      have hs := step_ok h
      cases e : stepU l rl with
      | out r => exact ⟨1, r, by simp [runU, e]⟩
      | go l' rl' =>
        rw [e] at hs
        obtain ⟨h', hd⟩ := hs
        have := h'.len
        have := h.len
        rcases hd with z | ⟨z1, z⟩
        · omega
        · subst z1
          obtain ⟨n, r, hr⟩ := ih l' rl' h' hf (by omega)
          exact ⟨n + 1, r, by simp [runU, e, hr]⟩
  | succ f ihf =>
    intro m
    induction m with
    | zero =>
      intro l rl h hf hm
      have hs := step_ok h
      cases e : stepU l rl with
      | out r => exact ⟨1, r, by simp [runU, e]⟩
      | go l' rl' =>
        rw [e] at hs
        obtain ⟨h', hd⟩ := hs
        rcases hd with z | ⟨_, z⟩
        · obtain ⟨n, r, hr⟩ := ihf _ l' rl' h' (by omega) (Nat.le_refl _)
          exact ⟨n + 1, r, by simp [runU, e, hr]⟩
        · omega
    | succ m ih =>
      intro l rl h hf hm
      have hs := step_ok h
      cases e : stepU l rl with
      | out r => exact ⟨1, r, by simp [runU, e]⟩
      | go l' rl' =>
        rw [e] at hs
        obtain ⟨h', hd⟩ := hs
        rcases hd with z | ⟨z1, z⟩
        · obtain ⟨n, r, hr⟩ := ihf _ l' rl' h' (by omega) (Nat.le_refl _)
          exact ⟨n + 1, r, by simp [runU, e, hr]⟩
        · subst z1
          obtain ⟨n, r, hr⟩ := ih l' rl' h' hf (by omega)
          exact ⟨n + 1, r, by simp [runU, e, hr]⟩
end Sq
set_option Elab.async false
set_option linter.all false
set_option maxRecDepth 100000
set_option maxHeartbeats 4000000
namespace Sq
open PySem PySem.Spec PyProof.Rows L2 RZ
local macro_rules | `(tactic| walk_at "rd") => `(tactic| simp only [tCont, tDisp, tPairs, rIndexS, wipe, tNoPart, tDG2, tDGF, tDInF, tDNInF, sDPutF, tDNewF, rSortD, rInS, rInT, rEqLF, tDcF, tDc2F, tLcF, tForF, tAllF, tAnyF, tSumF, iEnumF, iZipF, iKeysF, iItems, tLZip, tYes, tSeq, tIfS, tNext, tRet, tRetN, tDrop, tTest, tB, tNot, tAnd, tOr, tChain, tOp, tUn, tCB, tCons, tNil, tC, tVar, tIf, tAndV, tOrV, tNotV, tAsg, tPar, tPar3, gName, gSub, gTupF, gCons, gNil, tTupF, tLstF, rI0, rI, rIxF, rIxG, rIxS, rSetF, rSlF, rCatF, rCatL, rTupL, rListT, rListL, rLenT, rLenL, iTupF, iLstF, rAppF, rExtF, rPopF, tBM, tBM0, tSl, tPart, rEq, rNe, tCall, L2.start,
  List.map_cons, List.map_nil, List.length_cons, List.length_nil, Nat.sub_self, List.replicate, List.append_nil, List.cons_append, List.nil_append, List.getElem?_cons_zero, List.getElem?_cons_succ, List.set_cons_zero, List.set_cons_succ,
  exSl, exI, exI2, exB, exS, exR, ex1, ex1', V.int.injEq, V.bl.injEq, V.ref.injEq, V.str.injEq, Option.some.injEq, List.cons.injEq, and_true, true_and, reduceCtorEq, false_and, and_false, or_false, false_or, exists_false, exists_and_left, exists_eq_left', decide_eq_true_eq, decide_true, decide_false, if_false, if_true, ite_true, ite_false, Bool.false_eq_true, Bool.not_true, Bool.not_false, Nat.reduceAdd, Nat.reduceSub, Nat.zero_add, atI_0, atI_1, atI_2, atI_3, ixN_0, ixN_1, ixN_2, cutV_1, cutV_2, Option.some.injEq, HO.lst.injEq, HO.dK.injEq, scal])
local macro_rules | `(tactic| walk_at "rdc") => `(tactic| simp (config := { contextual := true }) only [tCont, tDisp, tPairs, rIndexS, wipe, tNoPart, tDG2, tDGF, tDInF, tDNInF, sDPutF, tDNewF, rSortD, rInS, rInT, rEqLF, tDcF, tDc2F, tLcF, tForF, tAllF, tAnyF, tSumF, iEnumF, iZipF, iKeysF, iItems, tLZip, tYes, tSeq, tIfS, tNext, tRet, tRetN, tDrop, tTest, tB, tNot, tAnd, tOr, tChain, tOp, tUn, tCB, tCons, tNil, tC, tVar, tIf, tAndV, tOrV, tNotV, tAsg, tPar, tPar3, gName, gSub, gTupF, gCons, gNil, tTupF, tLstF, rI0, rI, rIxF, rIxG, rIxS, rSetF, rSlF, rCatF, rCatL, rTupL, rListT, rListL, rLenT, rLenL, iTupF, iLstF, rAppF, rExtF, rPopF, tBM, tBM0, tSl, tPart, rEq, rNe, tCall, L2.start,
  List.map_cons, List.map_nil, List.length_cons, List.length_nil, Nat.sub_self, List.replicate, List.append_nil, List.cons_append, List.nil_append, List.getElem?_cons_zero, List.getElem?_cons_succ, List.set_cons_zero, List.set_cons_succ,
  exSl, exI, exI2, exB, exS, exR, ex1, ex1', V.int.injEq, V.bl.injEq, V.ref.injEq, V.str.injEq, Option.some.injEq, List.cons.injEq, and_true, true_and, reduceCtorEq, false_and, and_false, or_false, false_or, exists_false, exists_and_left, exists_eq_left', decide_eq_true_eq, decide_true, decide_false, if_false, if_true, ite_true, ite_false, Bool.false_eq_true, Bool.not_true, Bool.not_false, Nat.reduceAdd, Nat.reduceSub, Nat.zero_add, atI_0, atI_1, atI_2, atI_3, ixN_0, ixN_1, ixN_2, cutV_1, cutV_2, Option.some.injEq, HO.lst.injEq, HO.dK.injEq, scal, *])
section
variable {P : Program} {w : World} {K : PySem.W.Frag} {mg : Str → Option Value} {base : Heap} {f c tb tw : Addr} {fd : FuncData} {NS NV : List Str}
abbrev s_made_one : Stmt := top 3
abbrev n_made_one : List Str := ["one", "other", "table", "left", "name", "tree"]
theorem sc_made_one : FnScope n_made_one ["one", "other"] (defScope s_made_one) := ⟨rfl, rfl, rfl, by decide +kernel, rfl, by decide +kernel, by decide +kernel⟩
def pairD (p : Tr × Tr) : PyData := .tuple [p.1.data, p.2.data]
def spMade (K : PySem.W.Frag) (NV : List Str) : Sp := fun vs H Q _ => ∃ (v u : V) (s t : Tr), vs = [v, u] ∧ Td K H v s.data ∧ Td K H u t.data ∧ UI NV [] [(s, t)] ∧
  (∀ n, runU n [] [(s, t)] = some none → ∀ H', Ext [] H H' → Q .non H') ∧ ∀ n l, runU n [] [(s, t)] = some (some l) → UI NV l [] → ∀ (a : Addr) (H' : Hp), Ext [] H H' → TabA K H' a l → Q (.ref a) H'
/-- how many pairs are left at most -/
def SB : Nat → Nat
  | 0 => 1
  | k + 1 => SB k + EB k
def Stair (l : Tab) (D : Nat) : List (Tr × Tr) → Prop
  | [] => True
  | p :: A => ((p.1.fill (lk l)).dep + A.length ≤ D ∧ (p.2.fill (lk l)).dep + A.length ≤ D) ∧ Stair l D A
def LenI (l : Tab) (rl : List (Tr × Tr)) : Prop := ∃ A B, rl = A ++ B ∧ B.length ≤ SB l.length ∧ Stair l (EB l.length) A
theorem Stair.len {l : Tab} {D : Nat} : ∀ {A : List (Tr × Tr)}, Stair l D A → A.length ≤ D
  | [], _ => Nat.zero_le _
  | p :: A, ⟨⟨h, _⟩, _⟩ => by have := (p.1.fill (lk l)).dep_pos; rw [List.length_cons]; omega
theorem LenI.le {l : Tab} {rl : List (Tr × Tr)} (h : LenI l rl) (hl : l.length ≤ 4) : rl.length ≤ 200 := by
  obtain ⟨A, B, rfl, h1, h2⟩ := h
  have h3 := h2.len
  have h4 := EB_le hl
  have h5 : SB l.length ≤ SB 4 := by
    match l.length, hl with
    | 0, _ => decide
    | 1, _ => decide
    | 2, _ => decide
    | 3, _ => decide
    | 4, _ => decide
  have h6 : SB 4 = 50 := by decide
  rw [List.length_append]; omega
theorem LenI.tail {l : Tab} {p : Tr × Tr} {rest : List (Tr × Tr)} (h : LenI l (p :: rest)) : LenI l rest := by
  obtain ⟨A, B, e, h1, h2⟩ := h
  cases A with
  | nil =>
    rw [List.nil_append] at e
    subst e
    exact ⟨[], rest, rfl, by rw [List.length_cons] at h1; omega, trivial⟩
  | cons a A =>
    cases e
    exact ⟨A, B, rfl, h1, h2.2⟩
theorem LenI.bind {l l' : Tab} {rest : List (Tr × Tr)} (h : LenI l rest) (hl : l'.length = l.length + 1) : LenI l' rest := by
  obtain ⟨A, B, e, h1, h2⟩ := h
  refine ⟨[], rest, rfl, ?_, trivial⟩
  have := h2.len
  rw [hl, e, List.length_append]
  show _ ≤ SB l.length + EB l.length
  omega
theorem stair_push {l : Tab} {D : Nat} {A : List (Tr × Tr)} (h : Stair l D A) : ∀ {zs : List (Tr × Tr)}, zs.length ≤ 2 → (∀ z ∈ zs, (z.1.fill (lk l)).dep + A.length + 1 ≤ D ∧ (z.2.fill (lk l)).dep + A.length + 1 ≤ D) → Stair l D (zs ++ A)
  | [], _, _ => h
  | [z], _, f => by
    obtain ⟨a, b⟩ := f z (by simp)
    exact ⟨⟨by show _ + A.length ≤ D; omega, by show _ + A.length ≤ D; omega⟩, h⟩
  | [z, z'], _, f => by
    obtain ⟨a, b⟩ := f z (by simp)
    obtain ⟨a', b'⟩ := f z' (by simp)
    refine ⟨⟨?_, ?_⟩, ⟨by show _ + A.length ≤ D; omega, by show _ + A.length ≤ D; omega⟩, h⟩
    · show _ + (A.length + 1) ≤ D; omega
    · show _ + (A.length + 1) ≤ D; omega
theorem LenI.split {l : Tab} {t u : Tr} {rest zs : List (Tr × Tr)} {d : Nat} (h : LenI l ((t, u) :: rest)) (hz : zs.length ≤ 2) (ht : (t.fill (lk l)).dep ≤ EB l.length) (hu : (u.fill (lk l)).dep ≤ EB l.length)
    (hd : d = max (t.fill (lk l)).dep (u.fill (lk l)).dep) (f : ∀ z ∈ zs, (z.1.fill (lk l)).dep + 1 ≤ d ∧ (z.2.fill (lk l)).dep + 1 ≤ d) : LenI l (zs ++ rest) := by
  obtain ⟨A, B, e, h1, h2⟩ := h
  cases A with
  | nil =>
    rw [List.nil_append] at e
    subst e
    exact ⟨zs, rest, rfl, by rw [List.length_cons] at h1; omega, by
      have := stair_push (l := l) (D := EB l.length) (A := []) trivial hz fun z hz' => by
        obtain ⟨a, b⟩ := f z hz'
        simp only [List.length_nil]; omega
      rwa [List.append_nil] at this⟩
  | cons a A =>
    cases e
    obtain ⟨⟨a1, a2⟩, h3⟩ := h2
    refine ⟨zs ++ A, B, (List.append_assoc _ _ _).symm, h1, stair_push h3 hz fun z hz' => ?_⟩
    obtain ⟨a, b⟩ := f z hz'
    simp only at a1 a2
    omega
theorem LenI.args {l : Tab} {t u p o : Tr} {rest : List (Tr × Tr)} (h : LenI l ((t, u) :: rest)) (ht : (t.fill (lk l)).dep ≤ EB l.length) (hu : (u.fill (lk l)).dep ≤ EB l.length) (hp : ∀ y ∈ p.names, lk l y = none) (ho : ∀ y ∈ o.names, lk l y = none)
    (hpd : p.dep ≤ max (t.fill (lk l)).dep (u.fill (lk l)).dep) (hod : o.dep ≤ max (t.fill (lk l)).dep (u.fill (lk l)).dep) : LenI l ((p.args.zip o.args).reverse ++ rest) := by
  refine h.split (by rw [List.length_reverse, List.length_zip]; have := p.args_len; omega) ht hu rfl fun z hz => ?_
  obtain ⟨a, b⟩ := List.of_mem_zip (List.mem_reverse.mp hz)
  rw [Tr.fill_id fun x hx => hp x (Tr.names_arg a hx), Tr.fill_id fun x hx => ho x (Tr.names_arg b hx)]
  have := Tr.dep_arg a
  have := Tr.dep_arg b
  omega
theorem stepQ_ok {NV : List Str} {l : Tab} {t u p o : Tr} {rest : List (Tr × Tr)} {m : Nat} {r : Option Tab} (hU : UI NV l ((t, u) :: rest)) (h : LenI l ((t, u) :: rest)) (hp : ∀ y ∈ p.names, y ∈ NV ∧ lk l y = none) (ho : ∀ y ∈ o.names, y ∈ NV ∧ lk l y = none)
    (hpd : p.dep ≤ max (t.fill (lk l)).dep (u.fill (lk l)).dep) (hod : o.dep ≤ max (t.fill (lk l)).dep (u.fill (lk l)).dep) (hm : (match stepQ l rest p o with | .out r => some r | .go l rl => runU m l rl) = some r) :
    match stepQ l rest p o with | .out r' => r = r' | .go l' rl' => runU m l' rl' = some r ∧ UI NV l' rl' ∧ LenI l' rl' := by
  obtain ⟨⟨a1, a2⟩, b1, b2⟩ := hU.prs t u List.mem_cons_self
  have dO : o.dep ≤ EB l.length := by omega
  have dp : p.dep ≤ EB l.length := by omega
  have nv : ∀ q : Tr, q = p → q.isV = false → (match (if q.hd ≠ o.hd then Stp.out none else .go l ((q.args.zip o.args).reverse ++ rest)) with | .out r => some r | .go l rl => runU m l rl) = some r →
      (match (if q.hd ≠ o.hd then Stp.out none else .go l ((q.args.zip o.args).reverse ++ rest)) with | .out r' => r = r' | .go l' rl' => runU m l' rl' = some r ∧ UI NV l' rl' ∧ LenI l' rl') := fun q eq hq hmq => by
    subst eq
    by_cases z : q.hd = o.hd
    · rw [if_neg (by simp [z])] at hmq ⊢
      exact ⟨hmq, hU.tail.split hp ho dp dO, h.args a2 b2 (fun y hy => (hp y hy).2) (fun y hy => (ho y hy).2) hpd hod⟩
    · rw [if_pos z] at hmq ⊢
      exact (Option.some.inj hmq).symm
  cases p with
  | v x =>
    obtain ⟨x1, x2⟩ := hp x (by simp [Tr.names])
    unfold stepQ at hm ⊢
    by_cases z : x ∈ o.names
    · simp only [if_pos z] at hm ⊢
      exact (Option.some.inj hm).symm
    · simp only [if_neg z] at hm ⊢
      exact ⟨hm, hU.tail.bind x1 x2 ho z dO, h.tail.bind (by rw [bindT_eq x2]; simp)⟩
  | a => exact nv _ rfl rfl hm
  | b => exact nv _ rfl rfl hm
  | i s => exact nv _ rfl rfl hm
  | m s r => exact nv _ rfl rfl hm
/-- the loop's state: turns that are left, the pairs, the table -/
def MW (K : PySem.W.Frag) (NV : List Str) (r : Option Tab) (q : Addr) (H2 : Hp) (m : Nat) (σ : L2.St) (H : Hp) : Prop := ∃ l rl x0 x1 x4 x5 a kvs ys, σ = [x0, x1, some (V.ref a), some (V.ref q), x4, x5] ∧ runU m l rl = some r ∧ UI NV l rl ∧ LenI l rl ∧ H a = some (.dK kvs) ∧ TabK K H kvs l ∧ H q = some (.lst ys) ∧ TdAll K H ys (rl.reverse.map pairD) ∧ Ext [] H2 H
theorem TdAll.unsnoc {K : PySem.W.Frag} {H : Hp} {d : PyData} : ∀ {ds : List PyData} {vs : List V}, TdAll K H vs (ds ++ [d]) → ∃ vs' v, vs = vs' ++ [v] ∧ TdAll K H vs' ds ∧ Td K H v d
  | [], _, .cons h .nil => ⟨[], _, rfl, .nil, h⟩
  | _ :: _, _, .cons h r => by
    obtain ⟨vs', v, rfl, r', h'⟩ := r.unsnoc
    exact ⟨_ :: vs', v, rfl, .cons h r', h'⟩
theorem pair_shaped {NS : List Str} (n : NsOk NS) : ∀ {ps : List (Tr × Tr)}, (∀ p ∈ ps, (∀ x ∈ p.1.names, x ∈ NS) ∧ (∀ x ∈ p.2.names, x ∈ NS) ∧ p.1.dep ≤ 60 ∧ p.2.dep ≤ 60) → PyData.canLayAll0 (ps.map pairD) = true ∧ PyData.depthAll (ps.map pairD) ≤ 61
  | [], _ => ⟨by rw [List.map_nil, PyData.canLayAll0], by rw [List.map_nil, PyData.depthAll]; omega⟩
  | p :: ps, h => by
    obtain ⟨h1, h2, h3, h4⟩ := h p List.mem_cons_self
    obtain ⟨i1, i2⟩ := pair_shaped n (ps := ps) fun q hq => h q (List.mem_cons_of_mem _ hq)
    constructor
    · rw [List.map_cons, PyData.canLayAll0, i1]
      simp only [pairD, Tr.lay_tup, Tr.lay_cons, Tr.lay_nil, Tr.lay_data p.1 fun x q => n.ok x (h1 x q), Tr.lay_data p.2 fun x q => n.ok x (h2 x q), Bool.and_self]
    · rw [List.map_cons, PyData.depthAll]
      have : (pairD p).depth = max p.1.dep p.2.dep + 1 := by simp [pairD, PyData.depth, PyData.depthAll, Tr.depth_data]
      omega
theorem TdAll.ofGet {K : PySem.W.Frag} {H : Hp} : ∀ {vs : List V} {ds : List PyData}, vs.length = ds.length → (∀ (j : Nat) (d : PyData), ds[j]? = some d → ∃ v, vs[j]? = some v ∧ Td K H v d) → TdAll K H vs ds
  | [], [], _, _ => .nil
  | v :: vs, d :: ds, h, f => by
    obtain ⟨v', e, h'⟩ := f 0 d rfl
    cases e
    exact .cons h' (TdAll.ofGet (by simpa using h) fun j d' e => f (j + 1) d' (by simpa using e))
theorem prs_td {K : PySem.W.Frag} {H : Hp} {wp wo ws : List V} {ps os : List Tr} (h : PrsF K H wp wo ws (min wp.length wo.length)) (hp : TdAll K H wp (ps.map Tr.data)) (ho : TdAll K H wo (os.map Tr.data)) : TdAll K H ws ((ps.zip os).map pairD) := by
  have l1 := hp.length
  have l2 := ho.length
  rw [List.length_map] at l1 l2
  refine TdAll.ofGet (by rw [List.length_map, List.length_zip, h.1, l1, l2]) fun j d hd => ?_
  rw [List.getElem?_map] at hd
  cases hz : (ps.zip os)[j]? with
  | none => rw [hz] at hd; cases hd
  | some z =>
    rw [hz] at hd
    cases hd
    obtain ⟨p, o⟩ := z
    obtain ⟨h1, h2⟩ := List.getElem?_zip_eq_some.mp hz
    have j1 := (List.getElem?_eq_some_iff.mp h1).1
    have j2 := (List.getElem?_eq_some_iff.mp h2).1
    obtain ⟨T, x, y, e1, e2, e3, e4⟩ := h.2 j (by omega)
    obtain ⟨d1, f1, g1⟩ := hp.get e3
    obtain ⟨d2, f2, g2⟩ := ho.get e4
    rw [List.getElem?_map, h1] at f1
    rw [List.getElem?_map, h2] at f2
    cases f1
    cases f2
    exact ⟨_, e1, .tup e2 (.cons g1 (.cons g2 .nil))⟩
theorem stepQ_nv {l : Tab} {rest : List (Tr × Tr)} {p o : Tr} (h : p.isV = false) : stepQ l rest p o = if p.hd ≠ o.hd then .out none else .go l ((p.args.zip o.args).reverse ++ rest) := by
  cases p with
  | v x => cases h
  | _ => rfl
theorem args_hd {p o : Tr} (h1 : p.isV = false) (h2 : o.isV = false) (h : p.hd = o.hd) : p.args.length = o.args.length := by
  have k : ∀ x y : Str, x ≠ y → x = y → False := fun x y n e => n e
  cases p <;> cases o <;> first | rfl | (cases h1; done) | (cases h2; done) | exact absurd h (by show (_ : Str) ≠ _; simp only [Tr.hd]; decide)
theorem putL_fresh {l : Tab} {n : Str} {t : Tr} (h : lk l n = none) : putL l n t = l ++ [(n, t)] := by unfold putL; rw [h]; rfl
theorem lk_take {l : Tab} (nd : (l.map (·.1)).Nodup) (g : Tr → Tr) {j : Nat} {n : Str} {t : Tr} (h : l[j]? = some (n, t)) : lk ((l.take j).map fun p => (p.1, g p.2)) n = none := by
  refine lk_none.mpr fun hm => ?_
  rw [List.map_map] at hm
  obtain ⟨⟨n', t'⟩, hm', e⟩ := List.mem_map.mp hm
  have e' : n' = n := e
  subst e'
  obtain ⟨i, hi, hit⟩ := List.mem_iff_getElem.mp hm'
  rw [List.length_take] at hi
  rw [List.getElem_take] at hit
  obtain ⟨hj, hjt⟩ := List.getElem?_eq_some_iff.mp h
  have := List.pairwise_iff_getElem.mp nd i j (by rw [List.length_map]; omega) (by rw [List.length_map]; exact hj) (by omega)
  rw [List.getElem_map, List.getElem_map, hit, hjt] at this
  exact this rfl
mutual
theorem Td.mapH {K : PySem.W.Frag} {H H' : Hp} (f : ∀ b xs, tupF K H b = some xs → tupF K H' b = some xs) {v : V} {d : PyData} : Td K H v d → Td K H' v d
  | .non => .non
  | .bl b => .bl b
  | .int i => .int i
  | .str x => .str x
  | .tup h r => .tup (f _ _ h) (TdAll.mapH f r)
theorem TdAll.mapH {K : PySem.W.Frag} {H H' : Hp} (f : ∀ b xs, tupF K H b = some xs → tupF K H' b = some xs) {vs : List V} {ds : List PyData} : TdAll K H vs ds → TdAll K H' vs ds
  | .nil => .nil
  | .cons h r => .cons (Td.mapH f h) (TdAll.mapH f r)
end
theorem TabK.mapH {K : PySem.W.Frag} {H H' : Hp} (f : ∀ b xs, tupF K H b = some xs → tupF K H' b = some xs) : ∀ {kvs : List (Key × V)} {l : Tab}, TabK K H kvs l → TabK K H' kvs l
  | _, _, .nil => .nil
  | _, _, .cons h r => .cons (Td.mapH f h) (r.mapH f)
theorem tupF_unlock {K : PySem.W.Frag} {H : Hp} {d : Addr} {o : Obj} {kvs ks : List (Key × V)} (hd : H d = some (.frz o (.dK kvs))) (b : Addr) (xs : List V) (h : tupF K H b = some xs) : tupF K (upd H d (.dK ks)) b = some xs := by
  unfold tupF at h ⊢
  split at h
  · rename_i hx; rw [dif_pos hx]; exact h
  · rename_i hx
    rw [dif_neg hx]
    by_cases e : b = d
    · subst e
      rw [hd] at h
      cases h
    · rw [upd_ne e]; exact h
def tailT (K KC : PySem.W.Frag) (NS : List Str) : TS :=
  tIfS (tTest (tOp rEq (tOp (rIxF K) (tVar 0) (tC (V.int 0))) (tC (V.str "v"))))
    (tSeq (tIfS (tTest (tOp (rInS K false) (tOp (rIxF K) (tVar 0) (tC (V.int 1))) (tCall (spHoles K NS 64) [] C8.E0 (tCons (tVar 1) tNil)))) (tRet (tC V.non)) tNext)
      (tSeq (tLockS (tAsg (tDcF (iItems (tVar 2)) (gTup K 2 (gCons (gName 4) (gCons (gName 5) gNil))) tYes (tVar 4) (tCall (spFill K 64) [] C8.E0 (tCons (tVar 5) (tCons (tDisp [(tOp (rIxF K) (tVar 0) (tC (V.int 1)), tVar 1)]) tNil))) [4, 5]) (gName 2)))
        (sDPutF (tVar 2) (tOp (rIxF K) (tVar 0) (tC (V.int 1))) (tVar 1))))
    (tIfS (tOr (tTest (tOp rNe (tOp (rIxF K) (tVar 0) (tC (V.int 0))) (tOp (rIxF K) (tVar 1) (tC (V.int 0))))) (tTest (tOp rNe (tCB (rLenT K) (tCons (tVar 0) tNil)) (tCB (rLenT K) (tCons (tVar 1) tNil)))))
      (tRet (tC V.non))
      (tDrop (tBM KC "list" rExtF (tVar 3) (tCons (tLZip K (tCons (tSl (rSlF K) (tVar 0) (tPart (tC (V.int 1))) tNoPart) (tCons (tSl (rSlF K) (tVar 1) (tPart (tC (V.int 1))) tNoPart) tNil))) tNil))))
theorem made_tail {KC : PySem.W.Frag} {r : Option Tab} {q : Addr} {H2 Hx : Hp} {m : Nat} {l : Tab} {rest : List (Tr × Tr)} {p o : Tr} {vp vo : V} {a : Addr} {kvs : List (Key × V)} {ys : List V} {x4 x5 : Option V} {D : Ends} (hsub : ∀ x ∈ NV, x ∈ NS) (hNV : NV.length ≤ 4) (hK : KC = K)
    (hnx : ∀ σ' H', MW K NV r q H2 m σ' H' → D.nx σ' H') (hrt : r = none → ∀ H', Ext [] H2 H' → D.rt .non H') (hq : match stepQ l rest p o with | .out r' => r = r' | .go l' rl' => runU m l' rl' = some r ∧ UI NV l' rl' ∧ LenI l' rl') (hR : rest.length ≤ 200)
    (hp : Td K Hx vp p.data) (ho : Td K Hx vo o.data) (hpn : ∀ y ∈ p.names, y ∈ NV ∧ lk l y = none) (hon : ∀ y ∈ o.names, y ∈ NV ∧ lk l y = none) (hpd : p.dep ≤ 49) (hod : o.dep ≤ 49) (hno : p.isV = false → o.isV = false) (hU : UI NV l rest) (hk : Hx a = some (.dK kvs)) (htk : TabK K Hx kvs l) (hys : Hx q = some (.lst ys)) (hall : TdAll K Hx ys (rest.reverse.map pairD)) (e2 : Ext [] H2 Hx) (hq2 : H2 q = none) :
    hideS (tailT K KC NS) D [some vp, some vo, some (V.ref a), some (V.ref q), x4, x5] Hx := by
  show tailT K KC NS D _ Hx
  unfold tailT
  cases hv : p.isV with
  | true =>
    cases p with
    | v x =>
      obtain ⟨ap, rfl, hap⟩ := td_v hp
      obtain ⟨x1, x2⟩ := hpn x (by simp [Tr.names])
      walk_at "rd"
      refine ⟨_, hap, _, atI_0, rfl, ?_⟩
      rw [if_pos rfl]
      refine ⟨_, hap, _, atI_1, vo, o, rfl, ho, by omega, fun y hy => hsub y (hon y hy).1, fun p1 ns H1 e1 h1 hns => ⟨x, rfl, p1, rfl, ns, h1, ?_⟩⟩
      unfold stepQ at hq
      by_cases hx : x ∈ o.names
      · rw [if_pos ((hns x).mpr hx)]
        refine hrt ?_ H1 (e2.trans e1)
        simpa [hx] using hq
      · rw [if_neg fun z => hx ((hns x).mp z)]
        simp only [if_neg hx] at hq
        refine ⟨a, kvs, e1.dK0 hk, fun od => ?_⟩
        have hk1 := e1.dK0 hk
        have h1a : Hx a = some (.dK kvs) := hk
        walk_at "rd"
        refine ⟨od, kvs, upd_same, ?_⟩
        have hloc := Ext.lockD (o := od) hk1
        have hlen := htk.length
        have hlen4 := hU.len
        refine dc_go walk_items (fun D j ks H' => Ext [] (upd H1 a (.frz od (.dK kvs))) H' ∧ TabK K H' ks ((l.take j).map fun p => (p.1, p.2.fill (one1 x o)))) (fun D' hD => ⟨Ext.new hD, .nil⟩) (fun D' j ks H' ⟨e, _⟩ => e.frz _ _ _ upd_same) (fun D' j z ks H' H'' hD hj ⟨e, htab⟩ hl2 hks y => ?_) fun D' ks H' hD ⟨e, htab⟩ hks hl2 => ?_
        · refine pair_tgt y fun k v hk' hv' eT => ?_
          cases hkv : kvs[j]? with
          | none => rw [hkv] at hk'; cases hk'
          | some kv =>
            obtain ⟨key, val⟩ := kv
            rw [hkv] at hk' hv'
            cases hk'
            cases hv'
            obtain ⟨n, t, rfl, hlt, htd⟩ := htk.get hkv
            have hvals := hU.vals n t (List.mem_of_getElem? hlt)
            have hE : EB l.length ≤ 49 := EB_le (Nat.le_trans hU.len hNV)
            have eL := e.trans eT
            have hapL := tupF_ext eL (tupF_ext hloc (tupF_ext e1 hap))
            walk_at "rd"
            refine ⟨_, [val], ⟨rfl, rfl⟩, val, [], rfl, rfl, fun pd hpd => ?_⟩
            have en : Ext [] H'' (upd H'' pd (.dK [])) := Ext.new hpd
            have em : Ext [] H'' (upd (upd H'' pd (.dK [])) pd (.dK (mergeK [] [((Sum.inr x : Key), vo)]))) := en.over hpd (Ext.setD List.mem_cons_self upd_same)
            refine ⟨_, tupF_ext en hapL, _, atI_1, upd_same, [(Sum.inr x, vo)], rfl, by simp, val, t, pd, [(x, o)], rfl, (((htd.ext e1).ext hloc).ext eL).ext em, by have := hvals.2; omega, ⟨_, dctF_dK upd_same, .cons ((((ho.ext e1).ext hloc).ext eL).ext em) .nil⟩, fun v' H5 e5 h5 => ?_⟩
            have hks5 := e5.dK0 (em.dK0 (eT.dK0 hks))
            have hs1 : (100 : Nat) < sizeLine := by decide
            have eAll : Ext [] (upd H1 a (.frz od (.dK kvs))) H5 := eL.trans (em.trans e5)
            have eS : Ext [D'] H5 (upd H5 D' (.dK (putK ks (Sum.inr n) v'))) := Ext.setD List.mem_cons_self hks5
            refine ⟨ks, Sum.inr n, rfl, hks5, by omega, putK ks (Sum.inr n) v', by have := length_putK ks (Sum.inr n) v'; omega, upd_same, eAll.over hD eS, ?_⟩
            rw [take_snoc hlt, List.map_append, List.map_singleton, ← putL_fresh (lk_take hU.nd (Tr.fill (one1 x o)) hlt)]
            exact ((((htab.ext eT).ext em).ext e5).put h5).ext eS
        · have hfr : H' a = some (.frz od (.dK kvs)) := e.frz _ _ _ upd_same
          have eU := Ext.unlockD hk1 e
          have hDa : D' ≠ a := fun z => by rw [z, upd_same] at hD; cases hD
          have hD1 : H1 D' = none := by rw [upd_ne hDa] at hD; exact hD
          have hs1 : (100 : Nat) < sizeLine := by decide
          refine ⟨hfr, _, tupF_ext eU (tupF_ext e1 hap), _, atI_1, D', rfl, x, rfl, ks, by rw [upd_ne hDa]; exact hks, by omega, fun H4 e4 h4 => hnx _ _ ?_⟩
          have e14 : Ext [] H1 H4 := eU.over hD1 e4
          rw [hlen, List.take_length] at htab
          exact ⟨bindT l x o, rest, _, _, _, _, D', _, ys, rfl, hq.1, hq.2.1, hq.2.2, h4, (((htab.mapH (tupF_unlock hfr)).put ((ho.ext e1).ext eU))).ext e4, e14.lst0 (e1.lst0 hys), (hall.ext e1).ext e14, (e2.trans e1).trans e14⟩
    | a => cases hv
    | b => cases hv
    | i s => cases hv
    | m s r => cases hv
  | false =>
    obtain ⟨ap, wp, rfl, hap, hwp⟩ := td_f hv hp
    obtain ⟨ao, wo, rfl, hao, hwo⟩ := td_f (hno hv) ho
    have hne := Tr.hd_v hv
    walk_at "rd"
    refine ⟨_, hap, _, atI_0, rfl, ?_⟩
    rw [if_neg fun z => hne (V.str.inj z)]
    rw [stepQ_nv hv] at hq
    refine ⟨_, hap, _, atI_0, _, hao, _, atI_0, rfl, ?_⟩
    by_cases hh : p.hd = o.hd
    · rw [if_neg (by simp [hh])]
      rw [if_neg (by simp [hh])] at hq
      have l1 := hwp.length
      have l2 := hwo.length
      rw [List.length_map] at l1 l2
      have l3 := args_hd hv (hno hv) hh
      refine ⟨_, hap, _, hao, ?_⟩
      have el : ((V.str p.hd :: wp).length : Int) = ((V.str o.hd :: wo).length : Int) := by rw [List.length_cons, List.length_cons]; omega
      rw [if_neg (by rw [el]; simp)]
      subst hK
      refine ⟨tyV_lst hys, _, hap, fun p1 H1 e1 h1 => ⟨_, tupF_ext e1 hao, fun p3 H3 e3 h3 => ?_⟩⟩
      rw [cutV_1] at h1 h3
      have e13 := e1.trans e3
      have la := p.args_len
      refine ⟨p1, p3, ⟨rfl, rfl⟩, wp, tupF_ext e3 h1, wo, h3, by omega, fun S H5 ws hS e5 h5 hprs => ⟨ys, (e13.trans e5).lst0 hys, ws, h5, ?_, fun H6 e6 h6 => hnx _ _ ?_⟩⟩
      · have hs1 : (1000 : Nat) < sizeLine := by decide
        have l4 := hall.length
        rw [List.length_map, List.length_reverse] at l4
        have := hprs.1
        omega
      · have e15 := e13.trans e5
        have qa : a ∉ [q] := fun z => by
          have z' : a = q := by simpa using z
          rw [z', hys] at hk
          cases hk
        refine ⟨l, _, _, _, _, _, a, kvs, _, rfl, hq.1, hq.2.1, hq.2.2, e6.dK (e15.dK0 hk) qa, (htk.ext e15).ext e6, h6, ?_, ?_⟩
        · rw [List.reverse_append, List.reverse_reverse, List.map_append]
          exact ((hall.ext e15).ext e6).append ((prs_td hprs (hwp.ext e15) (hwo.ext e15)).ext e6)
        · exact Ext.over (e2.trans e15) hq2 e6
    · rw [if_pos (by simp [hh])]
      rw [if_pos hh] at hq
      exact hrt hq _ e2
theorem ok_made (F : Dn K mg "made_one" s_made_one f fd c) (B : Bl mg) (hN : NsOk NS) (hNV : NV.length ≤ 4) (hsub : ∀ x ∈ NV, x ∈ NS) (G_holes : Cal P w K mg base 64 "holes" (spHoles K NS 64)) (G_filled : Cal P w K mg base 64 "filled" (spFill K 64)) : Cal P w K mg base 65 "made_one" (spMade K NV) := by
  refine F.cal (ps := ["one", "other"]) (fun _ _ _ _ _ _ us hl => match us, hl with | [_, _], _ => rfl) sc_made_one (fun vs H Q E h => ?_) (fun A outer s H vs Q E hr h => ?_)
  · obtain ⟨_, _, _, _, rfl, _⟩ := h; rfl
  obtain ⟨v, u, s1, t1, rfl, hs, ht, hUI, q0, q1⟩ := h
  refine ⟨_, (pss_cons (ps_par (i := 2) (j := 3) (by rfl) sc_made_one.nd rfl rfl (by decide) rfl rfl (pa_cons pe_dnewF (pa_cons (pe_lstF (pa_cons (pe_tupK K (pa_cons (pv 0) (pa_cons (pv 1) pa_nil))) pa_nil)) pa_nil)) (by rfl))
    (pss_cons (ps_while PassesOwn.never (pt_cmpR (op_neLK K hr.units) (pv 3) (pe_lstF pa_nil) (nomark _)) (pss_cons (ps_asg (pe_bm0 PySem.F.plainAttrs_list PySem.F.slot_list_pop PySem.F.type_list_pop mt_popF (pv 3)) (pg_tupK K (n := 2) (by rfl) (pgs_cons (pg_name (i := 0) sc_made_one.nd rfl (by first | exact Or.inl rfl | exact Or.inr rfl)) (pgs_cons (pg_name (i := 1) sc_made_one.nd rfl (by first | exact Or.inl rfl | exact Or.inr rfl)) pgs_nil))))
    (pss_cons (ps_asg (pe_tupK K (pa_cons (C8.pe_c G_filled hr (by omega) (by rfl) (pa_cons (pv 0) (pa_cons (pv 2) pa_nil))) (pa_cons (C8.pe_c G_filled hr (by omega) (by rfl) (pa_cons (pv 1) (pa_cons (pv 2) pa_nil))) pa_nil))) (pg_tupK K (n := 2) (by rfl) (pgs_cons (pg_name (i := 0) sc_made_one.nd rfl (by first | exact Or.inl rfl | exact Or.inr rfl)) (pgs_cons (pg_name (i := 1) sc_made_one.nd rfl (by first | exact Or.inl rfl | exact Or.inr rfl)) pgs_nil))))
    (pss_cons (ps_if (pt_cmpR (op_eqK K hr.units) (pv 0) (pv 1) (nomark _)) (pss_one ps_continue) pss_nil)
    (pss_cons (ps_if (pt_cmpR op_ne (pe_ix (ix_tupK K) (pv 0) pe_int (fun _ _ => rfl)) pe_str (nomark _)) (pss_one (ps_asg (pe_tupK K (pa_cons (pv 1) (pa_cons (pv 0) pa_nil))) (pg_tupK K (n := 2) (by rfl) (pgs_cons (pg_name (i := 0) sc_made_one.nd rfl (by first | exact Or.inl rfl | exact Or.inr rfl)) (pgs_cons (pg_name (i := 1) sc_made_one.nd rfl (by first | exact Or.inl rfl | exact Or.inr rfl)) pgs_nil))))) pss_nil)
    (PSs.hide (pss_one (ps_if (pt_cmpR op_eq (pe_ix (ix_tupK K) (pv 0) pe_int (fun _ _ => rfl)) pe_str (nomark _)) (pss_cons (ps_if (pt_cmpR (op_inSK K) (pe_ix (ix_tupK K) (pv 0) pe_int (fun _ _ => rfl)) (C8.pe_c G_holes hr (by omega) (by rfl) (pa_cons (pv 1) pa_nil)) (by rfl)) (pss_one (ps_ret pe_non)) pss_nil)
    (pss_cons (ps_lockD (ps_setDcF (i := 2) (own := [("name", 4), ("tree", 5)]) rfl sc_made_one.nd rfl rfl (sw_trueD rfl rfl rfl (by decide +kernel)) (pi_items (pv 2)) (blkOk_by (own := [("name", 4), ("tree", 5)]) (N := n_made_one) (sc := defScope s_made_one) (by decide +kernel)) (fun _ _ _ _ _ => (pg_tupZ K (n := 2) (by rfl) (pgs_cons (pg_name (i := 4) sc_made_one.nd rfl (by first | exact Or.inl rfl | exact Or.inr rfl)) (pgs_cons (pg_name (i := 5) sc_made_one.nd rfl (by first | exact Or.inl rfl | exact Or.inr rfl)) pgs_nil)))) (fun _ _ _ _ _ => pts_nil) (fun _ _ _ _ _ => (pv 4)) (fun _ _ _ _ _ => (C8.pe_c G_filled hr (by omega) (by rfl) (pa_cons (pv 5) (pa_cons (pe_disp (pps_cons (pe_ix (ix_tupK K) (pv 0) pe_int (fun _ _ => rfl)) (pv 1) pps_nil) (by rfl) (by rfl) (fun z => by cases z) (by decide)) pa_nil))))))
    (pss_one (ps_dputF (hu_of hr) (pv 2) (pe_ix (ix_tupK K) (pv 0) pe_int (fun _ _ => rfl)) (pv 1) rfl)))) (pss_one (ps_if (PW.pt (pw_or (pt_cmpR op_ne (pe_ix (ix_tupK K) (pv 0) pe_int (fun _ _ => rfl)) (pe_ix (ix_tupK K) (pv 1) pe_int (fun _ _ => rfl)) (nomark _)) (pw_or1 (pt_cmpR op_ne (pe_callB (call_lenK K) (by rfl) B.b_len (by decide +kernel) (pa_cons (pv 0) pa_nil)) (pe_callB (call_lenK K) (by rfl) B.b_len (by decide +kernel) (pa_cons (pv 1) pa_nil)) (nomark _))))) (pss_one (ps_ret pe_non)) (pss_one (ps_expr (pe_bm PySem.F.plainAttrs_list PySem.F.slot_list_extend PySem.F.type_list_extend mt_extF (pv 3) (pa_cons (pe_lzipK K rfl (by rfl) B.b_zip (by rfl) B.b_list (pa_cons (pe_slice (sl_tupK K) (pv 0) (po_some pe_int) po_none) (pa_cons (pe_slice (sl_tupK K) (pv 1) (po_some pe_int) po_none) pa_nil))) pa_nil))))))))))))))
    (pss_one (ps_ret (pv 2))))), ?_⟩
  walk_at "rd"
  intro p1 H1 n1 e1 h1
  refine ⟨by decide, fun p2 H2 e2 h2 => ⟨by decide, fun p3 H3 n3 e3 h3 => ⟨_, _, ⟨rfl, rfl⟩, ?_⟩⟩⟩
  obtain ⟨N, r, hrun⟩ := run_ends hNV _ _ [] [(s1, t1)] hUI (Nat.le_refl _) (Nat.le_refl _)
  have e03 := (e1.trans e2).trans e3
  have hne0 : Ext [] H H2 := e1.trans e2
  have hp3 : H2 p3 = none := n3
  refine ⟨MW K NV r p3 H2, ⟨N, [], [(s1, t1)], _, _, _, _, p1, [], [.ref p2], rfl, hrun, hUI, ⟨[], [(s1, t1)], rfl, Nat.le_refl _, trivial⟩, (e2.trans e3).dK0 h1, .nil, h3, .cons (.tup (tupF_ext e3 (by exact h2)) (.cons (hs.ext e03) (.cons (ht.ext e03) .nil))) .nil, (Ext.refl [] H2).over n3 (by exact e3.any)⟩, ?_⟩
  rintro m σ' H4 ⟨l, rl, x0, x1, x4, x5, a, kvs, ys, rfl, hm, hU, hLen, hk, htk, hys, hall, e4⟩
  have hE : EB l.length ≤ 49 := EB_le (Nat.le_trans hU.len hNV)
  have hpr : ∀ p ∈ rl.reverse, (∀ x ∈ p.1.names, x ∈ NS) ∧ (∀ x ∈ p.2.names, x ∈ NS) ∧ p.1.dep ≤ 60 ∧ p.2.dep ≤ 60 := fun p hp => by
    obtain ⟨⟨a1, a2⟩, b1, b2⟩ := hU.prs p.1 p.2 (List.mem_reverse.mp hp)
    have := Tr.dep_fill_ge (lk l) p.1
    have := Tr.dep_fill_ge (lk l) p.2
    exact ⟨fun x hx => hsub x (a1 x hx), fun x hx => hsub x (b1 x hx), by omega, by omega⟩
  obtain ⟨sh1, sh2⟩ := pair_shaped hN hpr
  have shl : SeqAt.shaped (.list (rl.reverse.map pairD)) = true := by
    unfold SeqAt.shaped
    rw [PyData.canLay0, sh1, PyData.depth, decide_eq_true (by omega)]
    rfl
  have she : SeqAt.shaped (.list []) = true := by decide +kernel
  have q1' := q1
  have q0' := q0
  clear q0 q1
  walk_at "rd"
  refine ⟨by decide, fun p5 H5 n5 e5 h5 => ⟨ys, e5.lst0 hys, _, h5, _, hall.ext e5, _, .nil, shl, she, ?_⟩⟩
  have e25 := e4.trans e5
  have e05 := hne0.trans e25
  obtain ⟨m', rfl⟩ : ∃ m', m = m' + 1 := by
    cases m with
    | zero => cases hm
    | succ m' => exact ⟨m', rfl⟩
  cases rl with
  | nil =>
    have er : r = some l := by
      have : runU (m' + 1) l [] = some (some l) := rfl
      rw [this] at hm
      exact (Option.some.inj hm).symm
    subst er
    rw [List.reverse_nil, List.map_nil, Tr.eqvAll_nil, if_neg (by decide)]
    exact q1' N l hrun hU a H5 e05 ⟨kvs, dctF_dK (e5.dK0 hk), htk.ext e5⟩
  | cons pr rest =>
    obtain ⟨t, u⟩ := pr
    have hne : PyData.eqvAll (((t, u) :: rest).reverse.map pairD) [] = false := by
      rw [List.reverse_cons, List.map_append]
      cases (rest.reverse.map pairD) with
      | nil => exact Tr.eqvAll_cn _ _
      | cons z zs => exact Tr.eqvAll_cn _ _
    rw [hne, if_pos (by decide)]
    rw [List.reverse_cons, List.map_append] at hall
    obtain ⟨ys', y, rfl, hall', hy⟩ := hall.unsnoc
    refine ⟨fun σ' H' => ∃ m2, m2 < m' + 1 ∧ MW K NV r p3 H2 m2 σ' H', fun σ' H' h => h, tyV_lst (e5.lst0 hys), _, e5.lst0 hys, y, by simp, fun H6 e6 h6 => ?_⟩
    rw [List.dropLast_concat] at h6
    cases hy with
    | tup hy1 hy2 =>
      cases hy2 with
      | cons ht1 hy2 =>
        cases hy2 with
        | cons hu1 hy2 =>
          cases hy2
          obtain ⟨⟨a1, a2⟩, b1, b2⟩ := hU.prs t u List.mem_cons_self
          have dt := Tr.dep_fill_ge (lk l) t
          have du := Tr.dep_fill_ge (lk l) u
          have e56 := e5.any.trans e6
          have hka : H6 a = some (.dK kvs) := by
            refine e6.dK (e5.dK0 hk) fun z => ?_
            have z' : a = p3 := by simpa using z
            rw [z', hys] at hk
            cases hk
          have hT6 : TabA K H6 a l := ⟨kvs, dctF_dK hka, (htk.ext e5).ext e6⟩
          refine ⟨_, rfl, _, tupF_ext e56 hy1, rfl, _, _, rfl, _, _, rfl, rfl, _, t, a, l, rfl, ht1.ext e56, by omega, hT6, fun v1 H7 e7 h7 => ⟨_, u, a, l, rfl, (hu1.ext e56).ext e7, by omega, hT6.ext0 e7, fun v2 H8 e8 h8 => ⟨by decide, fun p9 H9 e9 h9 => ⟨_, h9, rfl, _, _, rfl, _, _, rfl, rfl, ?_⟩⟩⟩⟩
          have fv1 : Td K H9 v1 (t.fill (lk l)).data := (h7.ext e8).ext e9
          have fv2 : Td K H9 v2 (u.fill (lk l)).data := h8.ext e9
          refine ⟨_, _, fv1, fv2, Tr.shaped hN (fun x hx => hsub x (hU.fresh a1 x hx).1) (by omega), Tr.shaped hN (fun x hx => hsub x (hU.fresh b1 x hx).1) (by omega), ?_⟩
          refine ⟨_, rfl, ?_⟩
          rw [if_neg Bool.false_ne_true, Tr.eqv_data]
          by_cases heq : t.fill (lk l) = u.fill (lk l)
          · rw [if_pos (by simp [heq])]
            refine ⟨m', Nat.lt_succ_self _, l, rest, _, _, _, _, a, kvs, ys', rfl, ?_, hU.tail, ?_, ?_, ?_, ?_, ?_, ?_⟩
            · have hm2 : (match stepP l rest (t.fill (lk l)) (u.fill (lk l)) with | .out r => some r | .go l rl => runU m' l rl) = some r := hm
              unfold stepP at hm2
              rw [if_pos heq] at hm2
              exact hm2
            · exact hLen.tail
            · exact ((e7.trans e8).trans e9).dK0 hka
            · exact (((htk.ext e5).ext e6).ext (e7.trans e8)).ext e9
            · exact ((e7.trans e8).trans e9).lst0 h6
            · exact (((hall'.ext e5).ext e6).ext (e7.trans e8)).ext e9
            · exact (Ext.over e25 hp3 e6).trans ((e7.trans e8).trans e9)
          · rw [if_neg (by simp [heq])]
            have hk9 := ((e7.trans e8).trans e9).dK0 hka
            have htk9 := (((htk.ext e5).ext e6).ext (e7.trans e8)).ext e9
            have hys9 := ((e7.trans e8).trans e9).lst0 h6
            have hall9 := (((hall'.ext e5).ext e6).ext (e7.trans e8)).ext e9
            have e29 := (Ext.over e25 hp3 e6).trans ((e7.trans e8).trans e9)
            have hm2 : (match stepP l rest (t.fill (lk l)) (u.fill (lk l)) with | .out r => some r | .go l rl => runU m' l rl) = some r := hm
            unfold stepP at hm2
            rw [if_neg heq] at hm2
            obtain ⟨g1, w1, ev1, hg1⟩ := td_hd fv1
            subst ev1
            refine ⟨g1, rfl, _, hg1, _, atI_0, rfl, ?_⟩
            by_cases hv : (t.fill (lk l)).isV = true
            · rw [if_neg (by rw [Tr.hd_iff.mpr hv]; simp)]
              rw [if_pos hv] at hm2
              refine made_tail (KC := K) hsub hNV rfl (fun σ' H' h => ⟨m', Nat.lt_succ_self _, h⟩) (fun hr0 H' e' => ?_) (stepQ_ok hU hLen (hU.fresh a1) (hU.fresh b1) (Nat.le_max_left _ _) (Nat.le_max_right _ _) hm2) (hLen.tail.le (Nat.le_trans hU.len hNV)) fv1 fv2 (hU.fresh a1) (hU.fresh b1) (by omega) (by omega) (fun z => by rw [hv] at z; cases z) hU.tail hk9 htk9 hys9 hall9 e29 hp3
              subst hr0
              exact q0' N hrun _ (hne0.trans e')
            · rw [if_pos (by simp; exact fun z => hv (Tr.hd_iff.mp z))]
              rw [if_neg hv] at hm2
              refine ⟨by decide, fun p10 H10 e10 h10 => ⟨_, h10, rfl, _, _, rfl, _, _, rfl, rfl, ?_⟩⟩
              refine made_tail (KC := K) hsub hNV rfl (fun σ' H' h => ⟨m', Nat.lt_succ_self _, h⟩) (fun hr0 H' e' => ?_) (stepQ_ok hU hLen (hU.fresh b1) (hU.fresh a1) (Nat.le_max_right _ _) (Nat.le_max_left _ _) hm2) (hLen.tail.le (Nat.le_trans hU.len hNV)) (fv2.ext e10) (fv1.ext e10) (hU.fresh b1) (hU.fresh a1) (by omega) (by omega) (fun z => by cases hx : (t.fill (lk l)).isV with | false => rfl | true => exact absurd hx hv) hU.tail (e10.dK0 hk9) (htk9.ext e10) (e10.lst0 hys9) (hall9.ext e10) (e29.trans e10) hp3
              subst hr0
              exact q0' N hrun _ (hne0.trans e')
end
end Sq
set_option Elab.async false
set_option linter.all false
set_option maxRecDepth 100000
set_option maxHeartbeats 2000000
namespace Sq
open PySem PySem.Spec PyProof.Rows L2
theorem fill_theta {th : Str → Option Tr} {l : Tab} (h : ∀ n t, (n, t) ∈ l → (Tr.v n).fill th = t.fill th) (t : Tr) : (t.fill (lk l)).fill th = t.fill th := by
  rw [Tr.fill_fill]
  refine Tr.fill_congr fun y _ => ?_
  show ((lk l y).getD (.v y)).fill th = (Tr.v y).fill th
  cases e : lk l y with
  | none => rfl
  | some w => exact (h y w (lk_mem e)).symm
theorem fill_one {th : Str → Option Tr} {x : Str} {o : Tr} (h : (Tr.v x).fill th = o.fill th) (t : Tr) : (t.fill (one1 x o)).fill th = t.fill th :=
  fill_theta (l := [(x, o)]) (fun n t hm => by
    have e : n = x ∧ t = o := by simpa using hm
    obtain ⟨rfl, rfl⟩ := e
    exact h) t
/-- what can be made one is made one -/
theorem no_none {NV : List Str} {th : Str → Option Tr} : ∀ (n : Nat) (l : Tab) (rl : List (Tr × Tr)), UI NV l rl → (∀ t u, (t, u) ∈ rl → t.fill th = u.fill th) → (∀ n t, (n, t) ∈ l → (Tr.v n).fill th = t.fill th) → runU n l rl ≠ some none
  | 0, _, _, _, _, _, h => by cases h
  | n + 1, l, [], hU, hp, hl, h => by
    have : runU (n + 1) l [] = some (some l) := rfl
    rw [this] at h
    cases h
  | n + 1, l, (t, u) :: rest, hU, hp, hl, h => by
    have hm : (match stepP l rest (t.fill (lk l)) (u.fill (lk l)) with | .out r => some r | .go l rl => runU n l rl) = some none := h
    obtain ⟨⟨a1, a2⟩, b1, b2⟩ := hU.prs t u List.mem_cons_self
    have ft := hU.fresh a1
    have fu := hU.fresh b1
    have eq : (t.fill (lk l)).fill th = (u.fill (lk l)).fill th := by rw [fill_theta hl, fill_theta hl]; exact hp t u List.mem_cons_self
    have hrest : ∀ t u, (t, u) ∈ rest → t.fill th = u.fill th := fun t u hm => hp t u (List.mem_cons_of_mem _ hm)
    revert hm ft fu a2 b2 eq
    generalize t.fill (lk l) = t'
    generalize u.fill (lk l) = u'
    intro hm a2 b2 ft fu eq
    unfold stepP at hm
    have key : ∀ p o : Tr, p ≠ o → (p.isV = false → o.isV = false) → (∀ y ∈ p.names, y ∈ NV ∧ lk l y = none) → (∀ y ∈ o.names, y ∈ NV ∧ lk l y = none) → p.dep ≤ EB l.length → o.dep ≤ EB l.length → p.fill th = o.fill th →
        (match stepQ l rest p o with | .out r => some r | .go l rl => runU n l rl) ≠ some none := by
      intro p o hne hno hpn hon dp dO hpo hmq
      have nv : ∀ q : Tr, q = p → q.isV = false → (match (if q.hd ≠ o.hd then Stp.out none else .go l ((q.args.zip o.args).reverse ++ rest)) with | .out r => some r | .go l rl => runU n l rl) ≠ some none := fun q eq hq hmr => by
        subst eq
        obtain ⟨_, n2, n3⟩ := Tr.fill_nv (s := th) hq
        obtain ⟨_, m2, m3⟩ := Tr.fill_nv (s := th) (hno hq)
        have hh : q.hd = o.hd := by rw [← n2, ← m2, hpo]
        have ha : q.args.map (Tr.fill th) = o.args.map (Tr.fill th) := by rw [← n3, ← m3, hpo]
        rw [if_neg (by simp [hh])] at hmr
        refine no_none n l _ (hU.tail.split hpn hon dp dO) (fun t u hm => ?_) hl hmr
        rcases List.mem_append.mp hm with z | z
        · obtain ⟨i, hi⟩ := List.getElem?_of_mem (List.mem_reverse.mp z)
          obtain ⟨h1, h2⟩ := List.getElem?_zip_eq_some.mp hi
          have := congrArg (fun l => l[i]?) ha
          simp only [List.getElem?_map, h1, h2, Option.map_some] at this
          exact Option.some.inj this
        · exact hrest t u z
      cases p with
      | v x =>
        obtain ⟨x1, x2⟩ := hpn x (by simp [Tr.names])
        unfold stepQ at hmq
        by_cases z : x ∈ o.names
        · have := Tr.sz_in (s := th) z (fun e => hne e.symm)
          rw [hpo] at this
          omega
        · simp only [if_neg z] at hmq
          refine no_none n _ rest (hU.tail.bind x1 x2 hon z dO) hrest (fun n' t' hm' => ?_) hmq
          rw [bindT_eq x2] at hm'
          rcases List.mem_append.mp hm' with w | w
          · obtain ⟨⟨n0, t0⟩, h0, e⟩ := List.mem_map.mp w
            cases e
            show _ = (t0.fill (one1 x o)).fill th
            rw [fill_one hpo]
            exact hl n0 t0 h0
          · have e : n' = x ∧ t' = o := by simpa using w
            obtain ⟨rfl, rfl⟩ := e
            exact hpo
      | a => exact nv _ rfl rfl hmq
      | b => exact nv _ rfl rfl hmq
      | i s => exact nv _ rfl rfl hmq
      | m s r => exact nv _ rfl rfl hmq
    by_cases e : t' = u'
    · rw [if_pos e] at hm
      exact no_none n l rest hU.tail hrest hl hm
    · rw [if_neg e] at hm
      by_cases hv : t'.isV = true
      · rw [if_pos hv] at hm
        exact key t' u' e (fun z => by rw [hv] at z; cases z) ft fu a2 b2 eq hm
      · rw [if_neg hv] at hm
        exact key u' t' (fun z => e z.symm) (fun _ => by cases hx : t'.isV with | false => rfl | true => exact absurd hx hv) fu ft b2 a2 eq.symm hm
end Sq
set_option Elab.async false
set_option linter.all false
set_option maxRecDepth 100000
set_option maxHeartbeats 2000000
namespace Sq
open PySem PySem.Spec PyProof.Rows L2
/-! ### the order is one -/
namespace Tr
theorem abv_iff {wi wm : Int} {s t : Tr} : s.abv wi wm t = true ↔ (s.cond t = true ∧ (t.wt wi wm < s.wt wi wm ∨ (s.wt wi wm = t.wt wi wm ∧ s.isV = false ∧ t.isV = false ∧ ((s.hd ≠ t.hd ∧ t.ix < s.ix) ∨ (s.hd = t.hd ∧ lexA wi wm s.args t.args = true))))) := by
  rw [abv_eq]
  unfold pre
  cases hc : s.cond t with
  | false => simp
  | true =>
    rw [if_neg (by decide)]
    by_cases hw : s.wt wi wm = t.wt wi wm
    · rw [if_neg (by simp [hw])]
      cases hs : s.isV with
      | true => simp [hw]
      | false =>
        cases ht : t.isV with
        | true => simp [hw]
        | false =>
          rw [if_neg (by simp)]
          by_cases hh : s.hd = t.hd
          · rw [if_neg (by simp [hh])]
            simp [hw, hh]
          · rw [if_pos hh]
            simp [hw, hh]
    · rw [if_pos hw]
      simp [hw]
theorem cond_refl (s : Tr) : s.cond s = true := cond_iff.mpr fun _ => Nat.le_refl _
theorem cond_trans {s t u : Tr} (h1 : s.cond t = true) (h2 : t.cond u = true) : s.cond u = true := cond_iff.mpr fun x => Nat.le_trans (cond_iff.mp h2 x) (cond_iff.mp h1 x)
theorem lexA_refl {wi wm : Int} : ∀ ss : List Tr, lexA wi wm ss ss = false
  | [] => rfl
  | s :: ss => by
    have := lexA_refl (wi := wi) (wm := wm) ss
    simp [lexA, this]
theorem abv_irrefl {wi wm : Int} (s : Tr) : s.abv wi wm s = false := by
  cases h : s.abv wi wm s with
  | false => rfl
  | true =>
    obtain ⟨_, h | ⟨_, _, _, ⟨h, _⟩ | ⟨_, h⟩⟩⟩ := abv_iff.mp h
    · omega
    · exact absurd rfl h
    · rw [lexA_refl] at h; cases h
theorem sz_arg {t u : Tr} (h : u ∈ t.args) : u.sz < t.sz := by
  cases t with
  | v x => cases h
  | a => cases h
  | b => cases h
  | i s =>
    have e : u = s := by simpa [args] using h
    subst e; simp [sz]
  | m s r =>
    have e : u = s ∨ u = r := by simpa [args] using h
    rcases e with e | e <;> (subst e; simp only [sz]; omega)
theorem lexA_trans {wi wm : Int} : ∀ {ss ts us : List Tr}, (∀ s ∈ ss, ∀ t u, s.abv wi wm t = true → t.abv wi wm u = true → s.abv wi wm u = true) → lexA wi wm ss ts = true → lexA wi wm ts us = true → lexA wi wm ss us = true
  | [], _, _, _, h, _ => by simp [lexA] at h
  | _ :: _, [], _, _, h, _ => by simp [lexA] at h
  | _ :: _, _ :: _, [], _, _, h => by simp [lexA] at h
  | s :: ss, t :: ts, u :: us, ih, h1, h2 => by
    simp only [lexA] at h1 h2 ⊢
    by_cases e1 : s = t
    · subst e1
      rw [if_neg (by simp)] at h1
      by_cases e2 : s = u
      · subst e2
        rw [if_neg (by simp)] at h2 ⊢
        exact lexA_trans (fun s hs => ih s (List.mem_cons_of_mem _ hs)) h1 h2
      · rw [if_pos e2] at h2 ⊢
        exact h2
    · rw [if_pos e1] at h1
      by_cases e2 : t = u
      · subst e2
        rw [if_pos e1]
        exact h1
      · rw [if_pos e2] at h2
        have h3 := ih s List.mem_cons_self t u h1 h2
        have e3 : s ≠ u := fun z => by
          subst z
          rw [abv_irrefl] at h3
          cases h3
        rw [if_pos e3]
        exact h3
theorem ix_eq {s t : Tr} (hs : s.isV = false) (ht : t.isV = false) (h : s.hd = t.hd) : s.ix = t.ix := by
  obtain ⟨a1, a2⟩ := ix_ok hs
  obtain ⟨b1, b2⟩ := ix_ok ht
  rcases Nat.lt_trichotomy s.ix t.ix with z | z | z
  · exact absurd (by rw [a1, h]) (b2 _ z)
  · exact z
  · exact absurd (by rw [b1, h]) (a2 _ z)
theorem abv_trans_n {wi wm : Int} : ∀ (n : Nat) (s t u : Tr), s.sz ≤ n → s.abv wi wm t = true → t.abv wi wm u = true → s.abv wi wm u = true
  | 0, s, _, _, h, _, _ => by have := s.sz_pos; omega
  | n + 1, s, t, u, hn, h1, h2 => by
    have ih : ∀ s' ∈ s.args, ∀ t u, s'.abv wi wm t = true → t.abv wi wm u = true → s'.abv wi wm u = true := fun s' hs' t u a b => abv_trans_n n s' t u (by have := sz_arg hs'; omega) a b
    obtain ⟨c1, d1⟩ := abv_iff.mp h1
    obtain ⟨c2, d2⟩ := abv_iff.mp h2
    refine abv_iff.mpr ⟨cond_trans c1 c2, ?_⟩
    rcases d1 with d1 | ⟨w1, s1, t1, d1⟩
    · rcases d2 with d2 | ⟨w2, _⟩
      · left; omega
      · left; omega
    · rcases d2 with d2 | ⟨w2, s2, t2, d2⟩
      · left; omega
      · right
        refine ⟨w1.trans w2, s1, t2, ?_⟩
        rcases d1 with ⟨g1, d1⟩ | ⟨g1, d1⟩
        · rcases d2 with ⟨g2, d2⟩ | ⟨g2, d2⟩
          · refine .inl ⟨fun z => ?_, by omega⟩
            have := ix_eq s1 t2 z
            omega
          · exact .inl ⟨fun z => g1 (z.trans g2.symm), by
              have := ix_eq s2 t2 g2
              omega⟩
        · rcases d2 with ⟨g2, d2⟩ | ⟨g2, d2⟩
          · exact .inl ⟨fun z => g2 (g1.symm.trans z), by
              have := ix_eq s1 t1 g1
              omega⟩
          · exact .inr ⟨g1.trans g2, lexA_trans ih d1 d2⟩
theorem abv_trans {wi wm : Int} {s t u : Tr} (h1 : s.abv wi wm t = true) (h2 : t.abv wi wm u = true) : s.abv wi wm u = true := abv_trans_n _ s t u (Nat.le_refl _) h1 h2
theorem abv_asym {wi wm : Int} {s t : Tr} (h1 : s.abv wi wm t = true) (h2 : t.abv wi wm s = true) : False := by
  have := abv_trans h1 h2
  rw [abv_irrefl] at this
  cases this
/-- within larger trees -/
theorem abv_i {wi wm : Int} {s t : Tr} (h : s.abv wi wm t = true) : (i s).abv wi wm (i t) = true := by
  obtain ⟨c, d⟩ := abv_iff.mp h
  refine abv_iff.mpr ⟨cond_iff.mpr fun x => cond_iff.mp c x, ?_⟩
  have hne : s ≠ t := fun z => by subst z; rw [abv_irrefl] at h; cases h
  by_cases hw : s.wt wi wm = t.wt wi wm
  · refine .inr ⟨by simp only [wt]; omega, rfl, rfl, .inr ⟨rfl, ?_⟩⟩
    simp [args, lexA, hne, h]
  · left
    rcases d with d | ⟨w, _⟩
    · simp only [wt]; omega
    · exact absurd w hw
theorem abv_m {wi wm : Int} {r s t : Tr} (h : s.abv wi wm t = true) : (m r s).abv wi wm (m r t) = true := by
  obtain ⟨c, d⟩ := abv_iff.mp h
  refine abv_iff.mpr ⟨cond_iff.mpr fun x => by have := cond_iff.mp c x; simp only [cnt]; omega, ?_⟩
  have hne : s ≠ t := fun z => by subst z; rw [abv_irrefl] at h; cases h
  by_cases hw : s.wt wi wm = t.wt wi wm
  · refine .inr ⟨by simp only [wt]; omega, rfl, rfl, .inr ⟨rfl, ?_⟩⟩
    simp [args, lexA, hne, h]
  · left
    rcases d with d | ⟨w, _⟩
    · simp only [wt]; omega
    · exact absurd w hw
/-- parts are below -/
theorem at_below {wi wm : Int} (h1 : 1 ≤ wi ∧ wi ≤ 3) (h2 : 1 ≤ wm ∧ wm ≤ 3) : ∀ (p : List Nat) (t u : Tr), t.atP p = some u → u.wt wi wm ≤ t.wt wi wm ∧ (p ≠ [] → u.wt wi wm < t.wt wi wm) ∧ ∀ x, u.cnt x ≤ t.cnt x
  | [], t, u, h => by
    have e : t = u := by cases t <;> exact Option.some.inj h
    subst e
    exact ⟨by omega, fun z => absurd rfl z, fun x => Nat.le_refl _⟩
  | k :: p, t, u, h => by
    obtain ⟨s, hs, hsp⟩ := atP_cons.mp h
    obtain ⟨a1, a2, a3⟩ := at_below h1 h2 p s u hsp
    have key : s.wt wi wm < t.wt wi wm ∧ ∀ x, s.cnt x ≤ t.cnt x := by
      cases t with
      | v x => simp [args] at hs
      | a => simp [args] at hs
      | b => simp [args] at hs
      | i r =>
        have e : r = s := by
          match k, hs with
          | 0, hs => simpa [args] using hs
          | k + 1, hs => simp [args] at hs
        subst e
        exact ⟨by simp only [wt]; omega, fun x => Nat.le_refl _⟩
      | m r r' =>
        have q1 := wt_le h1 h2 r
        have q2 := wt_le h1 h2 r'
        match k, hs with
        | 0, hs =>
          have e : r = s := by simpa [args] using hs
          subst e
          exact ⟨by simp only [wt]; omega, fun x => by simp only [cnt]; omega⟩
        | 1, hs =>
          have e : r' = s := by simpa [args] using hs
          subst e
          exact ⟨by simp only [wt]; omega, fun x => by simp only [cnt]; omega⟩
        | k + 2, hs => simp [args] at hs
    exact ⟨by omega, fun _ => by omega, fun x => Nat.le_trans (a3 x) (key.2 x)⟩
theorem abv_at {wi wm : Int} (h1 : 1 ≤ wi ∧ wi ≤ 3) (h2 : 1 ≤ wm ∧ wm ≤ 3) {p : List Nat} {t u : Tr} (h : t.atP p = some u) (hp : p ≠ []) : t.abv wi wm u = true := by
  obtain ⟨_, a, b⟩ := at_below h1 h2 p t u h
  exact abv_iff.mpr ⟨cond_iff.mpr b, .inl (a hp)⟩
theorem cond_gnd {s t : Tr} (h : t.names = []) : s.cond t = true := by unfold cond; rw [h]; rfl
theorem gnd_nv {t : Tr} (h : t.names = []) : t.isV = false := by
  cases t with
  | v x => simp [names] at h
  | _ => rfl
theorem gnd_arg {t u : Tr} (h : t.names = []) (hu : u ∈ t.args) : u.names = [] := by
  cases e : u.names with
  | nil => rfl
  | cons x xs =>
    have := names_arg hu (x := x) (by rw [e]; exact List.mem_cons_self)
    rw [h] at this
    cases this
theorem eq_of {s t : Tr} (hs : s.isV = false) (ht : t.isV = false) (h1 : s.hd = t.hd) (h2 : s.args = t.args) : s = t := by
  have := ix_eq hs ht h1
  cases s <;> cases t <;> first | rfl | (cases hs; done) | (cases ht; done) | (simp [ix] at this; done) | (simp [args] at h2; simp [h2])
theorem lexA_total {wi wm : Int} : ∀ {ss ts : List Tr}, ss.length = ts.length → (∀ s ∈ ss, ∀ t ∈ ts, s ≠ t → s.abv wi wm t = true ∨ t.abv wi wm s = true) → ss ≠ ts → lexA wi wm ss ts = true ∨ lexA wi wm ts ss = true
  | [], [], _, _, h => absurd rfl h
  | s :: ss, t :: ts, hl, ih, h => by
    by_cases e : s = t
    · subst e
      have := lexA_total (ss := ss) (ts := ts) (by simpa using hl) (fun s hs t ht => ih s (List.mem_cons_of_mem _ hs) t (List.mem_cons_of_mem _ ht)) fun z => h (by rw [z])
      simpa [lexA] using this
    · have e' : ¬ t = s := fun z => e z.symm
      have := ih s List.mem_cons_self t List.mem_cons_self e
      simpa [lexA, e, e'] using this
theorem abv_total_n {wi wm : Int} : ∀ (n : Nat) (s t : Tr), s.sz ≤ n → s.names = [] → t.names = [] → s ≠ t → s.abv wi wm t = true ∨ t.abv wi wm s = true
  | 0, s, _, h, _, _, _ => by have := s.sz_pos; omega
  | n + 1, s, t, hn, hs, ht, hne => by
    have s1 := gnd_nv hs
    have t1 := gnd_nv ht
    by_cases hw : s.wt wi wm = t.wt wi wm
    · by_cases hh : s.hd = t.hd
      · have hargs : s.args ≠ t.args := fun z => hne (eq_of s1 t1 hh z)
        have hlen : s.args.length = t.args.length := by
          have := ix_eq s1 t1 hh
          cases s <;> cases t <;> first | rfl | (cases s1; done) | (cases t1; done) | (simp [ix] at this; done)
        rcases lexA_total hlen (fun s' hs' t' ht' hne' => abv_total_n n s' t' (by have := sz_arg hs'; omega) (gnd_arg hs hs') (gnd_arg ht ht') hne') hargs with z | z
        · exact .inl (abv_iff.mpr ⟨cond_gnd ht, .inr ⟨hw, s1, t1, .inr ⟨hh, z⟩⟩⟩)
        · exact .inr (abv_iff.mpr ⟨cond_gnd hs, .inr ⟨hw.symm, t1, s1, .inr ⟨hh.symm, z⟩⟩⟩)
      · have hix : s.ix ≠ t.ix := fun z => hh (by
          have a1 := (ix_ok s1).1
          have b1 := (ix_ok t1).1
          rw [z, b1] at a1
          exact (Option.some.inj a1).symm)
        rcases Nat.lt_or_gt_of_ne hix with z | z
        · exact .inr (abv_iff.mpr ⟨cond_gnd hs, .inr ⟨hw.symm, t1, s1, .inl ⟨fun e => hh e.symm, z⟩⟩⟩)
        · exact .inl (abv_iff.mpr ⟨cond_gnd ht, .inr ⟨hw, s1, t1, .inl ⟨hh, z⟩⟩⟩)
    · rcases Int.lt_or_gt_of_ne hw with z | z
      · exact .inr (abv_iff.mpr ⟨cond_gnd hs, .inl z⟩)
      · exact .inl (abv_iff.mpr ⟨cond_gnd ht, .inl z⟩)
/-- two names, each with a tree -/
theorem wt_fill {wi wm : Int} {f : Str → Option Tr} {x y : Str} {g g' : Tr} (hxy : x ≠ y) (hx : f x = some g) (hy : f y = some g') : ∀ t : Tr, (∀ z ∈ t.names, z = x ∨ z = y) →
    (t.fill f).wt wi wm = t.wt wi wm + (t.cnt x : Nat) * (g.wt wi wm - 1) + (t.cnt y : Nat) * (g'.wt wi wm - 1)
  | v z, h => by
    rcases h z (by simp [names]) with e | e
    · subst e
      have : ¬ z = y := hxy
      simp only [fill, hx, wt, cnt, if_true, if_neg this, Option.getD_some]
      omega
    · subst e
      have : ¬ z = x := fun w => hxy w.symm
      simp only [fill, hy, wt, cnt, if_true, if_neg this, Option.getD_some]
      omega
  | a, _ => by simp [fill, wt, cnt]
  | b, _ => by simp [fill, wt, cnt]
  | i t, h => by
    have := wt_fill (wi := wi) (wm := wm) hxy hx hy t h
    simp only [fill, wt, cnt, this]
    omega
  | m t u, h => by
    have h1 := wt_fill (wi := wi) (wm := wm) hxy hx hy t fun z hz => h z (List.mem_append_left _ hz)
    have h2 := wt_fill (wi := wi) (wm := wm) hxy hx hy u fun z hz => h z (List.mem_append_right _ hz)
    simp only [fill, wt, cnt, h1, h2, Int.natCast_add, Int.add_mul]
    omega
theorem lexA_fill {wi wm : Int} {f : Str → Option Tr} : ∀ {ss ts : List Tr}, (∀ s ∈ ss, ∀ t ∈ ts, s.abv wi wm t = true → (s.fill f).abv wi wm (t.fill f) = true) → lexA wi wm ss ts = true → lexA wi wm (ss.map (fill f)) (ts.map (fill f)) = true
  | [], _, _, h => by simp [lexA] at h
  | _ :: _, [], _, h => by simp [lexA] at h
  | s :: ss, t :: ts, ih, h => by
    simp only [lexA, List.map_cons] at h ⊢
    by_cases e : s = t
    · subst e
      rw [if_neg (by simp)] at h ⊢
      exact lexA_fill (fun s hs t ht => ih s (List.mem_cons_of_mem _ hs) t (List.mem_cons_of_mem _ ht)) h
    · rw [if_pos e] at h
      have h3 := ih s List.mem_cons_self t List.mem_cons_self h
      have e3 : s.fill f ≠ t.fill f := fun z => by
        rw [z, abv_irrefl] at h3
        cases h3
      rw [if_pos e3]
      exact h3
/-- it stays with trees in names' places -/
theorem abv_fill_n {wi wm : Int} (hi : 1 ≤ wi ∧ wi ≤ 3) (hm : 1 ≤ wm ∧ wm ≤ 3) {f : Str → Option Tr} {x y : Str} {g g' : Tr} (hxy : x ≠ y) (hx : f x = some g) (hy : f y = some g') (hg : g.names = []) (hg' : g'.names = []) : ∀ (n : Nat) (s t : Tr), s.sz ≤ n → (∀ z ∈ s.names, z = x ∨ z = y) → (∀ z ∈ t.names, z = x ∨ z = y) → s.abv wi wm t = true → (s.fill f).abv wi wm (t.fill f) = true
  | 0, s, _, h, _, _, _ => by have := s.sz_pos; omega
  | n + 1, s, t, hn, hs, ht, h => by
    obtain ⟨c, d⟩ := abv_iff.mp h
    have gnd : (t.fill f).names = [] := by
      cases e : (t.fill f).names with
      | nil => rfl
      | cons w ws =>
        obtain ⟨z, hz, hw⟩ := names_fill.mp (show w ∈ (t.fill f).names by rw [e]; exact List.mem_cons_self)
        rcases ht z hz with q | q
        · subst q; rw [hx] at hw; simp [hg] at hw
        · subst q; rw [hy] at hw; simp [hg'] at hw
    have e1 := wt_fill (wi := wi) (wm := wm) hxy hx hy s hs
    have e2 := wt_fill (wi := wi) (wm := wm) hxy hx hy t ht
    have p1 := (wt_le hi hm g).1
    have p2 := (wt_le hi hm g').1
    have c1 := cond_iff.mp c x
    have c2 := cond_iff.mp c y
    have m1 : ((t.cnt x : Nat) : Int) * (g.wt wi wm - 1) ≤ (s.cnt x : Nat) * (g.wt wi wm - 1) := Int.mul_le_mul_of_nonneg_right (by omega) (by omega)
    have m2 : ((t.cnt y : Nat) : Int) * (g'.wt wi wm - 1) ≤ (s.cnt y : Nat) * (g'.wt wi wm - 1) := Int.mul_le_mul_of_nonneg_right (by omega) (by omega)
    refine abv_iff.mpr ⟨cond_gnd gnd, ?_⟩
    by_cases hw : (s.fill f).wt wi wm = (t.fill f).wt wi wm
    · rcases d with d | ⟨w, s1, t1, d⟩
      · omega
      · obtain ⟨a1, a2, a3⟩ := fill_nv (s := f) s1
        obtain ⟨b1, b2, b3⟩ := fill_nv (s := f) t1
        refine .inr ⟨hw, a1, b1, ?_⟩
        rw [a2, b2, a3, b3]
        rcases d with ⟨q1, q2⟩ | ⟨q1, q2⟩
        · refine .inl ⟨q1, ?_⟩
          rw [ix_eq a1 s1 a2, ix_eq b1 t1 b2]
          exact q2
        · exact .inr ⟨q1, lexA_fill (fun s' hs' t' ht' h' => abv_fill_n hi hm hxy hx hy hg hg' n s' t' (by have := sz_arg hs'; omega) (fun z hz => hs z (names_arg hs' hz)) (fun z hz => ht z (names_arg ht' hz)) h') q2⟩
    · left
      rcases d with d | ⟨w, _⟩
      · omega
      · omega
theorem put_at : ∀ (p : List Nat) (t u : Tr), t.atP p = some u → t.putP p u = t
  | [], t, u, h => by
    have e : t = u := by cases t <;> exact Option.some.inj h
    subst e
    cases t <;> rfl
  | k :: p, t, u, h => by
    obtain ⟨s, hs, hsp⟩ := atP_cons.mp h
    obtain ⟨n1, n2, n3⟩ := putP_cons (p := p) (w := u) hs
    refine eq_of n1 (nv_of_args hs) n2 ?_
    rw [n3, put_at p s u hsp]
    refine List.ext_getElem? fun j => ?_
    rw [List.getElem?_set]
    split
    · rename_i e
      subst e
      rw [hs, if_pos (List.getElem?_eq_some_iff.mp hs).1]
    · rfl
end Tr
end Sq
set_option Elab.async false
set_option linter.all false
set_option maxRecDepth 100000
set_option maxHeartbeats 4000000
namespace Sq
open PySem PySem.Spec PyProof.Rows L2 RZ
local macro_rules | `(tactic| walk_at "rd") => `(tactic| simp only [tCont, tDisp, tPairs, rIndexS, wipe, tNoPart, tDG2, tDGF, tDInF, tDNInF, sDPutF, tDNewF, rSortD, rInS, rInT, rEqLF, tDcF, tDc2F, tLcF, tForF, tAllF, tAnyF, tSumF, iEnumF, iZipF, iKeysF, iItems, tLZip, tYes, tSeq, tIfS, tNext, tRet, tRetN, tDrop, tTest, tB, tNot, tAnd, tOr, tChain, tOp, tUn, tCB, tCons, tNil, tC, tVar, tIf, tAndV, tOrV, tNotV, tAsg, tPar, tPar3, gName, gSub, gTupF, gCons, gNil, tTupF, tLstF, rI0, rI, rIxF, rIxG, rIxS, rSetF, rSlF, rCatF, rCatL, rTupL, rListT, rListL, rLenT, rLenL, iTupF, iLstF, rAppF, rExtF, rPopF, tBM, tBM0, tSl, tPart, rEq, rNe, tCall, L2.start,
  List.map_cons, List.map_nil, List.length_cons, List.length_nil, Nat.sub_self, List.replicate, List.append_nil, List.cons_append, List.nil_append, List.getElem?_cons_zero, List.getElem?_cons_succ, List.set_cons_zero, List.set_cons_succ,
  exSl, exI, exI2, exB, exS, exR, ex1, ex1', V.int.injEq, V.bl.injEq, V.ref.injEq, V.str.injEq, Option.some.injEq, List.cons.injEq, and_true, true_and, reduceCtorEq, false_and, and_false, or_false, false_or, exists_false, exists_and_left, exists_eq_left', decide_eq_true_eq, decide_true, decide_false, if_false, if_true, ite_true, ite_false, Bool.false_eq_true, Bool.not_true, Bool.not_false, Nat.reduceAdd, Nat.reduceSub, Nat.zero_add, atI_0, atI_1, atI_2, atI_3, ixN_0, ixN_1, ixN_2, cutV_1, cutV_2, Option.some.injEq, HO.lst.injEq, HO.dK.injEq, scal])
local macro_rules | `(tactic| walk_at "rdc") => `(tactic| simp (config := { contextual := true }) only [tCont, tDisp, tPairs, rIndexS, wipe, tNoPart, tDG2, tDGF, tDInF, tDNInF, sDPutF, tDNewF, rSortD, rInS, rInT, rEqLF, tDcF, tDc2F, tLcF, tForF, tAllF, tAnyF, tSumF, iEnumF, iZipF, iKeysF, iItems, tLZip, tYes, tSeq, tIfS, tNext, tRet, tRetN, tDrop, tTest, tB, tNot, tAnd, tOr, tChain, tOp, tUn, tCB, tCons, tNil, tC, tVar, tIf, tAndV, tOrV, tNotV, tAsg, tPar, tPar3, gName, gSub, gTupF, gCons, gNil, tTupF, tLstF, rI0, rI, rIxF, rIxG, rIxS, rSetF, rSlF, rCatF, rCatL, rTupL, rListT, rListL, rLenT, rLenL, iTupF, iLstF, rAppF, rExtF, rPopF, tBM, tBM0, tSl, tPart, rEq, rNe, tCall, L2.start,
  List.map_cons, List.map_nil, List.length_cons, List.length_nil, Nat.sub_self, List.replicate, List.append_nil, List.cons_append, List.nil_append, List.getElem?_cons_zero, List.getElem?_cons_succ, List.set_cons_zero, List.set_cons_succ,
  exSl, exI, exI2, exB, exS, exR, ex1, ex1', V.int.injEq, V.bl.injEq, V.ref.injEq, V.str.injEq, Option.some.injEq, List.cons.injEq, and_true, true_and, reduceCtorEq, false_and, and_false, or_false, false_or, exists_false, exists_and_left, exists_eq_left', decide_eq_true_eq, decide_true, decide_false, if_false, if_true, ite_true, ite_false, Bool.false_eq_true, Bool.not_true, Bool.not_false, Nat.reduceAdd, Nat.reduceSub, Nat.zero_add, atI_0, atI_1, atI_2, atI_3, ixN_0, ixN_1, ixN_2, cutV_1, cutV_2, Option.some.injEq, HO.lst.injEq, HO.dK.injEq, scal, *])
theorem Tr.ren_nv {mk : Str} {t : Tr} (h : t.isV = false) : (t.ren mk).isV = false := (Tr.fill_nv h).1
theorem Tr.ren_dep {mk : Str} : ∀ t : Tr, (t.ren mk).dep = t.dep
  | .v _ => rfl
  | .a => rfl
  | .b => rfl
  | .i t => congrArg (· + 1) (ren_dep t)
  | .m t u => by
    have h1 := ren_dep (mk := mk) t
    have h2 := ren_dep (mk := mk) u
    show max (t.ren mk).dep (u.ren mk).dep + 1 = _
    rw [h1, h2]; rfl
theorem Tr.ren_names {mk x : Str} {t : Tr} : x ∈ (t.ren mk).names ↔ ∃ y ∈ t.names, x = y ++ mk := by
  unfold Tr.ren
  rw [Tr.names_fill]
  simp [Tr.names]
theorem Tr.at_in : ∀ (p : List Nat) (t u : Tr), t.atP p = some u → (∀ x ∈ u.names, x ∈ t.names) ∧ u.dep ≤ t.dep
  | [], t, u, h => by
    have e : t = u := by cases t <;> exact Option.some.inj h
    subst e
    exact ⟨fun x hx => hx, Nat.le_refl _⟩
  | k :: p, t, u, h => by
    obtain ⟨s, hs, hsp⟩ := Tr.atP_cons.mp h
    obtain ⟨a, b⟩ := at_in p s u hsp
    have hm := List.mem_of_getElem? hs
    have := Tr.dep_arg hm
    exact ⟨fun x hx => Tr.names_arg hm (a x hx), by omega⟩
theorem Tr.put_in : ∀ (p : List Nat) (t u w : Tr), t.atP p = some u → (∀ x ∈ (t.putP p w).names, x ∈ t.names ∨ x ∈ w.names) ∧ (t.putP p w).dep ≤ t.dep + w.dep
  | [], t, u, w, h => by
    have e : t.putP [] w = w := by cases t <;> rfl
    rw [e]
    exact ⟨fun x hx => .inr hx, by omega⟩
  | k :: p, t, u, w, h => by
    obtain ⟨s, hs, hsp⟩ := Tr.atP_cons.mp h
    obtain ⟨a, b⟩ := put_in p s u w hsp
    cases t with
    | v x => simp [args] at hs
    | a => simp [args] at hs
    | b => simp [args] at hs
    | i r =>
      match k, hs with
      | 0, hs =>
        have e : r = s := by simpa [args] using hs
        subst e
        exact ⟨a, by simp only [putP, dep]; omega⟩
      | k + 1, hs => simp [args] at hs
    | m r r' =>
      match k, hs with
      | 0, hs =>
        have e : r = s := by simpa [args] using hs
        subst e
        refine ⟨fun x hx => ?_, by simp only [putP, dep]; omega⟩
        rcases List.mem_append.mp hx with z | z
        · rcases a x z with q | q
          · exact .inl (List.mem_append_left _ q)
          · exact .inr q
        · exact .inl (List.mem_append_right _ z)
      | 1, hs =>
        have e : r' = s := by simpa [args] using hs
        subst e
        refine ⟨fun x hx => ?_, by simp only [putP, dep]; omega⟩
        rcases List.mem_append.mp hx with z | z
        · exact .inl (List.mem_append_left _ z)
        · rcases a x z with q | q
          · exact .inl (List.mem_append_right _ q)
          · exact .inr q
      | k + 2, hs => simp [args] at hs
theorem pl_shaped (p : List Nat) : SeqAt.shaped (plD p) = true := by
  have : ∀ l : List Nat, PyData.canLayAll0 (l.map fun k => PyData.int (k : Nat)) = true ∧ PyData.depthAll (l.map fun k => PyData.int (k : Nat)) = 0 := fun l => by
    induction l with
    | nil => exact ⟨by rw [List.map_nil, PyData.canLayAll0], by rw [List.map_nil, PyData.depthAll]⟩
    | cons x l ih => exact ⟨by rw [List.map_cons, PyData.canLayAll0, ih.1, PyData.canLay0]; rfl, by rw [List.map_cons, PyData.depthAll, ih.2, PyData.depth]; rfl⟩
  unfold SeqAt.shaped plD
  rw [PyData.canLay0, PyData.depth, (this p).1, (this p).2]
  rfl
theorem pair_td {K : PySem.W.Frag} {H : Hp} {v : V} {d e : PyData} (h : Td K H v (.tuple [d, e])) : ∃ p x y, v = .ref p ∧ tupF K H p = some [x, y] ∧ Td K H x d ∧ Td K H y e := by
  cases h with
  | tup h1 h2 =>
    cases h2 with
    | cons a h2 =>
      cases h2 with
      | cons b h2 =>
        cases h2
        exact ⟨_, _, _, rfl, h1, a, b⟩
def NS6 : List Str := ["x", "y", "x1", "y1", "x2", "y2"]
def NV4 : List Str := ["x1", "y1", "x2", "y2"]
theorem ns6_ok : NsOk NS6 := ⟨by decide +kernel, by decide⟩
theorem nv4_sub : ∀ x ∈ NV4, x ∈ NS6 := by decide
section
variable {P : Program} {w : World} {K : PySem.W.Frag} {mg : Str → Option Value} {base : Heap} {f c tb tw : Addr} {fd : FuncData} {NS NV : List Str}
abbrev s_critical : Stmt := top 12
abbrev n_critical : List Str := ["one", "other", "left", "right", "inner", "goal", "found", "place", "table"]
theorem sc_critical : FnScope n_critical ["one", "other"] (defScope s_critical) := ⟨rfl, rfl, rfl, by decide +kernel, rfl, by decide +kernel, by decide +kernel⟩

def spCrit (K : PySem.W.Frag) : Sp := fun vs H Q _ => ∃ (u v : V) (s : Tr), vs = [u, v] ∧ Td K H u (.tuple [s.data, Tr.a.data]) ∧ Td K H v (.tuple [s.data, Tr.b.data]) ∧ s.isV = false ∧ s.dep ≤ 4 ∧ (∀ x ∈ s.names, x = "x" ∨ x = "y") ∧
  ∀ (z : V) (ps : List (Tr × Tr)) (H' : Hp), Ext [] H H' → Td K H' z (.tuple (ps.map pairD)) → (∀ p ∈ ps, (∀ x ∈ p.1.names, x ∈ NS6) ∧ (∀ x ∈ p.2.names, x ∈ NS6) ∧ p.1.dep ≤ 60 ∧ p.2.dep ≤ 60) → (Tr.a, Tr.b) ∈ ps → Q z H'
theorem ok_crit (F : Dn K mg "critical" s_critical f fd c) (B : Bl mg) (G_apart : Cal P w K mg base 65 "apart" (spApart K NS6 64)) (G_spots : Cal P w K mg base 64 "spots" (spSpots K 64)) (G_at : Cal P w K mg base 1 "at" (spAt K)) (G_laid_at : Cal P w K mg base 64 "laid_at" (spLaid K 64)) (G_filled : Cal P w K mg base 64 "filled" (spFill K 64)) (G_made_one : Cal P w K mg base 65 "made_one" (spMade K NV4)) : Cal P w K mg base 66 "critical" (spCrit K) := by
  refine F.cal (ps := ["one", "other"]) (fun _ _ _ _ _ _ us hl => match us, hl with | [_, _], _ => rfl) sc_critical (fun vs H Q E h => ?_) (fun A outer sh H vs Q E hr h => ?_)
  · obtain ⟨_, _, _, rfl, _⟩ := h; rfl
  obtain ⟨u, v, s, rfl, hu, hv, hs, hd, hns, q⟩ := h
  refine ⟨_, (pss_cons (ps_asg (C8.pe_c G_apart hr (by omega) (by rfl) (pa_cons (pv 0) (pa_cons pe_str pa_nil))) (pg_tupK K (n := 2) (by rfl) (pgs_cons (pg_name (i := 2) sc_critical.nd rfl (by first | exact Or.inl rfl | exact Or.inr rfl)) (pgs_cons (pg_name (i := 3) sc_critical.nd rfl (by first | exact Or.inl rfl | exact Or.inr rfl)) pgs_nil))))
    (pss_cons (ps_asg (C8.pe_c G_apart hr (by omega) (by rfl) (pa_cons (pv 1) (pa_cons pe_str pa_nil))) (pg_tupK K (n := 2) (by rfl) (pgs_cons (pg_name (i := 4) sc_critical.nd rfl (by first | exact Or.inl rfl | exact Or.inr rfl)) (pgs_cons (pg_name (i := 5) sc_critical.nd rfl (by first | exact Or.inl rfl | exact Or.inr rfl)) pgs_nil))))
    (pss_cons (ps_set (i := 6) sc_critical.nd rfl (by first | exact Or.inl rfl | exact Or.inr rfl) (pe_lstF pa_nil))
    (pss_cons (ps_forF PassesOwn.never rfl (pi_tupK K (C8.pe_c G_spots hr (by omega) (by rfl) (pa_cons (pv 2) pa_nil))) (pg_name (i := 7) sc_critical.nd rfl (by first | exact Or.inl rfl | exact Or.inr rfl)) (pss_cons (ps_set (i := 8) sc_critical.nd rfl (by first | exact Or.inl rfl | exact Or.inr rfl) (C8.pe_c G_made_one hr (by omega) (by rfl) (pa_cons (C8.pe_c G_at hr (by omega) (by rfl) (pa_cons (pv 2) (pa_cons (pv 7) pa_nil))) (pa_cons (pv 4) pa_nil))))
    (pss_one (ps_if (PW.pt (pw_and (pt_cmpR op_notN (pv 8) pe_non (nomark _)) (pw_and1 (PW.pt (pw_or (pt_cmpR (op_neK K hr.units) (pv 7) (pe_tupK K pa_nil) (nomark _)) (pw_or1 (pt_cmpR (op_neK K hr.units) (pv 0) (pv 1) (nomark _)))))))) (pss_one (ps_expr (pe_bm PySem.F.plainAttrs_list PySem.F.slot_list_append PySem.F.type_list_append mt_appF (pv 6) (pa_cons (pe_tupK K (pa_cons (C8.pe_c G_filled hr (by omega) (by rfl) (pa_cons (pv 3) (pa_cons (pv 8) pa_nil))) (pa_cons (C8.pe_c G_filled hr (by omega) (by rfl) (pa_cons (C8.pe_c G_laid_at hr (by omega) (by rfl) (pa_cons (pv 2) (pa_cons (pv 7) (pa_cons (pv 5) pa_nil)))) (pa_cons (pv 8) pa_nil))) pa_nil))) pa_nil)))) pss_nil))))
    (pss_one (ps_ret (pe_callTy (call_tupleK K) (by rfl) B.b_tuple (by decide +kernel) (pa_cons (pv 6) pa_nil)))))))), ?_⟩
  walk_at "rd"
  have hs' : ∀ x ∈ s.names, x ∈ NS6 ∧ x.length ≤ 5 := fun x hx => by
    rcases hns x hx with e | e <;> subst e <;> exact ⟨by decide, by decide⟩
  have h1n : ∀ x ∈ (s.ren "1").names, x ∈ NV4 := fun x hx => by
    obtain ⟨y, hy, rfl⟩ := Tr.ren_names.mp hx
    rcases hns y hy with e | e <;> subst e <;> decide
  have h2n : ∀ x ∈ (s.ren "2").names, x ∈ NV4 := fun x hx => by
    obtain ⟨y, hy, rfl⟩ := Tr.ren_names.mp hx
    rcases hns y hy with e | e <;> subst e <;> decide
  have d1 : (s.ren "1").dep ≤ 4 := by rw [Tr.ren_dep]; exact hd
  have d2 : (s.ren "2").dep ≤ 4 := by rw [Tr.ren_dep]; exact hd
  refine ⟨u, "1", s, .a, rfl, hu, by omega, by decide, hs', fun x hx => (by cases hx), by decide, fun w1 H1 e1 hw1 => ?_⟩
  obtain ⟨q1, l1, r1, rfl, t1, tl1, tr1⟩ := pair_td hw1
  refine ⟨q1, rfl, _, t1, rfl, _, _, rfl, _, _, rfl, rfl, v, "2", s, .b, rfl, hv.ext e1, by omega, by decide, hs', fun x hx => (by cases hx), by decide, fun w2 H2 e2 hw2 => ?_⟩
  obtain ⟨q2, i2, g2, rfl, t2, ti2, tg2⟩ := pair_td hw2
  refine ⟨q2, rfl, _, t2, rfl, _, _, rfl, _, _, rfl, rfl, by decide, fun p H3 n3 e3 h3 => ⟨l1, s.ren "1", rfl, (tl1.ext e2).ext e3, by omega, by omega, fun w4 H4 e4 hw4 => ?_⟩⟩
  cases hw4 with
  | tup hsp hall =>
    refine ⟨_, rfl, _, hsp, ?_⟩
    have e24 := e3.trans e4
    have e14 := e2.trans e24
    have el1 := tl1.ext e14
    have er1 := tr1.ext e14
    have ei2 := ti2.ext e24
    have eg2 := tg2.ext e24
    have eu4 := (hu.ext e1).ext e14
    have ev4 := (hv.ext e1).ext e14
    have lsp := hall.length
    rw [List.length_map] at lsp
    have hsp10 := Tr.spots_10 (t := s.ren "1") (by omega)
    refine for_go walk_tup (fun j σ' H' => ∃ x7 x8 ys ps, σ' = [some u, some v, some l1, some r1, some i2, some g2, some (V.ref p), x7, x8] ∧ Ext [p] H4 H' ∧ H' p = some (.lst ys) ∧ TdAll K H' ys (ps.map pairD) ∧ ps.length ≤ j ∧ (∀ p ∈ ps, (∀ x ∈ p.1.names, x ∈ NS6) ∧ (∀ x ∈ p.2.names, x ∈ NS6) ∧ p.1.dep ≤ 60 ∧ p.2.dep ≤ 60) ∧ (0 < j → (Tr.a, Tr.b) ∈ ps))
      ⟨_, _, [], [], rfl, Ext.refl _ _, e4.lst0 h3, .nil, Nat.le_refl _, fun q hq => (by cases hq), fun h => absurd h (Nat.lt_irrefl _)⟩ (fun j σ' H' _ ⟨_, _, _, _, _, e, _⟩ => tupF_sq (tupF_ext e hsp)) (fun j z σ' H' H'' hj ⟨x7, x8, ys, ps, hσ, e, hys, hps, hpl, hok, hin⟩ y => ?_) fun σ' H' ⟨x7, x8, ys, ps, hσ, e, hys, hps, hpl, hok, hin⟩ => ?_
    · obtain ⟨rfl, hz⟩ := y
      subst hσ
      walk_at "rd"
      obtain ⟨d, hd', hzd⟩ := hall.get hz
      rw [List.getElem?_map] at hd'
      cases hq : (s.ren "1").spots[j]? with
      | none => rw [hq] at hd'; cases hd'
      | some q0 =>
        rw [hq] at hd'
        cases hd'
        obtain ⟨hql, u0, hat, hu0⟩ := Tr.spots_mem (List.mem_of_getElem? hq)
        obtain ⟨hun, hud⟩ := Tr.at_in q0 _ u0 hat
        obtain ⟨hputn0, hputd⟩ := Tr.put_in q0 _ u0 .b hat
        have hputn : ∀ x ∈ ((s.ren "1").putP q0 .b).names, x ∈ NV4 := fun x hx => (hputn0 x hx).elim (h1n x) fun z => by cases z
        have hbd : Tr.b.dep = 1 := rfl
        have hs1 : (100000 : Nat) < sizeLine := by decide
        have lys := hps.length
        rw [List.length_map] at lys
        have hq00 : j = 0 → q0 = [] := fun z => by
          subst z
          rw [Tr.spots_nv (Tr.ren_nv hs)] at hq
          exact (Option.some.inj hq).symm
        have hlk : ∀ t : Tr, t.fill (lk []) = t := fun t => Tr.fill_id fun _ _ => rfl
        have hUI : UI NV4 [] [(u0, s.ren "2")] := ⟨List.nodup_nil, fun n hn => (by cases hn), fun n t hn => (by cases hn), fun t u hm => by
          have e0 : t = u0 ∧ u = s.ren "2" := by simpa using hm
          obtain ⟨rfl, rfl⟩ := e0
          rw [hlk, hlk]
          have : EB ([] : Tab).length = 4 := rfl
          exact ⟨⟨fun x hx => h1n x (hun x hx), by omega⟩, h2n, by omega⟩⟩
        refine ⟨l1, z, s.ren "1", u0, q0, rfl, el1.ext e, hzd.ext e, hat, fun w5 H5 e5 hw5 => ⟨w5, i2, u0, s.ren "2", rfl, hw5, (ei2.ext e).ext e5, hUI, fun n hn H6 e6 => ?_, fun n l hn hUl ta H6 e6 hT => ?_⟩⟩
        · dsimp only
          rw [if_neg (by simp)]
          refine ⟨_, _, ⟨rfl, rfl⟩, e.trans (e5.trans e6).any, ys, (e5.trans e6).lst0 hys, ps, hps.ext (e5.trans e6), by omega, hok, fun _ => ?_⟩
          by_cases h0 : 0 < j
          · exact hin h0
          · exfalso
            have := hq00 (by omega)
            subst this
            have e1 : u0 = s.ren "1" := by
              have : (s.ren "1").atP [] = some (s.ren "1") := by cases (s.ren "1") <;> rfl
              rw [this] at hat
              exact (Option.some.inj hat).symm
            subst e1
            refine no_none (th := fun n => if n = "x1" ∨ n = "x2" then some (.v "x") else some (.v "y")) n [] _ hUI (fun t u hm => ?_) (fun n t hm => by cases hm) hn
            have e0 : t = s.ren "1" ∧ u = s.ren "2" := by simpa using hm
            obtain ⟨rfl, rfl⟩ := e0
            unfold Tr.ren
            rw [Tr.fill_fill, Tr.fill_fill]
            refine Tr.fill_congr fun y hy => ?_
            rcases hns y hy with e | e <;> subst e <;> decide
        · dsimp only
          rw [if_pos (by simp)]
          refine ⟨by decide, fun p7 H7 e7 h7 => ⟨plD q0, .tuple [], ((hzd.ext e).ext e5).ext (e6.trans e7), .tup h7 .nil, pl_shaped q0, by decide +kernel, _, rfl, ?_⟩⟩
          have e57 := e5.trans (e6.trans e7)
          have e67 := e7
          by_cases hk : (if true = true then !PyData.eqv (plD q0) (.tuple []) else PyData.eqv (plD q0) (.tuple [])) = true
          · rw [if_pos hk]
            refine ⟨tyV_lst ((e57.lst0 hys)), r1, .a, ta, l, rfl, ((er1.ext e).ext e57), by decide, (hT.ext0 e67), fun w7 H7 e7 hw7 => ⟨l1, z, g2, s.ren "1", u0, .b, q0, rfl, ((el1.ext e).ext e57).ext e7, ((hzd.ext e).ext e57).ext e7, by omega, by omega, hat, ((eg2.ext e).ext e57).ext e7, fun w8 H8 e8 hw8 => ⟨w8, (s.ren "1").putP q0 .b, ta, l, rfl, hw8, by omega, ((hT.ext0 e67).ext0 e7).ext0 e8, fun w9 H9 e9 hw9 => ⟨by decide, fun p10 H10 e10 h10 => ⟨ys, ((e7.trans e8).trans (e9.trans e10)).lst0 (e57.lst0 hys), by omega, fun H11 e11 h11 => ?_⟩⟩⟩⟩⟩
            have e7t := (e7.trans e8).trans (e9.trans e10)
            refine ⟨_, _, ⟨rfl, rfl⟩, ((e.trans e57.any).trans e7t.any).trans e11, _, h11, ps ++ [((Tr.a).fill (lk l), ((s.ren "1").putP q0 .b).fill (lk l))], ?_, by rw [List.length_append, List.length_singleton]; omega, ?_, fun _ => ?_⟩
            · rw [List.map_append]
              exact ((((hps.ext e57).ext e7t).ext e11).append (.cons (.tup (tupF_ext e11 h10) (.cons ((((hw7.ext e8).ext e9).ext e10).ext e11) (.cons ((hw9.ext e10).ext e11) .nil))) .nil))
            · intro pq hpq
              rcases List.mem_append.mp hpq with z1 | z1
              · exact hok pq z1
              · have e0 : pq = ((Tr.a).fill (lk l), ((s.ren "1").putP q0 .b).fill (lk l)) := by simpa using z1
                subst e0
                refine ⟨fun x hx => (by cases hx), fun x hx => nv4_sub x (hUl.fresh hputn x hx).1, (show 1 ≤ 60 by decide), ?_⟩
                have := Tr.dep_fill_le (s := lk l) (B := 49) (by omega) (t := (s.ren "1").putP q0 .b) fun x w hx hw => by
                  have := (hUl.vals x w (lk_mem hw)).2
                  have := EB_le (Nat.le_trans hUl.len (by decide : NV4.length ≤ 4))
                  omega
                show (Tr.fill (lk l) ((s.ren "1").putP q0 .b)).dep ≤ 60
                omega
            · by_cases h0 : 0 < j
              · exact List.mem_append_left _ (hin h0)
              · have hj0 : j = 0 := by omega
                have := hq00 hj0
                subst this
                refine List.mem_append_right _ ?_
                have e1 : ((s.ren "1").putP [] .b) = .b := by cases (s.ren "1") <;> rfl
                rw [e1]
                exact List.mem_singleton.mpr rfl
          · rw [if_neg hk]
            have sh : ∀ t : Tr, t.names = [] → t.dep = 1 → SeqAt.shaped (.tuple [s.data, t.data]) = true := fun t ht htd => by
              have z1 : ∀ x ∈ s.names, PyData.strOk x = true := fun x hx => ns6_ok.ok x (hs' x hx).1
              have z2 : ∀ x ∈ t.names, PyData.strOk x = true := fun x hx => by rw [ht] at hx; cases hx
              have z3 : (PyData.tuple [s.data, t.data]).depth ≤ 64 := by simp [PyData.depth, PyData.depthAll, Tr.depth_data, htd]; omega
              unfold SeqAt.shaped
              rw [decide_eq_true z3]
              simp only [Tr.lay_tup, Tr.lay_cons, Tr.lay_nil, Tr.lay_data s z1, Tr.lay_data t z2, Bool.and_self]
            refine ⟨_, _, (eu4.ext e).ext e57, (ev4.ext e).ext e57, sh .a rfl rfl, sh .b rfl rfl, _, rfl, ?_⟩
            have hab : PyData.eqv (.tuple [s.data, Tr.a.data]) (.tuple [s.data, Tr.b.data]) = false := by
              rw [Tr.eqv_tup, Tr.eqvAll_cons, Tr.eqvAll_cons, Tr.eqv_data, Tr.eqv_data]
              simp
            rw [hab, if_pos (by decide)]
            refine ⟨tyV_lst ((e57.lst0 hys)), r1, .a, ta, l, rfl, ((er1.ext e).ext e57), by decide, (hT.ext0 e67), fun w7 H7 e7 hw7 => ⟨l1, z, g2, s.ren "1", u0, .b, q0, rfl, ((el1.ext e).ext e57).ext e7, ((hzd.ext e).ext e57).ext e7, by omega, by omega, hat, ((eg2.ext e).ext e57).ext e7, fun w8 H8 e8 hw8 => ⟨w8, (s.ren "1").putP q0 .b, ta, l, rfl, hw8, by omega, ((hT.ext0 e67).ext0 e7).ext0 e8, fun w9 H9 e9 hw9 => ⟨by decide, fun p10 H10 e10 h10 => ⟨ys, ((e7.trans e8).trans (e9.trans e10)).lst0 (e57.lst0 hys), by omega, fun H11 e11 h11 => ?_⟩⟩⟩⟩⟩
            have e7t := (e7.trans e8).trans (e9.trans e10)
            refine ⟨_, _, ⟨rfl, rfl⟩, ((e.trans e57.any).trans e7t.any).trans e11, _, h11, ps ++ [((Tr.a).fill (lk l), ((s.ren "1").putP q0 .b).fill (lk l))], ?_, by rw [List.length_append, List.length_singleton]; omega, ?_, fun _ => ?_⟩
            · rw [List.map_append]
              exact ((((hps.ext e57).ext e7t).ext e11).append (.cons (.tup (tupF_ext e11 h10) (.cons ((((hw7.ext e8).ext e9).ext e10).ext e11) (.cons ((hw9.ext e10).ext e11) .nil))) .nil))
            · intro pq hpq
              rcases List.mem_append.mp hpq with z1 | z1
              · exact hok pq z1
              · have e0 : pq = ((Tr.a).fill (lk l), ((s.ren "1").putP q0 .b).fill (lk l)) := by simpa using z1
                subst e0
                refine ⟨fun x hx => (by cases hx), fun x hx => nv4_sub x (hUl.fresh hputn x hx).1, (show 1 ≤ 60 by decide), ?_⟩
                have := Tr.dep_fill_le (s := lk l) (B := 49) (by omega) (t := (s.ren "1").putP q0 .b) fun x w hx hw => by
                  have := (hUl.vals x w (lk_mem hw)).2
                  have := EB_le (Nat.le_trans hUl.len (by decide : NV4.length ≤ 4))
                  omega
                show (Tr.fill (lk l) ((s.ren "1").putP q0 .b)).dep ≤ 60
                omega
            · by_cases h0 : 0 < j
              · exact List.mem_append_left _ (hin h0)
              · have hj0 : j = 0 := by omega
                have := hq00 hj0
                subst this
                refine List.mem_append_right _ ?_
                have e1 : ((s.ren "1").putP [] .b) = .b := by cases (s.ren "1") <;> rfl
                rw [e1]
                exact List.mem_singleton.mpr rfl
    · subst hσ
      walk_at "rd"
      refine ⟨ys, hys, fun q' H5 e5 h5 => q _ ps _ ?_ (.tup h5 (hps.ext e5)) hok (hin ?_)⟩
      · exact (((e1.trans e2).trans ((e24.over n3 e))).trans e5)
      · rw [Tr.spots_nv (Tr.ren_nv hs)] at lsp
        rw [lsp]
        exact Nat.succ_pos _
end
end Sq
set_option Elab.async false
set_option linter.all false
set_option maxRecDepth 100000
set_option maxHeartbeats 4000000
namespace Sq
open PySem PySem.Spec PyProof.Rows L2 RZ
local macro_rules | `(tactic| walk_at "rd") => `(tactic| simp only [tCont, tDisp, tPairs, rIndexS, wipe, tNoPart, tDG2, tDGF, tDInF, tDNInF, sDPutF, tDNewF, rSortD, rInS, rInT, rEqLF, tDcF, tDc2F, tLcF, tForF, tAllF, tAnyF, tSumF, iEnumF, iZipF, iKeysF, iItems, tLZip, tYes, tSeq, tIfS, tNext, tRet, tRetN, tDrop, tTest, tB, tNot, tAnd, tOr, tChain, tOp, tUn, tCB, tCons, tNil, tC, tVar, tIf, tAndV, tOrV, tNotV, tAsg, tPar, tPar3, gName, gSub, gTupF, gCons, gNil, tTupF, tLstF, rI0, rI, rIxF, rIxG, rIxS, rSetF, rSlF, rCatF, rCatL, rTupL, rListT, rListL, rLenT, rLenL, iTupF, iLstF, rAppF, rExtF, rPopF, tBM, tBM0, tSl, tPart, rEq, rNe, tCall, L2.start,
  List.map_cons, List.map_nil, List.length_cons, List.length_nil, Nat.sub_self, List.replicate, List.append_nil, List.cons_append, List.nil_append, List.getElem?_cons_zero, List.getElem?_cons_succ, List.set_cons_zero, List.set_cons_succ,
  exSl, exI, exI2, exB, exS, exR, ex1, ex1', V.int.injEq, V.bl.injEq, V.ref.injEq, V.str.injEq, Option.some.injEq, List.cons.injEq, and_true, true_and, reduceCtorEq, false_and, and_false, or_false, false_or, exists_false, exists_and_left, exists_eq_left', decide_eq_true_eq, decide_true, decide_false, if_false, if_true, ite_true, ite_false, Bool.false_eq_true, Bool.not_true, Bool.not_false, Nat.reduceAdd, Nat.reduceSub, Nat.zero_add, atI_0, atI_1, atI_2, atI_3, ixN_0, ixN_1, ixN_2, cutV_1, cutV_2, Option.some.injEq, HO.lst.injEq, HO.dK.injEq, scal])
local macro_rules | `(tactic| walk_at "rdc") => `(tactic| simp (config := { contextual := true }) only [tCont, tDisp, tPairs, rIndexS, wipe, tNoPart, tDG2, tDGF, tDInF, tDNInF, sDPutF, tDNewF, rSortD, rInS, rInT, rEqLF, tDcF, tDc2F, tLcF, tForF, tAllF, tAnyF, tSumF, iEnumF, iZipF, iKeysF, iItems, tLZip, tYes, tSeq, tIfS, tNext, tRet, tRetN, tDrop, tTest, tB, tNot, tAnd, tOr, tChain, tOp, tUn, tCB, tCons, tNil, tC, tVar, tIf, tAndV, tOrV, tNotV, tAsg, tPar, tPar3, gName, gSub, gTupF, gCons, gNil, tTupF, tLstF, rI0, rI, rIxF, rIxG, rIxS, rSetF, rSlF, rCatF, rCatL, rTupL, rListT, rListL, rLenT, rLenL, iTupF, iLstF, rAppF, rExtF, rPopF, tBM, tBM0, tSl, tPart, rEq, rNe, tCall, L2.start,
  List.map_cons, List.map_nil, List.length_cons, List.length_nil, Nat.sub_self, List.replicate, List.append_nil, List.cons_append, List.nil_append, List.getElem?_cons_zero, List.getElem?_cons_succ, List.set_cons_zero, List.set_cons_succ,
  exSl, exI, exI2, exB, exS, exR, ex1, ex1', V.int.injEq, V.bl.injEq, V.ref.injEq, V.str.injEq, Option.some.injEq, List.cons.injEq, and_true, true_and, reduceCtorEq, false_and, and_false, or_false, false_or, exists_false, exists_and_left, exists_eq_left', decide_eq_true_eq, decide_true, decide_false, if_false, if_true, ite_true, ite_false, Bool.false_eq_true, Bool.not_true, Bool.not_false, Nat.reduceAdd, Nat.reduceSub, Nat.zero_add, atI_0, atI_1, atI_2, atI_3, ixN_0, ixN_1, ixN_2, cutV_1, cutV_2, Option.some.injEq, HO.lst.injEq, HO.dK.injEq, scal, *])
section
variable {P : Program} {w : World} {K : PySem.W.Frag} {mg : Str → Option Value} {base : Heap} {f c tb tw : Addr} {fd : FuncData} {NS NV : List Str}
abbrev n__law_rounds : List Str := ["script", "most", "cells", "cell"]
theorem sc__law_rounds : FnScope n__law_rounds ["script", "most"] (defScope s__law_rounds) := ⟨rfl, rfl, rfl, by decide +kernel, rfl, by decide +kernel, by decide +kernel⟩
/-- the script's list, whatever its numbers -/
def spRounds (K : PySem.W.Frag) : Sp := fun vs H Q _ => ∃ (a : Addr) (ns : List Int), vs = [.ref a, .int 4] ∧ SqL K H a (ns.map V.int) ∧
  ∀ (p : Addr) (ds : List Addr) (H' : Hp), Ext [] H H' → H' p = some (.lst (ds.map V.ref)) → ds.length ≤ 4 → (∀ d ∈ ds, DiceAt H' d) → ds.Nodup → p ∉ ds → Q (.ref p) H'
theorem ok_rounds (F : Dn K mg "_law_rounds" s__law_rounds f fd c) (B : Bl mg) (G__law_dice : Cal P w K mg base 1 "_law_dice" spDice) : Cal P w K mg base 2 "_law_rounds" (spRounds K) := by
  refine F.cal (ps := ["script", "most"]) (fun _ _ _ _ _ _ us hl => match us, hl with | [_, _], _ => rfl) sc__law_rounds (fun vs H Q E h => ?_) (fun A outer s H vs Q E hr h => ?_)
  · obtain ⟨_, _, rfl, _⟩ := h; rfl
  obtain ⟨a, ns, rfl, ha, q⟩ := h
  refine ⟨_, (pss_cons (ps_set (i := 2) sc__law_rounds.nd rfl (by first | exact Or.inl rfl | exact Or.inr rfl) (pe_slice sl_list (pv 0) po_none (po_some (pv 1))))
    (pss_cons (ps_if (pt_cmpR (op_eqLK K hr.units) (pv 2) (pe_lstF pa_nil) (nomark _)) (pss_one (ps_set (i := 2) sc__law_rounds.nd rfl (by first | exact Or.inl rfl | exact Or.inr rfl) (pe_lstF (pa_cons pe_int pa_nil)))) pss_nil)
    (pss_one (ps_ret (pe_lcF (own := [("cell", 3)]) rfl sc__law_rounds.nd (pi_lstK K (pv 2)) (blkOk_by (own := [("cell", 3)]) (N := n__law_rounds) (sc := defScope s__law_rounds) (by decide +kernel)) (fun _ _ _ _ _ => (pg_name (i := 3) sc__law_rounds.nd rfl (by first | exact Or.inl rfl | exact Or.inr rfl))) (fun _ _ _ _ _ => pts_nil) (fun _ _ _ _ _ => (C8.pe_c G__law_dice hr (by omega) (by rfl) (pa_cons (pv 3) pa_nil)))))))), ?_⟩
  have mk : ∀ (pl : Addr) (ms : List Int) (H1 : Hp) (x0 x1 x2 : Option V), ms.length ≤ 4 → Ext [] H H1 → H1 pl = some (.lst (ms.map V.int)) → LcB (Itl K pl) (gName 3) tYes (tCall spDice [] C8.E0 (tCons (tVar 3) tNil)) [3] [x0, x1, x2, none] H1 Q := fun pl ms H1 x0 x1 x2 hl e1 h1 => by
    refine lc_go walk_list (fun D i ys H' => ∃ ds : List Addr, ys = ds.map V.ref ∧ ds.length = i ∧ Ext [] H1 H' ∧ (∀ d ∈ ds, DiceAt H' d ∧ d ≠ D) ∧ ds.Nodup) (fun D hD => ⟨[], rfl, rfl, Ext.new hD, fun d hd => (by cases hd), List.nodup_nil⟩) (fun D i ys H' ⟨_, _, _, e, _⟩ => SqL.of (e.lst0 h1)) (fun D i x ys H' H'' hD hi ⟨ds, hys, hdl, e, hds, nd⟩ hyl hH y => ?_) fun D ys H' hD ⟨ds, hys, hdl, e, hds, nd⟩ hH _ => ?_
    · obtain ⟨rfl, hx⟩ := y
      rw [List.getElem?_map] at hx
      cases hm : ms[i]? with
      | none => rw [hm] at hx; cases hx
      | some n =>
        rw [hm] at hx
        cases hx
        walk_at "rd"
        have hs1 : (100 : Nat) < sizeLine := by decide
        rw [List.length_map] at hi
        refine ⟨n, rfl, fun p H2 hp e2 hdp => ⟨ys, e2.lst0 hH, by omega, ys ++ [.ref p], by rw [List.length_append, List.length_singleton]; omega, upd_same, ds ++ [p], by rw [hys, List.map_append]; rfl, by rw [List.length_append, List.length_singleton]; omega, (e.trans e2).over hD (Ext.setL List.mem_cons_self (e2.lst0 hH)), fun d hd => ?_, ?_⟩⟩
        · have keep : ∀ d, DiceAt H2 d → d ≠ D → DiceAt (upd H2 D (.lst (ys ++ [.ref p]))) d ∧ d ≠ D := fun d ⟨x, y, z, h⟩ n => ⟨⟨x, y, z, by rw [upd_ne n]; exact h⟩, n⟩
          rcases List.mem_append.mp hd with z | z
          · obtain ⟨⟨x, y, z, h⟩, n⟩ := hds d z
            exact keep d ⟨x, y, z, e2.lst0 h⟩ n
          · have : d = p := by simpa using z
            subst this
            exact keep d hdp fun z => by rw [z, hH] at hp; cases hp
        · refine List.nodup_append.mpr ⟨nd, by simp, fun a ha b hb e => ?_⟩
          have hb' : b = p := by simpa using hb
          subst hb' e
          obtain ⟨⟨x, y, z, h⟩, _⟩ := hds a ha
          rw [h] at hp
          cases hp
    · rw [List.length_map] at hdl
      exact q D ds H' (e1.trans e) (by rw [hH, hys]) (by omega) (fun d hd => (hds d hd).1) nd fun hm => (hds D hm).2 rfl
  have tdi : ∀ (ms : List Int) (H1 : Hp), TdAll K H1 (ms.map V.int) (ms.map PyData.int) := fun ms H1 => by
    induction ms with
    | nil => exact .nil
    | cons m ms ih => exact .cons (.int m) ih
  have shi : ∀ ms : List Int, SeqAt.shaped (.list (ms.map PyData.int)) = true := fun ms => by
    have : PyData.canLayAll0 (ms.map PyData.int) = true ∧ PyData.depthAll (ms.map PyData.int) = 0 := by
      induction ms with
      | nil => exact ⟨by rw [List.map_nil, PyData.canLayAll0], by rw [List.map_nil, PyData.depthAll]⟩
      | cons x l ih => exact ⟨by rw [List.map_cons, PyData.canLayAll0, ih.1, PyData.canLay0]; rfl, by rw [List.map_cons, PyData.depthAll, ih.2, PyData.depth]; rfl⟩
    unfold SeqAt.shaped
    rw [PyData.canLay0, PyData.depth, this.1, this.2]
    rfl
  have she : SeqAt.shaped (.list []) = true := by decide +kernel
  have hcut : cutV (ns.map V.int) none (some 4) = (ns.take 4).map V.int := by
    have := cutV_to (xs := ns.map V.int) (k := 4)
    rw [List.map_take]
    exact this
  have h4 : (ns.take 4).length ≤ 4 := by rw [List.length_take]; omega
  walk_at "rd"
  refine ⟨a, ns.map V.int, rfl, ha, fun p1 hp1 => ⟨by decide, fun p2 H2 n2 e2 h2 => ⟨p1, rfl, _, e2.lst0 upd_same, _, h2, (ns.take 4).map PyData.int, by rw [hcut]; exact tdi _ _, [], .nil, shi _, she, ?_⟩⟩⟩
  have e02 : Ext [] H H2 := (Ext.new hp1).trans e2
  by_cases hq : PyData.eqvAll ((ns.take 4).map PyData.int) [] = true
  · rw [if_pos hq]
    exact ⟨by decide, fun p3 H3 n3 e3 h3 => ⟨_, h3, mk p3 [0] H3 _ _ _ (by decide) (e02.trans e3) h3⟩⟩
  · rw [if_neg hq]
    refine ⟨p1, rfl, _, e2.lst0 upd_same, ?_⟩
    exact mk p1 (ns.take 4) H2 _ _ _ h4 e02 (by rw [← hcut]; exact e2.lst0 upd_same)
end
end Sq
set_option Elab.async false
set_option linter.all false
set_option maxRecDepth 100000
set_option maxHeartbeats 4000000
namespace Sq
open PySem PySem.Spec PyProof.Rows L2 RZ
local macro_rules | `(tactic| walk_at "rd") => `(tactic| simp only [tCont, tDisp, tPairs, rIndexS, wipe, tNoPart, tDG2, tDGF, tDInF, tDNInF, sDPutF, tDNewF, rSortD, rInS, rInT, rEqLF, tDcF, tDc2F, tLcF, tForF, tAllF, tAnyF, tSumF, iEnumF, iZipF, iKeysF, iItems, tLZip, tYes, tSeq, tIfS, tNext, tRet, tRetN, tDrop, tTest, tB, tNot, tAnd, tOr, tChain, tOp, tUn, tCB, tCons, tNil, tC, tVar, tIf, tAndV, tOrV, tNotV, tAsg, tPar, tPar3, gName, gSub, gTupF, gCons, gNil, tTupF, tLstF, rI0, rI, rIxF, rIxG, rIxS, rSetF, rSlF, rCatF, rCatL, rTupL, rListT, rListL, rLenT, rLenL, iTupF, iLstF, rAppF, rExtF, rPopF, tBM, tBM0, tSl, tPart, rEq, rNe, tCall, L2.start,
  List.map_cons, List.map_nil, List.length_cons, List.length_nil, Nat.sub_self, List.replicate, List.append_nil, List.cons_append, List.nil_append, List.getElem?_cons_zero, List.getElem?_cons_succ, List.set_cons_zero, List.set_cons_succ,
  exSl, exI, exI2, exB, exS, exR, ex1, ex1', V.int.injEq, V.bl.injEq, V.ref.injEq, V.str.injEq, Option.some.injEq, List.cons.injEq, and_true, true_and, reduceCtorEq, false_and, and_false, or_false, false_or, exists_false, exists_and_left, exists_eq_left', decide_eq_true_eq, decide_true, decide_false, if_false, if_true, ite_true, ite_false, Bool.false_eq_true, Bool.not_true, Bool.not_false, Nat.reduceAdd, Nat.reduceSub, Nat.zero_add, atI_0, atI_1, atI_2, atI_3, ixN_0, ixN_1, ixN_2, cutV_1, cutV_2, Option.some.injEq, HO.lst.injEq, HO.dK.injEq, scal])
local macro_rules | `(tactic| walk_at "rdc") => `(tactic| simp (config := { contextual := true }) only [tCont, tDisp, tPairs, rIndexS, wipe, tNoPart, tDG2, tDGF, tDInF, tDNInF, sDPutF, tDNewF, rSortD, rInS, rInT, rEqLF, tDcF, tDc2F, tLcF, tForF, tAllF, tAnyF, tSumF, iEnumF, iZipF, iKeysF, iItems, tLZip, tYes, tSeq, tIfS, tNext, tRet, tRetN, tDrop, tTest, tB, tNot, tAnd, tOr, tChain, tOp, tUn, tCB, tCons, tNil, tC, tVar, tIf, tAndV, tOrV, tNotV, tAsg, tPar, tPar3, gName, gSub, gTupF, gCons, gNil, tTupF, tLstF, rI0, rI, rIxF, rIxG, rIxS, rSetF, rSlF, rCatF, rCatL, rTupL, rListT, rListL, rLenT, rLenL, iTupF, iLstF, rAppF, rExtF, rPopF, tBM, tBM0, tSl, tPart, rEq, rNe, tCall, L2.start,
  List.map_cons, List.map_nil, List.length_cons, List.length_nil, Nat.sub_self, List.replicate, List.append_nil, List.cons_append, List.nil_append, List.getElem?_cons_zero, List.getElem?_cons_succ, List.set_cons_zero, List.set_cons_succ,
  exSl, exI, exI2, exB, exS, exR, ex1, ex1', V.int.injEq, V.bl.injEq, V.ref.injEq, V.str.injEq, Option.some.injEq, List.cons.injEq, and_true, true_and, reduceCtorEq, false_and, and_false, or_false, false_or, exists_false, exists_and_left, exists_eq_left', decide_eq_true_eq, decide_true, decide_false, if_false, if_true, ite_true, ite_false, Bool.false_eq_true, Bool.not_true, Bool.not_false, Nat.reduceAdd, Nat.reduceSub, Nat.zero_add, atI_0, atI_1, atI_2, atI_3, ixN_0, ixN_1, ixN_2, cutV_1, cutV_2, Option.some.injEq, HO.lst.injEq, HO.dK.injEq, scal, *])
theorem units65 {k : Nat} {A : Around} (r : Room k A) : A.units + 65 < cLine := by have := r.un; omega
section
variable {P : Program} {w : World} {K : PySem.W.Frag} {mg : Str → Option Value} {base : Heap} {f c tb tw : Addr} {fd : FuncData}
abbrev s_law : Stmt := top 19
abbrev n_law : List Str := ["script", "order", "dice", "weights", "one", "two", "three", "table", "plain", "other", "inner", "place", "pairs"]
theorem sc_law : FnScope n_law ["script"] (defScope s_law) := ⟨rfl, rfl, rfl, by decide +kernel, rfl, by decide +kernel, by decide +kernel⟩
def spLaw (K : PySem.W.Frag) (tb tw : Addr) : Sp := fun vs H Q _ => ∃ (a : Addr) (ns : List Int), vs = [.ref a] ∧ SqL K H a (ns.map V.int) ∧ GxR.TabG H tb ∧ GxR.TabG H tw ∧ ∀ H', Q (.bl true) H'
structure RI (ds : List Addr) (p o tb tw : Addr) (H : Hp) : Prop where
  o : H o = some (.lst (ordS.map V.str))
  p : H p = some (.lst (ds.map V.ref))
  d : ∀ d ∈ ds, DiceAt H d
  tb : GxR.TabG H tb
  tw : GxR.TabG H tw
theorem RI.step {ds : List Addr} {p o tb tw d : Addr} {H H' : Hp} (h : RI ds p o tb tw H) (hp : p ∉ ds) (hd : d ∈ ds) (e : Ext [d] H H') (h' : DiceAt H' d) : RI ds p o tb tw H' := by
  refine ⟨e.lst h.o fun z => ?_, e.lst h.p fun z => ?_, fun d' hd' => ?_, e.tab _ h.tb, e.tab _ h.tw⟩
  · have z' : o = d := by simpa using z
    obtain ⟨x, y, z, q⟩ := h.d d hd
    have := h.o
    rw [z', q] at this
    cases this
  · have z' : p = d := by simpa using z
    rw [z'] at hp
    exact hp hd
  · by_cases q : d' = d
    · rw [q]; exact h'
    · obtain ⟨x, y, z, r⟩ := h.d d' hd'
      exact ⟨x, y, z, e.lst r (by simpa using q)⟩
theorem Ext.overS {S : List Addr} {H H1 H2 : Hp} {D : Addr} (a : Ext S H H1) (n : H D = none) (b : Ext [D] H1 H2) : Ext S H H2 := by
  refine ⟨fun c o e h m => ?_, fun c o e => b.tup c o (a.tup c o e), fun c o u e => b.frz c o u (a.frz c o u e), fun P h => b.tab P (a.tab P h)⟩
  refine b.keep c o (a.keep c o e h m) (fun z => ?_) m
  have z' : c = D := by simpa using z
  rw [z', n] at e
  cases e
theorem DiceAt.ext0 {H H' : Hp} {a : Addr} (e : Ext [] H H') : DiceAt H a → DiceAt H' a := fun ⟨x, y, z, h⟩ => ⟨x, y, z, e.lst0 h⟩
/-- what a turn has: the dice, the weights, three trees -/
structure LS (K : PySem.W.Frag) (ds : List Addr) (p o tb tw p1 : Addr) (wi wm : Int) (v1 v2 v3 : V) (t1 t2 t3 : Tr) (H : Hp) : Prop where
  ri : RI ds p o tb tw H
  w : WtA H p1 wi wm
  h1 : Td K H v1 t1.data
  h2 : Td K H v2 t2.data
  h3 : Td K H v3 t3.data
structure TOk (t : Tr) (d : Nat) : Prop where
  dep : t.dep ≤ d
  nm : ∀ x ∈ t.names, x = "x" ∨ x = "y"
theorem TOk.ns {t : Tr} {d : Nat} (h : TOk t d) : ∀ x ∈ t.names, x ∈ NS6 := fun x hx => by rcases h.nm x hx with e | e <;> subst e <;> decide
theorem RI.ext0 {ds : List Addr} {p o tb tw : Addr} {H H' : Hp} (e : Ext [] H H') (h : RI ds p o tb tw H) : RI ds p o tb tw H' := ⟨e.lst0 h.o, e.lst0 h.p, fun d hd => DiceAt.ext0 e (h.d d hd), e.tab _ h.tb, e.tab _ h.tw⟩
section
variable {ds : List Addr} {p o p1 : Addr} {wi wm : Int} {v1 v2 v3 : V} {t1 t2 t3 : Tr} {H H' : Hp}
theorem LS.ext0 (e : Ext [] H H') (h : LS K ds p o tb tw p1 wi wm v1 v2 v3 t1 t2 t3 H) : LS K ds p o tb tw p1 wi wm v1 v2 v3 t1 t2 t3 H' := ⟨h.ri.ext0 e, h.w.ext0 e, h.h1.ext e, h.h2.ext e, h.h3.ext e⟩
theorem LS.step {d : Addr} (h : LS K ds p o tb tw p1 wi wm v1 v2 v3 t1 t2 t3 H) (hp : p ∉ ds) (hd : d ∈ ds) (e : Ext [d] H H') (h' : DiceAt H' d) : LS K ds p o tb tw p1 wi wm v1 v2 v3 t1 t2 t3 H' := by
  refine ⟨h.ri.step hp hd e h', ⟨dctF_ext e (fun z => ?_) h.w.1, h.w.2⟩, h.h1.ext e, h.h2.ext e, h.h3.ext e⟩
  have z' : p1 = d := by simpa using z
  obtain ⟨x, y, z, q⟩ := h.ri.d d hd
  have := h.w.1
  rw [z'] at this
  unfold dctF at this
  rw [q] at this
  cases this
theorem LS.abv (h : LS K ds p o tb tw p1 wi wm v1 v2 v3 t1 t2 t3 H) {v u : V} {s t : Tr} {d1 d2 : Nat} (hv : Td K H v s.data) (hu : Td K H u t.data) (o1 : TOk s d1) (o2 : TOk t d2) {Q : VK} {E : XK} (q : ∀ H', Ext [] H H' → Q (.bl (s.abv wi wm t)) H') (k1 : d1 ≤ 20 := by omega) (k2 : d2 ≤ 20 := by omega) : spAbv K NS6 tb tw 41 66 [v, u, .ref p1, .ref o] H Q E :=
  ⟨v, u, s, t, p1, o, wi, wm, rfl, hv, hu, by have := o1.dep; omega, by have := o1.dep; omega, by have := o2.dep; omega, o1.ns, o2.ns, h.w, h.ri.o, h.ri.tb, h.ri.tw, q⟩
abbrev AB (K : PySem.W.Frag) (tb tw p1 o : Addr) (v u : V) (H : Hp) (k : Bool → Hp → Prop) : Prop := spAbv K NS6 tb tw 41 66 [v, u, .ref p1, .ref o] H (fun x H1 => ∃ c, x = V.bl c ∧ k c H1) C8.E0
theorem LS.tests (h : LS K ds p o tb tw p1 wi wm v1 v2 v3 t1 t2 t3 H) (o1 : TOk t1 4) (o2 : TOk t2 4) (o3 : TOk t3 3) {X R : Hp → Prop} (r : ∀ H', Ext [] H H' → R H') :
    AB K tb tw p1 o v1 v1 H fun c H1 => if c = true then X H1 else AB K tb tw p1 o v1 v2 H1 fun c H1 => if c = true then AB K tb tw p1 o v2 v1 H1 fun c H1 => if c = true then X H1 else
        AB K tb tw p1 o v1 v2 H1 fun c H1 => if c = true then AB K tb tw p1 o v2 v3 H1 fun c H1 => if c = true then AB K tb tw p1 o v1 v3 H1 fun c H1 => if (!c) = true then X H1 else R H1 else R H1 else R H1
      else AB K tb tw p1 o v1 v2 H1 fun c H1 => if c = true then AB K tb tw p1 o v2 v3 H1 fun c H1 => if c = true then AB K tb tw p1 o v1 v3 H1 fun c H1 => if (!c) = true then X H1 else R H1 else R H1 else R H1 := by
  have tt : ∀ H', Ext [] H H' → AB K tb tw p1 o v1 v2 H' fun c H1 => if c = true then AB K tb tw p1 o v2 v3 H1 fun c H1 => if c = true then AB K tb tw p1 o v1 v3 H1 fun c H1 => if (!c) = true then X H1 else R H1 else R H1 else R H1 := fun H0 e0 => by
    refine (h.ext0 e0).abv (h.ext0 e0).h1 (h.ext0 e0).h2 o1 o2 ?_; intro H1 e1; refine ⟨_, rfl, ?_⟩
    cases c1 : t1.abv wi wm t2 with
    | false => exact r _ (e0.trans e1)
    | true =>
      rw [if_pos rfl]
      have L := (h.ext0 e0).ext0 e1
      refine L.abv L.h2 L.h3 o2 o3 ?_; intro H2 e2; refine ⟨_, rfl, ?_⟩
      cases c2 : t2.abv wi wm t3 with
      | false => exact r _ ((e0.trans e1).trans e2)
      | true =>
        rw [if_pos rfl]
        have L := L.ext0 e2
        refine L.abv L.h1 L.h3 o1 o3 ?_; intro H3 e3; refine ⟨_, rfl, ?_⟩
        rw [Tr.abv_trans c1 c2]
        exact r _ (((e0.trans e1).trans e2).trans e3)
  refine h.abv h.h1 h.h1 o1 o1 ?_; intro H1 e1; refine ⟨_, rfl, ?_⟩
  rw [Tr.abv_irrefl]
  dsimp only
  rw [if_neg (by decide)]
  have L := h.ext0 e1
  refine L.abv L.h1 L.h2 o1 o2 ?_; intro H2 e2; refine ⟨_, rfl, ?_⟩
  cases c1 : t1.abv wi wm t2 with
  | false => exact tt _ (e1.trans e2)
  | true =>
    rw [if_pos rfl]
    have L := L.ext0 e2
    refine L.abv L.h2 L.h1 o2 o1 ?_; intro H3 e3; refine ⟨_, rfl, ?_⟩
    cases c2 : t2.abv wi wm t1 with
    | false => exact tt _ ((e1.trans e2).trans e3)
    | true => exact (Tr.abv_asym c1 c2).elim
theorem LS.ift (h : LS K ds p o tb tw p1 wi wm v1 v2 v3 t1 t2 t3 H) (o1 : TOk t1 4) (o2 : TOk t2 4) {T BIG : Hp → Prop} (t : ∀ H', Ext [] H H' → T H') (b : (∀ H', Ext [] H H' → T H') → t1.abv wi wm t2 = true → ∀ H', Ext [] H H' → BIG H') :
    AB K tb tw p1 o v1 v2 H fun c H1 => if c = true then BIG H1 else T H1 := by
  refine h.abv h.h1 h.h2 o1 o2 ?_; intro H1 e1; refine ⟨_, rfl, ?_⟩
  cases c1 : t1.abv wi wm t2 with
  | false => exact t _ e1
  | true => exact b t c1 _ e1
theorem TOk.fill {t g1 g2 : Tr} {d : Nat} (h : TOk t d) (k1 : g1.dep ≤ 3 ∧ g1.names = []) (k2 : g2.dep ≤ 3 ∧ g2.names = []) : TOk (t.fill (lk [("x", g1), ("y", g2)])) (d + 3) ∧ (t.fill (lk [("x", g1), ("y", g2)])).names = [] := by
  have hn : (t.fill (lk [("x", g1), ("y", g2)])).names = [] := by
    cases e : (t.fill (lk [("x", g1), ("y", g2)])).names with
    | nil => rfl
    | cons w ws =>
      obtain ⟨z, hz, hw⟩ := Tr.names_fill.mp (show w ∈ (t.fill (lk [("x", g1), ("y", g2)])).names by rw [e]; exact List.mem_cons_self)
      rcases h.nm z hz with q | q
      · subst q
        rw [show lk [("x", g1), ("y", g2)] "x" = some g1 from rfl] at hw
        simp [k1.2] at hw
      · subst q
        rw [show lk [("x", g1), ("y", g2)] "y" = some g2 from rfl] at hw
        simp [k2.2] at hw
  refine ⟨⟨?_, fun x hx => by rw [hn] at hx; cases hx⟩, hn⟩
  have := Tr.dep_fill_le (s := lk [("x", g1), ("y", g2)]) (B := 3) (by decide) (t := t) fun x u hx hu => by
    rcases h.nm x hx with q | q
    · subst q
      rw [show lk [("x", g1), ("y", g2)] "x" = some g1 from rfl] at hu
      cases hu; exact k1.1
    · subst q
      rw [show lk [("x", g1), ("y", g2)] "y" = some g2 from rfl] at hu
      cases hu; exact k2.1
  have := h.dep
  omega
end
theorem hideS_eq {t : TS} : hideS t = t := rfl
theorem ok_law (F : Dn K mg "law" s_law f fd c) (B : Bl mg) (G__law_rounds : Cal P w K mg base 2 "_law_rounds" (spRounds K)) (G__law_roll : Cal P w K mg base 1 "_law_roll" spRoll) (G__law_tree : Cal P w K mg base 10 "_law_tree" (spLT K 10)) (G_weight : Cal P w K mg base 40 "weight" (spWt K tw 40)) (G__law_weight : Cal P w K mg base 40 "_law_weight" (spWt K tw 40))
    (G_above : Cal P w K mg base 66 "above" (spAbv K NS6 tb tw 41 66)) (G_filled : Cal P w K mg base 64 "filled" (spFill K 64)) (G_spots : Cal P w K mg base 64 "spots" (spSpots K 64)) (G_at : Cal P w K mg base 1 "at" (spAt K)) (G_laid_at : Cal P w K mg base 64 "laid_at" (spLaid K 64)) (G_critical : Cal P w K mg base 66 "critical" (spCrit K)) : FnOk P w K mg base CX0 67 f fd ["script"] (spLaw K tb tw) := by
  refine F.ok sc_law (fun vs H Q E h => ?_) (fun A outer sh H vs Q E hr h => ?_)
  · obtain ⟨_, _, rfl, _⟩ := h; rfl
  obtain ⟨a, ns, rfl, ha, htb, htw, q⟩ := h
  refine ⟨_, (pss_cons (ps_set (i := 1) sc_law.nd rfl (by first | exact Or.inl rfl | exact Or.inr rfl) (pe_lstF (pa_cons pe_str (pa_cons pe_str (pa_cons pe_str (pa_cons pe_str pa_nil))))))
    (pss_cons (ps_forF PassesOwn.never rfl (pi_lstK K (C8.pe_c G__law_rounds hr (by omega) (by rfl) (pa_cons (pv 0) (pa_cons pe_int pa_nil)))) (pg_name (i := 2) sc_law.nd rfl (by first | exact Or.inl rfl | exact Or.inr rfl)) (PSs.hide (pss_cons (ps_set (i := 3) sc_law.nd rfl (by first | exact Or.inl rfl | exact Or.inr rfl) (pe_disp (pps_cons pe_str (pe_op op_add pe_int (C8.pe_c G__law_roll hr (by omega) (by rfl) (pa_cons (pv 2) (pa_cons pe_int pa_nil)))) (pps_cons pe_str (pe_op op_add pe_int (C8.pe_c G__law_roll hr (by omega) (by rfl) (pa_cons (pv 2) (pa_cons pe_int pa_nil)))) pps_nil)) (by rfl) (by rfl) (fun z => by cases z) (by decide)))
    (pss_cons (ps_par3 (i := 4) (j := 5) (l := 6) (by rfl) sc_law.nd rfl rfl rfl (by decide) (by decide) (by decide) rfl rfl rfl (pa_cons (C8.pe_c G__law_tree hr (by omega) (by rfl) (pa_cons (pv 2) (pa_cons pe_int (pa_cons pe_str pa_nil)))) (pa_cons (C8.pe_c G__law_tree hr (by omega) (by rfl) (pa_cons (pv 2) (pa_cons pe_int (pa_cons pe_str pa_nil)))) (pa_cons (C8.pe_c G__law_tree hr (by omega) (by rfl) (pa_cons (pv 2) (pa_cons pe_int (pa_cons pe_str pa_nil)))) pa_nil))) (by rfl))
    (pss_cons (ps_if (pt_cmpR op_ne (C8.pe_c G_weight hr (by omega) (by rfl) (pa_cons (pv 4) (pa_cons (pv 3) pa_nil))) (C8.pe_c G__law_weight hr (by omega) (by rfl) (pa_cons (pv 4) (pa_cons (pv 3) pa_nil))) (nomark _)) (pss_one (ps_ret pe_bl)) pss_nil)
    (pss_cons (ps_if (PW.pt (pw_or (pt_val (C8.pe_c G_above hr (by omega) (by rfl) (pa_cons (pv 4) (pa_cons (pv 4) (pa_cons (pv 3) (pa_cons (pv 1) pa_nil)))))) (pw_or1 (PW.pt (pw_and (pt_val (C8.pe_c G_above hr (by omega) (by rfl) (pa_cons (pv 4) (pa_cons (pv 5) (pa_cons (pv 3) (pa_cons (pv 1) pa_nil)))))) (pw_and1 (pt_val (C8.pe_c G_above hr (by omega) (by rfl) (pa_cons (pv 5) (pa_cons (pv 4) (pa_cons (pv 3) (pa_cons (pv 1) pa_nil)))))))))))) (pss_one (ps_ret pe_bl)) pss_nil)
    (pss_cons (ps_if (PW.pt (pw_and (pt_val (C8.pe_c G_above hr (by omega) (by rfl) (pa_cons (pv 4) (pa_cons (pv 5) (pa_cons (pv 3) (pa_cons (pv 1) pa_nil)))))) (pw_and (pt_val (C8.pe_c G_above hr (by omega) (by rfl) (pa_cons (pv 5) (pa_cons (pv 6) (pa_cons (pv 3) (pa_cons (pv 1) pa_nil)))))) (pw_and1 (pt_not (pt_val (C8.pe_c G_above hr (by omega) (by rfl) (pa_cons (pv 4) (pa_cons (pv 6) (pa_cons (pv 3) (pa_cons (pv 1) pa_nil))))))))))) (pss_one (ps_ret pe_bl)) pss_nil)
    (PSs.hide (pss_cons (ps_set (i := 7) sc_law.nd rfl (by first | exact Or.inl rfl | exact Or.inr rfl) (pe_disp (pps_cons pe_str (C8.pe_c G__law_tree hr (by omega) (by rfl) (pa_cons (pv 2) (pa_cons pe_int (pa_cons pe_str pa_nil)))) (pps_cons pe_str (C8.pe_c G__law_tree hr (by omega) (by rfl) (pa_cons (pv 2) (pa_cons pe_int (pa_cons pe_str pa_nil)))) pps_nil)) (by rfl) (by rfl) (fun z => by cases z) (by decide)))
    (pss_cons (ps_if (pt_val (C8.pe_c G_above hr (by omega) (by rfl) (pa_cons (pv 4) (pa_cons (pv 5) (pa_cons (pv 3) (pa_cons (pv 1) pa_nil)))))) (pss_cons (ps_if (pt_not (pt_val (C8.pe_c G_above hr (by omega) (by rfl) (pa_cons (C8.pe_c G_filled hr (by omega) (by rfl) (pa_cons (pv 4) (pa_cons (pv 7) pa_nil))) (pa_cons (C8.pe_c G_filled hr (by omega) (by rfl) (pa_cons (pv 5) (pa_cons (pv 7) pa_nil))) (pa_cons (pv 3) (pa_cons (pv 1) pa_nil))))))) (pss_one (ps_ret pe_bl)) pss_nil)
    (pss_cons (ps_if (pt_not (pt_val (C8.pe_c G_above hr (by omega) (by rfl) (pa_cons (pe_tupK K (pa_cons pe_str (pa_cons (pv 4) pa_nil))) (pa_cons (pe_tupK K (pa_cons pe_str (pa_cons (pv 5) pa_nil))) (pa_cons (pv 3) (pa_cons (pv 1) pa_nil))))))) (pss_one (ps_ret pe_bl)) pss_nil)
    (pss_one (ps_if (pt_not (pt_val (C8.pe_c G_above hr (by omega) (by rfl) (pa_cons (pe_tupK K (pa_cons pe_str (pa_cons (pv 6) (pa_cons (pv 4) pa_nil)))) (pa_cons (pe_tupK K (pa_cons pe_str (pa_cons (pv 6) (pa_cons (pv 5) pa_nil)))) (pa_cons (pv 3) (pa_cons (pv 1) pa_nil))))))) (pss_one (ps_ret pe_bl)) pss_nil)))) pss_nil)
    (PSs.hide (pss_cons (ps_par (i := 8) (j := 9) (by rfl) sc_law.nd rfl rfl (by decide) rfl rfl (pa_cons (C8.pe_c G_filled hr (by omega) (by rfl) (pa_cons (pv 4) (pa_cons (pv 7) pa_nil))) (pa_cons (C8.pe_c G_filled hr (by omega) (by rfl) (pa_cons (pv 5) (pa_cons (pv 7) pa_nil))) pa_nil)) (by rfl))
    (pss_cons (ps_if (pt_cmpR op_ne (pe_or (C8.pe_c G_above hr (by omega) (by rfl) (pa_cons (pv 8) (pa_cons (pv 9) (pa_cons (pv 3) (pa_cons (pv 1) pa_nil))))) (pe_one (C8.pe_c G_above hr (by omega) (by rfl) (pa_cons (pv 9) (pa_cons (pv 8) (pa_cons (pv 3) (pa_cons (pv 1) pa_nil))))))) (pe_cmpR (op_neK K hr.units) (pv 8) (pv 9) (nomark _)) (nomark _)) (pss_one (ps_ret pe_bl)) pss_nil)
    (PSs.hide (pss_cons (ps_set (i := 10) sc_law.nd rfl (by first | exact Or.inl rfl | exact Or.inr rfl) (pe_ifExp (pt_cmpR op_eq (pe_ix (ix_tupK K) (pv 6) pe_int (fun _ _ => rfl)) pe_str (nomark _)) (pv 4) (pv 6)))
    (PSs.hide (pss_cons (ps_forF PassesOwn.never rfl (pi_tupK K (C8.pe_c G_spots hr (by omega) (by rfl) (pa_cons (pv 4) pa_nil))) (pg_name (i := 11) sc_law.nd rfl (by first | exact Or.inl rfl | exact Or.inr rfl)) (pss_one (ps_if (PW.pt (pw_and (pt_cmpR (op_neK K hr.units) (pv 11) (pe_tupK K pa_nil) (nomark _)) (pw_and (pt_cmpR op_ne (pe_ix (ix_tupK K) (C8.pe_c G_at hr (by omega) (by rfl) (pa_cons (pv 4) (pa_cons (pv 11) pa_nil))) pe_int (fun _ _ => rfl)) pe_str (nomark _)) (pw_and1 (pt_not (pt_val (C8.pe_c G_above hr (by omega) (by rfl) (pa_cons (pv 4) (pa_cons (C8.pe_c G_at hr (by omega) (by rfl) (pa_cons (pv 4) (pa_cons (pv 11) pa_nil))) (pa_cons (pv 3) (pa_cons (pv 1) pa_nil))))))))))) (pss_one (ps_ret pe_bl)) pss_nil)))
    (PSs.hide (pss_one (ps_if (pt_cmpR op_ne (pe_ix (ix_tupK K) (pv 10) pe_int (fun _ _ => rfl)) pe_str (nomark _)) (pss_cons (ps_set (i := 12) sc_law.nd rfl (by first | exact Or.inl rfl | exact Or.inr rfl) (C8.pe_c G_critical hr (by omega) (by rfl) (pa_cons (pe_tupK K (pa_cons (pv 10) (pa_cons (pe_tupK K (pa_cons pe_str pa_nil)) pa_nil))) (pa_cons (pe_tupK K (pa_cons (pv 10) (pa_cons (pe_tupK K (pa_cons pe_str pa_nil)) pa_nil))) pa_nil))))
    (pss_cons (ps_if (pt_cmpR (op_ninTK K (units65 hr)) (pe_tupK K (pa_cons (pe_tupK K (pa_cons pe_str pa_nil)) (pa_cons (pe_tupK K (pa_cons pe_str pa_nil)) pa_nil))) (pv 12) (by rfl)) (pss_one (ps_ret pe_bl)) pss_nil)
    (pss_one (ps_if (pt_cmpR (op_neLK K hr.units) (pe_lcF (own := [("place", 11)]) rfl sc_law.nd (pi_tupK K (C8.pe_c G_spots hr (by omega) (by rfl) (pa_cons (pv 10) pa_nil))) (blkOk_by (own := [("place", 11)]) (N := n_law) (sc := defScope s_law) (by decide +kernel)) (fun _ _ _ _ _ => (pg_name (i := 11) sc_law.nd rfl (by first | exact Or.inl rfl | exact Or.inr rfl))) (fun _ _ _ _ _ => pts_one (pt_cmpR (op_neK K hr.units) (C8.pe_c G_laid_at hr (by omega) (by rfl) (pa_cons (pv 10) (pa_cons (pv 11) (pa_cons (C8.pe_c G_at hr (by omega) (by rfl) (pa_cons (pv 10) (pa_cons (pv 11) pa_nil))) pa_nil)))) (pv 10) (nomark _))) (fun _ _ _ _ _ => (pv 11))) (pe_lstF pa_nil) (nomark _)) (pss_one (ps_ret pe_bl)) pss_nil)))) pss_nil))))))))))))))))))))
    (pss_one (ps_ret pe_bl)))), ?_⟩
  walk_at "rd"
  refine ⟨by decide, fun o H0 no e0 ho => ⟨a, ns, rfl, e0.sqL0 ha, fun p ds H1 e1 hp hl hds nd hpd => ⟨p, rfl, _, hp, ?_⟩⟩⟩
  refine for_go walk_list (fun j σ' H' => (∃ x2 x3 x4 x5 x6 x7 x8 x9 x10 x11 x12, σ' = [some (.ref a), some (.ref o), x2, x3, x4, x5, x6, x7, x8, x9, x10, x11, x12]) ∧ RI ds p o tb tw H') ⟨⟨_, _, _, _, _, _, _, _, _, _, _, rfl⟩, ⟨e1.lst0 ho, hp, hds, e1.tab _ (e0.tab _ htb), e1.tab _ (e0.tab _ htw)⟩⟩ (fun j σ' H' _ ⟨_, r⟩ => SqL.of r.p) (fun j x σ' H2 H2' hj ⟨⟨x2, x3, x4, x5, x6, x7, x8, x9, x10, x11, x12, hσ⟩, ri⟩ y => ?_) fun σ' H' _ => q _
  obtain ⟨rfl, hx⟩ := y
  subst hσ
  rw [List.getElem?_map] at hx
  obtain ⟨d, hm, rfl⟩ : ∃ d, ds[j]? = some d ∧ x = V.ref d := by
    cases hm : ds[j]? with
    | none => rw [hm] at hx; cases hx
    | some d => rw [hm] at hx; exact ⟨d, rfl, (Option.some.inj hx).symm⟩
  have hdm : d ∈ ds := List.mem_of_getElem? hm
  rw [hideS_eq]
  walk_at "rd"
  intro p1 np1
  have hd0 := ri.d d hdm
  have eN : Ext [] H2' (upd H2' p1 (.dK [])) := Ext.new np1
  have nd1 : p1 ∉ [d] := fun z => by
    have z' : p1 = d := by simpa using z
    obtain ⟨x, y, z, q⟩ := hd0
    rw [z', q] at np1
    cases np1
  refine ⟨d, 3, rfl, hd0.ext0 eN, by decide, by decide, fun r1 H3 r10 r11 e3 hd3 => ⟨r1, rfl, d, 2, rfl, hd3, by decide, by decide, fun r2 H4 r20 r21 e4 hd4 => ⟨r2, rfl, (e3.trans e4).dK upd_same nd1, [(.inr "i", .int (1 + r1)), (.inr "m", .int (1 + r2))], rfl, by show 2 ≤ 15; decide, ?_⟩⟩⟩
  have e24 : Ext [d] H2' H4 := eN.any.trans (e3.trans e4)
  have h4 := (e3.trans e4).dK upd_same nd1
  generalize hH5 : upd H4 p1 (HO.dK (mergeK [] [(Sum.inr (Str.ofString "i"), V.int (1 + r1)), (Sum.inr (Str.ofString "m"), V.int (1 + r2))])) = H5
  have e45 : Ext [p1] H4 H5 := by rw [← hH5]; exact Ext.setD List.mem_cons_self h4
  have hw5 : WtA H5 p1 (1 + r1) (1 + r2) := ⟨dctF_dK (by rw [← hH5]; exact upd_same), ⟨by omega, by omega⟩, ⟨by omega, by omega⟩⟩
  have e25 : Ext [d] H2' H5 := e24.overS np1 e45
  have nd2 : d ∉ [p1] := fun z => nd1 (by simpa using (show d = p1 by simpa using z).symm)
  have hd5 : DiceAt H5 d := by obtain ⟨x, y, z, q⟩ := hd4; exact ⟨x, y, z, e45.lst q nd2⟩
  refine ⟨d, 3, "xy", rfl, by decide, .inl rfl, hd5, fun v1 t1 H6 e6 hd6 ht1 td1 tn1 => ⟨d, 3, "xy", rfl, by decide, .inl rfl, hd6, fun v2 t2 H7 e7 hd7 ht2 td2 tn2 => ⟨d, 2, "xy", rfl, by decide, .inl rfl, hd7, fun v3 t3 H8 e8 hd8 ht3 td3 tn3 => ⟨v1, v2, v3, ⟨rfl, rfl, rfl⟩, ?_⟩⟩⟩⟩
  have o1 : TOk t1 4 := ⟨td1, fun x hx => (tn1 x hx).2⟩
  have o2 : TOk t2 4 := ⟨td2, fun x hx => (tn2 x hx).2⟩
  have o3 : TOk t3 3 := ⟨td3, fun x hx => (tn3 x hx).2⟩
  have e58 := (e6.trans e7).trans e8
  have L8 : LS K ds p o tb tw p1 (1 + r1) (1 + r2) v1 v2 v3 t1 t2 t3 H8 := ⟨ri.step hpd hdm (e25.trans e58) hd8, ⟨dctF_ext e58 nd1 hw5.1, hw5.2⟩, (ht1.ext e7).ext e8, ht2.ext e8, ht3⟩
  clear hH5 e45 hw5 e25 hd5 e58 e24 h4 eN e3 e4 e6 e7 e8 hd3 hd4 hd6 hd7 ht1 ht2 ht3 td1 td2 td3 tn1 tn2 tn3
  refine ⟨_, t1, _, _, _, rfl, L8.h1, by have := o1.dep; omega, by have := o1.dep; omega, L8.w, L8.ri.tw, fun H9 e9 => ⟨_, t1, _, _, _, rfl, (L8.ext0 e9).h1, by have := o1.dep; omega, by have := o1.dep; omega, (L8.ext0 e9).w, (L8.ext0 e9).ri.tw, fun H10 e10 => ⟨rfl, ?_⟩⟩⟩
  have L10 := L8.ext0 (e9.trans e10)
  clear L8
  rw [if_neg (by simp)]
  refine L10.tests o1 o2 o3 fun H11 e11 => ?_
  have L11 := L10.ext0 e11
  have hd11 : DiceAt H11 d := L11.ri.d d hdm
  clear L10
  rw [hideS_eq]
  walk_at "rd"
  intro p2 np2
  have eN2 : Ext [] H11 (upd H11 p2 (.dK [])) := Ext.new np2
  have nd3 : p2 ∉ [d] := fun z => by
    have z' : p2 = d := by simpa using z
    obtain ⟨x, y, z, q⟩ := hd11
    rw [z', q] at np2
    cases np2
  refine ⟨d, 2, "", rfl, by decide, .inr rfl, hd11.ext0 eN2, fun y1 g1 H12 e12 hd12 hg1 gd1 gn1 => ⟨d, 2, "", rfl, by decide, .inr rfl, hd12, fun y2 g2 H13 e13 hd13 hg2 gd2 gn2 => ⟨(e12.trans e13).dK upd_same nd3, [(.inr "x", y1), (.inr "y", y2)], rfl, by show 2 ≤ 15; decide, ?_⟩⟩⟩
  have h13 := (e12.trans e13).dK upd_same nd3
  have gz : ∀ g : Tr, (∀ x ∈ g.names, (("" : Str) = "xy") ∧ (x = "x" ∨ x = "y")) → g.names = [] := fun g h => by
    cases e : g.names with
    | nil => rfl
    | cons w ws => exact absurd (h w (by rw [e]; exact List.mem_cons_self)).1 (by decide)
  have k1 : g1.dep ≤ 3 ∧ g1.names = [] := ⟨gd1, gz g1 gn1⟩
  have k2 : g2.dep ≤ 3 ∧ g2.names = [] := ⟨gd2, gz g2 gn2⟩
  generalize hH14 : upd H13 p2 (HO.dK (mergeK [] [(Sum.inr (Str.ofString "x"), y1), (Sum.inr (Str.ofString "y"), y2)])) = H14
  have e1314 : Ext [p2] H13 H14 := by rw [← hH14]; exact Ext.setD List.mem_cons_self h13
  have e1114 : Ext [d] H11 H14 := (eN2.any.trans (e12.trans e13)).overS np2 e1314
  have nd4 : d ∉ [p2] := fun z => nd3 (by simpa using (show d = p2 by simpa using z).symm)
  have hd14 : DiceAt H14 d := by obtain ⟨x, y, z, q⟩ := hd13; exact ⟨x, y, z, e1314.lst q nd4⟩
  have L14 := L11.step hpd hdm e1114 hd14
  have T14 : TabA K H14 p2 [("x", g1), ("y", g2)] := ⟨_, dctF_dK (by rw [← hH14]; exact upd_same), .cons ((hg1.ext e13).ext e1314) (.cons (hg2.ext e1314) .nil)⟩
  clear e1114 nd4 e1314 hH14 eN2 nd3 hd11 hd12 hd13 e12 e13 L11 hg1 hg2 gd1 gd2 gn1 gn2 h13
  have f1 := o1.fill k1 k2
  have f2 := o2.fill k1 k2
  refine L14.ift o1 o2 (fun H15 e15 => ?_) fun tail hab H15 e15 => ?_
  case refine_2 =>
    have L := L14.ext0 e15
    have T := T14.ext0 e15
    refine ⟨v1, t1, p2, _, rfl, L.h1, by have := o1.dep; omega, T, fun w1 H16 e16 hw1 => ⟨v2, t2, p2, _, rfl, L.h2.ext e16, by have := o2.dep; omega, T.ext0 e16, fun w2 H17 e17 hw2 => ?_⟩⟩
    have L := L.ext0 (e16.trans e17)
    refine L.abv (hw1.ext e17) hw2 f1.1 f2.1 ?_; intro H18 e18; refine ⟨_, rfl, ?_⟩
    have hf : (t1.fill (lk [("x", g1), ("y", g2)])).abv (1 + r1) (1 + r2) (t2.fill (lk [("x", g1), ("y", g2)])) = true := Tr.abv_fill_n L.w.2.1 L.w.2.2 (x := "x") (y := "y") (by decide) rfl rfl k1.2 k2.2 _ t1 t2 (Nat.le_refl _) o1.nm o2.nm hab
    rw [hf, if_neg (by decide)]
    have L := L.ext0 e18
    refine ⟨by decide, fun q1 H19 e19 hq1 => ⟨by decide, fun q2 H20 e20 hq2 => ?_⟩⟩
    have L := L.ext0 (e19.trans e20)
    have oi1 : TOk (.i t1) 5 := ⟨by have := o1.dep; simp only [Tr.dep]; omega, o1.nm⟩
    have oi2 : TOk (.i t2) 5 := ⟨by have := o2.dep; simp only [Tr.dep]; omega, o2.nm⟩
    refine L.abv (s := .i t1) (t := .i t2) (.tup (tupF_ext e20 hq1) (.cons (.str _) (.cons L.h1 .nil))) (.tup hq2 (.cons (.str _) (.cons L.h2 .nil))) oi1 oi2 ?_; intro H21 e21; refine ⟨_, rfl, ?_⟩
    rw [Tr.abv_i hab, if_neg (by decide)]
    have L := L.ext0 e21
    refine ⟨by decide, fun q3 H22 e22 hq3 => ⟨by decide, fun q4 H23 e23 hq4 => ?_⟩⟩
    have L := L.ext0 (e22.trans e23)
    have om1 : TOk (.m t3 t1) 5 := ⟨by have := o1.dep; have := o3.dep; simp only [Tr.dep]; omega, fun x hx => by rcases List.mem_append.mp hx with z | z; exact o3.nm x z; exact o1.nm x z⟩
    have om2 : TOk (.m t3 t2) 5 := ⟨by have := o2.dep; have := o3.dep; simp only [Tr.dep]; omega, fun x hx => by rcases List.mem_append.mp hx with z | z; exact o3.nm x z; exact o2.nm x z⟩
    refine L.abv (s := .m t3 t1) (t := .m t3 t2) (.tup (tupF_ext e23 hq3) (.cons (.str _) (.cons L.h3 (.cons L.h1 .nil)))) (.tup hq4 (.cons (.str _) (.cons L.h3 (.cons L.h2 .nil)))) om1 om2 ?_; intro H24 e24; refine ⟨_, rfl, ?_⟩
    rw [Tr.abv_m hab, if_neg (by decide)]
    exact tail _ (((((((e15.trans e16).trans e17).trans e18).trans (e19.trans e20)).trans e21).trans (e22.trans e23)).trans e24)
  have L15 := L14.ext0 e15
  have T15 := T14.ext0 e15
  clear L14 T14
  rw [hideS_eq]
  walk_at "rd"
  refine ⟨v1, t1, p2, _, rfl, L15.h1, by have := o1.dep; omega, T15, fun w1 H16 e16 hw1 => ⟨v2, t2, p2, _, rfl, L15.h2.ext e16, by have := o2.dep; omega, T15.ext0 e16, fun w2 H17 e17 hw2 => ⟨w1, w2, ⟨rfl, rfl⟩, ?_⟩⟩⟩
  have L17 := L15.ext0 (e16.trans e17)
  replace hw1 := hw1.ext e17
  clear L15 T15 e16
  generalize hR : hideS _ _ _ = R
  suffices tail : ∀ H', Ext [] H17 H' → R H' by
    refine L17.abv hw1 hw2 f1.1 f2.1 ?_; intro H18 e18; refine ⟨_, rfl, ?_⟩
    generalize hs : t1.fill (lk [("x", g1), ("y", g2)]) = s at *
    generalize ht : t2.fill (lk [("x", g1), ("y", g2)]) = t at *
    have eqq : ∀ H', Ext [] H17 H' → ∀ (k : VK), k (.bl (!decide (s = t))) H' → rEqF K true w1 w2 H' k := fun H' e k hk => ⟨s.data, t.data, hw1.ext e, hw2.ext e, Tr.shaped ns6_ok f1.1.ns (by have := f1.1.dep; omega), Tr.shaped ns6_ok f2.1.ns (by have := f2.1.dep; omega), by rw [Tr.eqv_data]; exact hk⟩
    cases c1 : s.abv (1 + r1) (1 + r2) t with
    | true =>
      rw [if_pos rfl]
      have hne : s ≠ t := fun z => by rw [z, Tr.abv_irrefl] at c1; cases c1
      refine eqq _ e18 _ ⟨rfl, ?_⟩
      rw [decide_eq_false hne, if_neg (by simp)]
      exact tail _ e18
    | false =>
      rw [if_neg (by decide)]
      refine (L17.ext0 e18).abv (hw2.ext e18) (hw1.ext e18) f2.1 f1.1 ?_; intro H19 e19
      refine eqq _ (e18.trans e19) _ ⟨rfl, ?_⟩
      by_cases hst : s = t
      · rw [decide_eq_true hst, hst, Tr.abv_irrefl, if_neg (by simp)]
        exact tail _ (e18.trans e19)
      · have c2 : t.abv (1 + r1) (1 + r2) s = true := by
          rcases Tr.abv_total_n _ s t (Nat.le_refl _) f1.2 f2.2 hst with z | z
          · rw [c1] at z; cases z
          · exact z
        rw [decide_eq_false hst, c2, if_neg (by simp)]
        exact tail _ (e18.trans e19)
  intro H18 e18
  have L18 := L17.ext0 e18
  subst hR
  clear L17 hw1 hw2 e18 f1 f2 k1 k2
  rw [hideS_eq]
  walk_at "rd"
  obtain ⟨q3, ws3, ev3, hq3⟩ := td_hd L18.h3
  refine ⟨q3, ev3, _, hq3, _, atI_0, rfl, ?_⟩
  generalize hT : hideS _ _ = T
  have o3' : TOk t3 4 := ⟨by have := o3.dep; omega, o3.nm⟩
  suffices fin : ∀ (iv : V) (it : Tr), TOk it 4 → Td K H18 iv it.data → T [some (V.ref a), some (V.ref o), some (V.ref d), some (V.ref p1), some v1, some v2, some v3, some (V.ref p2), some w1, some w2, some iv, x11, x12] H18 from ite2 (fun _ => fin v1 t1 o1 L18.h1) fun _ => fin v3 t3 o3' L18.h3
  intro iv it oi hi
  subst hT
  clear hq3 ev3
  rw [hideS_eq]
  walk_at "rd"
  refine ⟨v1, t1, rfl, L18.h1, by have := o1.dep; omega, by have := o1.dep; omega, fun sv H19 e19 hsv => ?_⟩
  cases hsv with
  | tup hsp hall =>
    refine ⟨_, rfl, _, hsp, ?_⟩
    refine for_go walk_tup (fun j σ' H' => (∃ x11, σ' = [some (V.ref a), some (V.ref o), some (V.ref d), some (V.ref p1), some v1, some v2, some v3, some (V.ref p2), some w1, some w2, some iv, x11, x12]) ∧ Ext [] H19 H') ⟨⟨_, rfl⟩, Ext.refl _ _⟩ (fun j σ' H' _ ⟨_, e⟩ => tupF_sq (tupF_ext e hsp)) (fun j x σ' H' H'' hj ⟨⟨y11, hσ⟩, e⟩ y => ?_) fun σ' H' ⟨⟨y11, hσ⟩, e⟩ => ?_
    · obtain ⟨rfl, hx⟩ := y
      subst hσ
      obtain ⟨pd, hpd, tpd⟩ := hall.get hx
      rw [List.getElem?_map] at hpd
      obtain ⟨pl, hpl, rfl⟩ : ∃ pl, t1.spots[j]? = some pl ∧ pd = plD pl := by
        cases hm : t1.spots[j]? with
        | none => rw [hm] at hpd; cases hpd
        | some d => rw [hm] at hpd; exact ⟨d, rfl, (Option.some.inj hpd).symm⟩
      obtain ⟨hlen, u, hat, hu⟩ := Tr.spots_mem (List.mem_of_getElem? hpl)
      have L := L18.ext0 (e19.trans e)
      replace tpd := tpd.ext e
      walk_at "rd"
      have heq : PyData.eqv (plD pl) (.tuple []) = decide (pl = []) := by
        cases pl with
        | nil => rfl
        | cons k l => show PyData.eqv (.tuple _) (.tuple []) = _; rw [Tr.eqv_tup, List.map_cons, Tr.eqvAll_cn]; rfl
      refine ⟨by decide, fun pe H20 e20 hpe => ⟨plD pl, .tuple [], tpd.ext e20, .tup hpe .nil, pl_shaped pl, by decide +kernel, _, rfl, ?_⟩⟩
      have tail' : ∀ H1, Ext [] H20 H1 → (∃ x11, some x = x11) ∧ Ext [] H19 H1 := fun H1 e1 => ⟨⟨_, rfl⟩, (e.trans e20).trans e1⟩
      rw [heq]
      by_cases h0 : pl = []
      · rw [decide_eq_true h0, if_neg (by simp)]
        exact tail' _ (Ext.refl _ _)
      · rw [decide_eq_false h0, if_pos (by simp)]
        refine ⟨v1, x, t1, u, pl, rfl, L.h1.ext e20, tpd.ext e20, hat, fun w' H21 e21 hw => ?_⟩
        obtain ⟨qw, ws, rfl, hqw⟩ := td_hd hw
        refine ⟨qw, rfl, _, hqw, _, atI_0, rfl, ?_⟩
        have hne : u.hd ≠ "v" := Tr.hd_v hu
        have ou : TOk u 4 := ⟨Nat.le_trans (Tr.at_in pl t1 u hat).2 o1.dep, fun x hx => o1.nm x ((Tr.at_in pl t1 u hat).1 x hx)⟩
        rw [decide_eq_false (fun z => hne (V.str.inj z)), if_pos (by decide)]
        refine ⟨v1, x, t1, u, pl, rfl, L.h1.ext (e20.trans e21), tpd.ext (e20.trans e21), hat, fun w2 H22 e22 hw2 => ?_⟩
        have L := L.ext0 ((e20.trans e21).trans e22)
        refine L.abv L.h1 hw2 o1 ou ?_; intro H23 e23; refine ⟨_, rfl, ?_⟩
        rw [Tr.abv_at L.w.2.1 L.w.2.2 hat h0, if_neg (by decide)]
        exact tail' _ ((e21.trans e22).trans e23)
    · subst hσ
      rw [hideS_eq]
      walk_at "rd"
      have L' := L18.ext0 (e19.trans e)
      have hi' := hi.ext (e19.trans e)
      obtain ⟨qi, wsi, rfl, hqi⟩ := td_hd hi'
      refine ⟨qi, rfl, _, hqi, _, atI_0, rfl, ?_⟩
      by_cases hiv : it.isV = true
      · rw [decide_eq_true (congrArg V.str (Tr.hd_iff.mpr hiv)), if_neg (by decide)]
        exact ⟨⟨_, rfl⟩, L'.ri⟩
      · have hiv : it.isV = false := by simpa using hiv
        rw [decide_eq_false (fun z => Tr.hd_v hiv (V.str.inj z)), if_pos (by decide)]
        refine ⟨by decide, fun c1 H21 e21 hc1 => ⟨by decide, fun c2 H22 e22 hc2 => ⟨by decide, fun c3 H23 e23 hc3 => ⟨by decide, fun c4 H24 e24 hc4 => ?_⟩⟩⟩⟩
        have e2224 := e23.trans e24
        have e24' := (e21.trans e22).trans e2224
        refine ⟨_, _, it, rfl, .tup (tupF_ext e2224 hc2) (.cons (hi'.ext e24') (.cons (.tup (tupF_ext (e22.trans e2224) hc1) (.cons (.str _) .nil)) .nil)), .tup hc4 (.cons (hi'.ext e24') (.cons (.tup (tupF_ext e24 hc3) (.cons (.str _) .nil)) .nil)), hiv, oi.dep, oi.nm, fun z ps H25 e25 hz hps hab => ?_⟩
        have L25 := L'.ext0 (e24'.trans e25)
        have hi25 := hi'.ext (e24'.trans e25)
        clear e24' e2224 e25 hc1 hc2 hc3 hc4 e21 e22 e23 e24
        refine ⟨by decide, fun c5 H26 e26 hc5 => ⟨by decide, fun c6 H27 e27 hc6 => ⟨by decide, fun c7 H28 e28 hc7 => ?_⟩⟩⟩
        have hab7 : Td K H28 (.ref c7) (pairD (Tr.a, Tr.b)) := .tup hc7 (.cons (.tup (tupF_ext (e27.trans e28) hc5) (.cons (.str _) .nil)) (.cons (.tup (tupF_ext e28 hc6) (.cons (.str _) .nil)) .nil))
        have hz28 := hz.ext ((e26.trans e27).trans e28)
        have shp : SeqAt.shaped (.tuple (ps.map pairD)) = true := by
          obtain ⟨s1, s2⟩ := pair_shaped ns6_ok hps
          unfold SeqAt.shaped
          rw [PyData.canLay0, s1, PyData.depth]
          simp only [Bool.true_and, decide_eq_true_eq]
          omega
        have hany : ((ps.map pairD).any fun z => z.eqv (pairD (Tr.a, Tr.b))) = true := List.any_eq_true.mpr ⟨_, List.mem_map.mpr ⟨_, hab, rfl⟩, by decide +kernel⟩
        refine ⟨_, hab7, _, hz28, by decide +kernel, shp, ?_⟩
        rw [hany, if_neg (by decide)]
        have L28 := L25.ext0 ((e26.trans e27).trans e28)
        have hi28 := hi25.ext ((e26.trans e27).trans e28)
        clear hab7 hz28 shp hany
        refine ⟨_, it, rfl, hi28, by have := oi.dep; omega, by have := oi.dep; omega, fun sv H29 e29 hsv => ?_⟩
        cases hsv with
        | tup hsp2 hall2 =>
          refine ⟨_, rfl, _, hsp2, ?_⟩
          refine lc_go walk_tup (fun D i ys H' => ys = [] ∧ Ext [] H29 H') (fun D hD => ⟨rfl, Ext.new hD⟩) (fun D i ys H' ⟨_, e⟩ => tupF_sq (tupF_ext e hsp2)) (fun D i x ys H' H'' hD hi ⟨hys, e⟩ hyl hH y => ?_) fun D ys H' hD ⟨hys, e⟩ hH _ => ?_
          · obtain ⟨rfl, hx⟩ := y
            obtain ⟨pd, hpd, tpd⟩ := hall2.get hx
            rw [List.getElem?_map] at hpd
            obtain ⟨pl, hpl, rfl⟩ : ∃ pl, it.spots[i]? = some pl ∧ pd = plD pl := by
              cases hm : it.spots[i]? with
              | none => rw [hm] at hpd; cases hpd
              | some d => rw [hm] at hpd; exact ⟨d, rfl, (Option.some.inj hpd).symm⟩
            obtain ⟨hlen, u, hat, hu⟩ := Tr.spots_mem (List.mem_of_getElem? hpl)
            have hiH := hi28.ext (e29.trans e)
            walk_at "rd"
            replace tpd := tpd.ext e
            refine ⟨_, x, it, u, pl, rfl, hiH, tpd, hat, fun w1' H31 e31 hw1' => ⟨_, x, w1', it, u, u, pl, rfl, hiH.ext e31, tpd.ext e31, by have := oi.dep; omega, by have := oi.dep; omega, hat, hw1', fun w2' H32 e32 hw2' => ?_⟩⟩
            rw [Tr.put_at pl it u hat] at hw2'
            have hsh := Tr.shaped ns6_ok oi.ns (by have := oi.dep; omega)
            refine ⟨it.data, it.data, hw2', (hiH.ext e31).ext e32, hsh, hsh, _, rfl, ?_⟩
            rw [Tr.eqv_data, decide_eq_true rfl, if_neg (by decide)]
            exact ⟨ys, by omega, (e31.trans e32).lst0 hH, hys, (e.trans e31).trans e32⟩
          · walk_at "rd"
            have L := L28.ext0 (e29.trans e)
            subst hys
            refine ⟨by decide, fun pe H30 npe e30 hpe => ⟨_, e30.lst0 hH, _, hpe, [], .nil, [], .nil, by decide +kernel, by decide +kernel, ?_⟩⟩
            rw [Tr.eqvAll_nil, if_neg (by decide)]
            exact ⟨⟨_, rfl⟩, (L.ext0 e30).ri⟩
end
end Sq
set_option Elab.async false
set_option linter.all false
set_option maxRecDepth 100000
set_option maxHeartbeats 2000000
namespace Sq
open PySem PySem.Spec PyProof.Rows L2
/-! ### the written part without the tables -/
def dropT (ts : List Addr) (K : PySem.W.Frag) : PySem.W.Frag := K.filter fun p => !ts.contains p.1
section
variable {ts : List Addr} {K : PySem.W.Frag} {a : Addr}
theorem dropT_out (h : a ∉ ts) : (dropT ts K).lookup a = K.lookup a := by
  unfold dropT
  induction K with
  | nil => rfl
  | cons p r ih =>
    obtain ⟨b, o⟩ := p
    by_cases hb : a = b
    · subst hb
      have : ts.contains a = false := by simpa using h
      rw [List.filter_cons, this]
      simp [List.lookup]
    · have hb' : (a == b) = false := by simpa using hb
      rw [List.filter_cons]
      split
      · simp only [List.lookup, hb', ih]
      · simp only [List.lookup, hb', ih]
theorem dropT_in (h : a ∈ ts) : (dropT ts K).lookup a = none := by
  unfold dropT
  induction K with
  | nil => rfl
  | cons p r ih =>
    obtain ⟨b, o⟩ := p
    rw [List.filter_cons]
    split
    · rename_i hc
      have hb : (a == b) = false := by
        cases e : a == b with
        | false => rfl
        | true =>
          have : a = b := by simpa using e
          subst this
          simp [h] at hc
      simp only [List.lookup, hb, ih]
    · exact ih
theorem dropT_In {h : Heap} (X : K.In h) : (dropT ts K).In h := fun a o e => by
  by_cases q : a ∈ ts
  · rw [dropT_in q] at e; cases e
  · rw [dropT_out q] at e; exact X a o e
end
section
variable {K : PySem.W.Frag} {mg : Str → Option Value} {x : Str} {st : Stmt} {f c : Addr} {fd : FuncData} {h : Heap} {ts : List Addr}
theorem Dn.drop (F : Dn K mg x st f fd c) (hf : f ∉ ts) (hc : c ∉ ts) : Dn (dropT ts K) mg x st f fd c := by
  obtain ⟨⟨oc, od, kV, doc, pm, an, ct, osl, e, l, cd⟩, m, kp⟩ := F
  refine ⟨⟨oc, od, kV, doc, pm, an, ct, osl, e, by rw [dropT_out hf]; exact l, ?_⟩, m, ?_⟩
  · unfold PySem.W.codeIn at cd ⊢
    simp only [dropT_out hc] at cd ⊢
    exact cd
  · unfold PySem.W.keepIn
    simp only [dropT_out hf, l]
/-- a def that the top has left: what is known of it goes on -/
theorem dn_go {R : Prop} (x : Str) (st : Stmt) {od an : Option Addr} {sl : Array (Option Value)} {oc kV dc pm ct : Value} (X : K.In h) (G : h.Ns mainGlobals mg)
    (a : PySem.W.nsIn K mainGlobals x = some (some (.ref f))) (l : K.lookup f = some ⟨oc, od, .func (PySem.W.fnOf x x (defArgs st) (defBody st) (defScope st) .none kV dc pm an (.ref c) ct), sl⟩) (q : PySem.W.codeIn K (.ref c) x = true) (k : PySem.W.keepIn K (.ref f) = true)
    (r : Dn K mg x st f (PySem.W.fnOf x x (defArgs st) (defBody st) (defScope st) .none kV dc pm an (.ref c) ct) c → R) : R :=
  r ⟨⟨oc, od, kV, dc, pm, an, ct, sl, rfl, l, q⟩, PySem.W.mg_of X G a, k⟩
/-- the table of a code object -/
def tabOf (o : Obj) : Option Addr := match o.data with
  | .fields vs => (vs[11]?).bind fun | .ref P => some P | _ => none
  | _ => none
theorem tabOf_at {o : Obj} {P : Addr} (h : tabOf o = some P) : ∃ vs, o.data = .fields vs ∧ vs[11]? = some (.ref P) := by
  unfold tabOf at h
  split at h
  · rename_i vs e
    refine ⟨vs, e, ?_⟩
    cases q : vs[11]? with
    | none => rw [q] at h; cases h
    | some v =>
      rw [q] at h
      cases v <;> first | (cases h; rfl) | cases h
  · cases h
/-- the tables of all defs of the top are empty -/
def OwnAll (q : Program) (mg : Str → Option Value) (K : PySem.W.Frag) (h : Heap) : Prop := ∀ (x : Str) (a : Addr), ((recsOf q).any fun e => e.name == x) = true → mg x = some (.ref a) → LamX.OwnTab K a h
theorem dn_goT {R : Prop} (x : Str) (st : Stmt) {od an : Option Addr} {sl : Array (Option Value)} {oc kV dc pm ct : Value} {P : Addr} {oo : Obj} (X : K.In h) (G : h.Ns mainGlobals mg)
    (a : PySem.W.nsIn K mainGlobals x = some (some (.ref f))) (l : K.lookup f = some ⟨oc, od, .func (PySem.W.fnOf x x (defArgs st) (defBody st) (defScope st) .none kV dc pm an (.ref c) ct), sl⟩) (q : PySem.W.codeIn K (.ref c) x = true) (k : PySem.W.keepIn K (.ref f) = true)
    (lc : K.lookup c = some oo) (t : tabOf oo = some P) (u : PySem.W.codeHdIn [(c, oo)] c P = true) {q' : Program} (O : OwnAll q' mg K h) (rc : ((recsOf q').any fun e => e.name == x) = true)
    (r : Dn K mg x st f (PySem.W.fnOf x x (defArgs st) (defBody st) (defScope st) .none kV dc pm an (.ref c) ct) c → PySem.W.CodeHd h c P ∧ h.get? P = some { cls := .none, data := .fields #[] } → R) : R :=
  dn_go x st X G a l q k fun D => by
    refine r D ⟨PySem.W.codeHd_of_K X ?_, ?_⟩
    · have e : ([(c, oo)] : PySem.W.Frag).lookup c = K.lookup c := by rw [lc]; simp [List.lookup]
      unfold PySem.W.codeHdIn at u ⊢
      rw [← e]
      exact u
    · obtain ⟨vs, e1, e2⟩ := tabOf_at t
      obtain ⟨e, dd, da, sls⟩ := oo
      simp only at e1
      subst e1
      exact O x f rc D.mgf c P _ _ e dd vs sls l rfl rfl lc e2
theorem walk_drop {l : PySem.W.OpenLaw} {n k : Nat} {q : Program} {loose : List Str} {XP : (Str → Option Value) → Heap → Prop} {d : DefRec} {K0 : PySem.Params → PySem.W.Frag} {as : List Addr} {e : ∀ P, as = (K0 P).map (·.1)} {x : Str} {ts : List Addr}
    (hn : l.most = some n) (hn2 : n ≤ sizeLine) (hdf : d.params.defaults = []) (hr : Room k callerA)
    (F : ∀ (w : World) (mg : Str → Option Value) (fa : Addr) (h : Heap), (K0 w.params).In h → h.Ns mainGlobals mg → mg d.name = some (.ref fa) → OwnAll q mg (K0 w.params) h → LamX.LawAtS l w (dropT ts (K0 w.params)) CX0 k n x mg fa h) :
    PySem.W.WalkO q loose XP (PySem.W.kHook K0 as e).says l.row.toRowW d [] (fun f vs => PySem.call f vs) := by
  refine Att.attach_callB hn hdf fun w s₀ s₁ mg mb fa o pm cd doc a vs ns G Y ho hd hcd hmg hobj hints hlen hbits hg => ?_
  have KX : (K0 w.params).In s₁.heap := PySem.W.kIn_of Y
  have own : OwnAll q mg (K0 w.params) s₁.heap := fun y fy hrec hy c P o1 fd1 e dd vs1 sl k1 k2 k3 k4 k5 => by
    obtain ⟨dL, hm, hn1⟩ := List.any_eq_true.mp hrec
    have hn2 : dL.name = y := beq_iff_eq.mp hn1
    obtain ⟨a', o', fd', c', P', h1, h2, h3, h4, h5, h6⟩ := G.T.tab dL hm
    rw [hn2, hy] at h1
    cases h1
    rw [KX _ _ k1] at h2
    cases h2
    rw [k2] at h3
    cases h3
    rw [k3] at h4
    cases h4
    obtain ⟨⟨oc, vc, e1, _, e3, e4⟩, hP⟩ := h6
    rw [KX _ _ k4] at e1
    cases e1
    cases e3
    rw [k5] at e4
    cases e4
    exact hP
  obtain ⟨fd, cs, sp, hT, nT, C, hb, hsp, hF⟩ := F w mg fa _ KX G.T.g hmg own
  exact LamX.law_callTs (dropT_In KX) G.T.g G.T.b G.T.builtins G.T.nolimit hg hT nT C G.T.bmain hobj hints (Nat.le_trans hlen hn2) hr hF hb (fun H hH hS => hsp H a ns hlen hbits hH hS) fun _ _ _ h => h
theorem tabB_of {base : Heap} {P : Addr} (T : LamX.TabB base mg c P) : GxR.TabB base mg c P := ⟨T.code, T.bm, T.gP⟩
end
end Sq
set_option Elab.async false
set_option linter.all false
set_option maxRecDepth 100000
set_option maxHeartbeats 4000000
namespace Sq
open PySem PySem.Spec PyProof.Rows L2
theorem law_at {l : PySem.W.OpenLaw} {w : World} {K : PySem.W.Frag} {mg : Str → Option Value} {h : Heap} {fa tb tw : Addr} {f_holes f_filled f_made_one f_spots f_at f_laid_at f_weight f_counted f_count_in f_above f_apart f_critical f__law_dice f__law_roll f__law_rounds f__law_tree f__law_weight f_law c_holes c_filled c_made_one c_spots c_at c_laid_at c_weight c_counted c_count_in c_above c_apart c_critical c__law_dice c__law_roll c__law_rounds c__law_tree c__law_weight c_law : Addr} {d_holes d_filled d_made_one d_spots d_at d_laid_at d_weight d_counted d_count_in d_above d_apart d_critical d__law_dice d__law_roll d__law_rounds d__law_tree d__law_weight : FuncData} {an : Option Addr} {kV dc pm ct : Value}
    (X : K.In h) (G : h.Ns mainGlobals mg) (hfa : mg "law" = some (.ref fa)) (B : Bl mg)
    (D_holes : Dn K mg "holes" s_holes f_holes d_holes c_holes)
    (D_filled : Dn K mg "filled" s_filled f_filled d_filled c_filled)
    (D_made_one : Dn K mg "made_one" s_made_one f_made_one d_made_one c_made_one)
    (D_spots : Dn K mg "spots" s_spots f_spots d_spots c_spots)
    (D_at : Dn K mg "at" s_at f_at d_at c_at)
    (D_laid_at : Dn K mg "laid_at" s_laid_at f_laid_at d_laid_at c_laid_at)
    (D_weight : Dn K mg "weight" s_weight f_weight d_weight c_weight)
    (D_counted : Dn K mg "counted" s_counted f_counted d_counted c_counted)
    (D_count_in : Dn K mg "count_in" s_count_in f_count_in d_count_in c_count_in)
    (D_above : Dn K mg "above" s_above f_above d_above c_above)
    (D_apart : Dn K mg "apart" s_apart f_apart d_apart c_apart)
    (D_critical : Dn K mg "critical" s_critical f_critical d_critical c_critical)
    (D__law_dice : Dn K mg "_law_dice" s__law_dice f__law_dice d__law_dice c__law_dice)
    (D__law_roll : Dn K mg "_law_roll" s__law_roll f__law_roll d__law_roll c__law_roll)
    (D__law_rounds : Dn K mg "_law_rounds" s__law_rounds f__law_rounds d__law_rounds c__law_rounds)
    (D__law_tree : Dn K mg "_law_tree" s__law_tree f__law_tree d__law_tree c__law_tree)
    (D__law_weight : Dn K mg "_law_weight" s__law_weight f__law_weight d__law_weight c__law_weight)
    (D_law : Dn K mg "law" s_law f_law (PySem.W.fnOf "law" "law" (defArgs s_law) (defBody s_law) (defScope s_law) .none kV dc pm an (.ref c_law) ct) c_law)
    (T_above : PySem.W.CodeHd h c_above tb ∧ h.get? tb = some { cls := .none, data := .fields #[] }) (T_weight : PySem.W.CodeHd h c_weight tw ∧ h.get? tw = some { cls := .none, data := .fields #[] })
    (nin : ∀ a ∈ [f_holes, f_filled, f_made_one, f_spots, f_at, f_laid_at, f_weight, f_counted, f_count_in, f_above, f_apart, f_critical, f__law_dice, f__law_roll, f__law_rounds, f__law_tree, f__law_weight, f_law, c_holes, c_filled, c_made_one, c_spots, c_at, c_laid_at, c_weight, c_counted, c_count_in, c_above, c_apart, c_critical, c__law_dice, c__law_roll, c__law_rounds, c__law_tree, c__law_weight, c_law], a ∉ [tb, tw]) : LamX.LawAtS l w (dropT [tb, tw] K) CX0 67 63 "script" mg fa h := by
  have e := hfa.symm.trans D_law.mgf
  cases e
  replace D_holes := D_holes.drop (nin f_holes (by simp)) (nin c_holes (by simp))
  replace D_filled := D_filled.drop (nin f_filled (by simp)) (nin c_filled (by simp))
  replace D_made_one := D_made_one.drop (nin f_made_one (by simp)) (nin c_made_one (by simp))
  replace D_spots := D_spots.drop (nin f_spots (by simp)) (nin c_spots (by simp))
  replace D_at := D_at.drop (nin f_at (by simp)) (nin c_at (by simp))
  replace D_laid_at := D_laid_at.drop (nin f_laid_at (by simp)) (nin c_laid_at (by simp))
  replace D_weight := D_weight.drop (nin f_weight (by simp)) (nin c_weight (by simp))
  replace D_counted := D_counted.drop (nin f_counted (by simp)) (nin c_counted (by simp))
  replace D_count_in := D_count_in.drop (nin f_count_in (by simp)) (nin c_count_in (by simp))
  replace D_above := D_above.drop (nin f_above (by simp)) (nin c_above (by simp))
  replace D_apart := D_apart.drop (nin f_apart (by simp)) (nin c_apart (by simp))
  replace D_critical := D_critical.drop (nin f_critical (by simp)) (nin c_critical (by simp))
  replace D__law_dice := D__law_dice.drop (nin f__law_dice (by simp)) (nin c__law_dice (by simp))
  replace D__law_roll := D__law_roll.drop (nin f__law_roll (by simp)) (nin c__law_roll (by simp))
  replace D__law_rounds := D__law_rounds.drop (nin f__law_rounds (by simp)) (nin c__law_rounds (by simp))
  replace D__law_tree := D__law_tree.drop (nin f__law_tree (by simp)) (nin c__law_tree (by simp))
  replace D__law_weight := D__law_weight.drop (nin f__law_weight (by simp)) (nin c__law_weight (by simp))
  replace D_law := D_law.drop (nin fa (by simp)) (nin c_law (by simp))
  refine ⟨PySem.W.fnOf "law" "law" (defArgs s_law) (defBody s_law) (defScope s_law) .none kV dc pm an (.ref c_law) ct, [(c_above, tb), (c_weight, tw)], spLaw (dropT [tb, tw] K) tb tw, fun p hp => ?_, fun p hp => ?_, fun p hp => ?_, fun s v => .of_eq rfl, fun H a ns _ _ hT hS => ⟨a, ns, rfl, hS, ⟨#[], hT (c_above, tb) (by simp), trivial⟩, ⟨#[], hT (c_weight, tw) (by simp), trivial⟩, fun _ => rfl⟩, fun base KX hG hT => ?_⟩
  · rcases List.mem_cons.mp hp with e | e
    · subst e; exact T_above.2
    · have e := List.mem_singleton.mp e
      subst e; exact T_weight.2
  · rcases List.mem_cons.mp hp with e | e
    · subst e; exact dropT_in (by simp)
    · have e := List.mem_singleton.mp e
      subst e; exact dropT_in (by simp)
  · rcases List.mem_cons.mp hp with e | e
    · subst e; exact T_above.1
    · have e := List.mem_singleton.mp e
      subst e; exact T_weight.1
  · have TA := tabB_of (hT (c_above, tb) (by simp))
    have TW := tabB_of (hT (c_weight, tw) (by simp))
    have g_dice := ok_dice (P := l.prog) (w := w) (base := base) D__law_dice B
    have g_roll := ok_roll (P := l.prog) (w := w) (base := base) D__law_roll B
    have g_rounds := ok_rounds (P := l.prog) (w := w) (base := base) D__law_rounds B g_dice
    have g_tree := ok_tree (P := l.prog) (w := w) (base := base) D__law_tree B g_roll
    have g_holes := ok_holes (P := l.prog) (w := w) (base := base) (NS := NS6) D_holes B ns6_ok
    have g_filled := ok_filled (P := l.prog) (w := w) (base := base) D_filled B
    have g_weight := ok_weight (P := l.prog) (w := w) (base := base) D_weight B TW
    have g_lweight := ok_lweight (P := l.prog) (w := w) (base := base) (tb := tw) D__law_weight B
    have g_cin := ok_count_in (P := l.prog) (w := w) (base := base) (NS := NS6) D_count_in ns6_ok
    have g_counted := ok_counted (P := l.prog) (w := w) (base := base) (NS := NS6) D_counted (g_cin 20)
    have g_above := ok_above (P := l.prog) (w := w) (base := base) (NS := NS6) (L := 40) D_above B TA ns6_ok (Nat.le_refl _) g_counted (g_weight 40)
    have g_at := ok_at (P := l.prog) (w := w) (base := base) D_at
    have g_laid := ok_laid (P := l.prog) (w := w) (base := base) D_laid_at
    have g_spots := ok_spots (P := l.prog) (w := w) (base := base) D_spots B
    have g_apart := ok_apart (P := l.prog) (w := w) (base := base) (NS := NS6) D_apart ns6_ok (g_holes 64) (g_filled 64)
    have g_made := ok_made (P := l.prog) (w := w) (base := base) (NS := NS6) (NV := NV4) D_made_one B ns6_ok (by decide) nv4_sub (g_holes 64) (g_filled 64)
    have g_crit := ok_crit (P := l.prog) (w := w) (base := base) D_critical B g_apart (g_spots 64) g_at (g_laid 64) (g_filled 64) g_made
    exact ok_law (P := l.prog) (w := w) (base := base) D_law B g_rounds g_roll (g_tree 10) (g_weight 40) (g_lweight 40) (g_above 66) (g_filled 64) (g_spots 64) g_at (g_laid 64) g_crit
end Sq
set_option Elab.async false
set_option linter.all false
open PySem PySem.W PyProof.Rows
set_option maxRecDepth 100000 in
set_option maxHeartbeats 0 in
theorem PySem.Challenge.cw_sequenthall_k32_trees_in_order_holds : PySem.Challenge.rw_sequenthall_k32_trees_in_order.Holds := by
  w_on; o_law; k_head; (case hw => w_witness2)
  k_fill
  refine' Sq.walk_drop (l := PySem.Challenge.rw_sequenthall_k32_trees_in_order) (n := 63) (k := 67) (x := "script") rfl (by decide) rfl ⟨rfl, by decide, by decide⟩ ?F
  case F =>
    intro w mg fa h KX G hmg KO
    refine' Sq.dn_go "holes" Sq.s_holes KX G ?a ?l ?c ?k ?_
    (case a => k_is); (case l => k_is); (case c => k_is); (case k => k_is)
    intro D_holes
    refine' Sq.dn_go "filled" Sq.s_filled KX G ?a ?l ?c ?k ?_
    (case a => k_is); (case l => k_is); (case c => k_is); (case k => k_is)
    intro D_filled
    refine' Sq.dn_go "made_one" Sq.s_made_one KX G ?a ?l ?c ?k ?_
    (case a => k_is); (case l => k_is); (case c => k_is); (case k => k_is)
    intro D_made_one
    refine' Sq.dn_go "spots" Sq.s_spots KX G ?a ?l ?c ?k ?_
    (case a => k_is); (case l => k_is); (case c => k_is); (case k => k_is)
    intro D_spots
    refine' Sq.dn_go "at" Sq.s_at KX G ?a ?l ?c ?k ?_
    (case a => k_is); (case l => k_is); (case c => k_is); (case k => k_is)
    intro D_at
    refine' Sq.dn_go "laid_at" Sq.s_laid_at KX G ?a ?l ?c ?k ?_
    (case a => k_is); (case l => k_is); (case c => k_is); (case k => k_is)
    intro D_laid_at
    refine' Sq.dn_goT "weight" Sq.s_weight KX G ?a ?l ?c ?k ?lc ?t ?u KO ?rc ?_
    (case a => k_is); (case l => k_is); (case c => k_is); (case k => k_is); (case lc => k_is); (case t => rfl); (case u => decide +kernel); (case rc => decide +kernel)
    intro D_weight T_weight
    refine' Sq.dn_go "counted" Sq.s_counted KX G ?a ?l ?c ?k ?_
    (case a => k_is); (case l => k_is); (case c => k_is); (case k => k_is)
    intro D_counted
    refine' Sq.dn_go "count_in" Sq.s_count_in KX G ?a ?l ?c ?k ?_
    (case a => k_is); (case l => k_is); (case c => k_is); (case k => k_is)
    intro D_count_in
    refine' Sq.dn_goT "above" Sq.s_above KX G ?a ?l ?c ?k ?lc ?t ?u KO ?rc ?_
    (case a => k_is); (case l => k_is); (case c => k_is); (case k => k_is); (case lc => k_is); (case t => rfl); (case u => decide +kernel); (case rc => decide +kernel)
    intro D_above T_above
    refine' Sq.dn_go "apart" Sq.s_apart KX G ?a ?l ?c ?k ?_
    (case a => k_is); (case l => k_is); (case c => k_is); (case k => k_is)
    intro D_apart
    refine' Sq.dn_go "critical" Sq.s_critical KX G ?a ?l ?c ?k ?_
    (case a => k_is); (case l => k_is); (case c => k_is); (case k => k_is)
    intro D_critical
    refine' Sq.dn_go "_law_dice" Sq.s__law_dice KX G ?a ?l ?c ?k ?_
    (case a => k_is); (case l => k_is); (case c => k_is); (case k => k_is)
    intro D__law_dice
    refine' Sq.dn_go "_law_roll" Sq.s__law_roll KX G ?a ?l ?c ?k ?_
    (case a => k_is); (case l => k_is); (case c => k_is); (case k => k_is)
    intro D__law_roll
    refine' Sq.dn_go "_law_rounds" Sq.s__law_rounds KX G ?a ?l ?c ?k ?_
    (case a => k_is); (case l => k_is); (case c => k_is); (case k => k_is)
    intro D__law_rounds
    refine' Sq.dn_go "_law_tree" Sq.s__law_tree KX G ?a ?l ?c ?k ?_
    (case a => k_is); (case l => k_is); (case c => k_is); (case k => k_is)
    intro D__law_tree
    refine' Sq.dn_go "_law_weight" Sq.s__law_weight KX G ?a ?l ?c ?k ?_
    (case a => k_is); (case l => k_is); (case c => k_is); (case k => k_is)
    intro D__law_weight
    refine' Sq.dn_go "law" Sq.s_law KX G ?a ?l ?c ?k ?_
    (case a => k_is); (case l => k_is); (case c => k_is); (case k => k_is)
    intro D_law
    have B : Sq.Bl mg := by
      refine' ⟨PySem.W.mg_none_of KX G ?b_len, PySem.W.mg_none_of KX G ?b_abs, PySem.W.mg_none_of KX G ?b_int, PySem.W.mg_none_of KX G ?b_str, PySem.W.mg_none_of KX G ?b_tuple, PySem.W.mg_none_of KX G ?b_list, PySem.W.mg_none_of KX G ?b_dict, PySem.W.mg_none_of KX G ?b_sorted, PySem.W.mg_none_of KX G ?b_sum, PySem.W.mg_none_of KX G ?b_any, PySem.W.mg_none_of KX G ?b_all, PySem.W.mg_none_of KX G ?b_max, PySem.W.mg_none_of KX G ?b_min, PySem.W.mg_none_of KX G ?b_range, PySem.W.mg_none_of KX G ?b_zip, PySem.W.mg_none_of KX G ?b_enumerate, PySem.W.mg_none_of KX G ?b_reversed, PySem.W.mg_none_of KX G ?b_isinstance⟩
      (case b_len => k_is)
      (case b_abs => k_is)
      (case b_int => k_is)
      (case b_str => k_is)
      (case b_tuple => k_is)
      (case b_list => k_is)
      (case b_dict => k_is)
      (case b_sorted => k_is)
      (case b_sum => k_is)
      (case b_any => k_is)
      (case b_all => k_is)
      (case b_max => k_is)
      (case b_min => k_is)
      (case b_range => k_is)
      (case b_zip => k_is)
      (case b_enumerate => k_is)
      (case b_reversed => k_is)
      (case b_isinstance => k_is)
    exact Sq.law_at KX G hmg B D_holes D_filled D_made_one D_spots D_at D_laid_at D_weight D_counted D_count_in D_above D_apart D_critical D__law_dice D__law_roll D__law_rounds D__law_tree D__law_weight D_law T_above T_weight (by decide)
