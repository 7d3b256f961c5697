import PyProof.Rows.All
import Wide.All
import OpenK.AllK
import Wide.FinOn
import KE.KStateDown
import Lean
import HandS.Base
import HandS.Call
import HandS.Ends
import HandS.List
import HandS.Comp
import HandS.Dict
import HandS.Iter
import HandS.Text
import HandS.More
import HandS.Exc
import HandS.Words
import HandS.WordsList
import HandS.WordsExc
import HandS.WordsDict
import HandS.Defaults
import HandS.Wide
import HandS.WideMore
import HandS.IsInst
import HandS.Style
import HandS.Flow
import HandS.Set
import HandS.Strs
import HandS.Sort
import HandS.SortOrd
import HandS.SortRule
import HandS.SortInts
import HandS.Conv
import HandS.DictComp
import HandS.DictTup
import HandS.NoneIn
import HandS.SetBool
import HandS.Head0
import HandS.Head1
import HandS.Head2
import HandS.HeadEnd
import HandS.HeadHook1
import HandS.HeadHook2
import PySem.Challenge.RW_startbits_k89_whole_records_of_what_is_r
import KE.KDictDisplayH
import HandS.RaiseMore
import KE.GoesMore
import KE.GoesEnum
set_option Elab.async false
set_option linter.all false
set_option pp.maxSteps 300
set_option maxRecDepth 100000
set_option maxHeartbeats 2000000
/-! comprehensions that fill a dict or a set: one loop for all kinds -/
namespace K89
open PySem PySem.Spec PyProof.Rows L2
/-- the turn of a clause of the comprehension ce: behind the tests it does B -/
def TurnIs (ce : Expr) (d : Nat) (tg iter : Expr) (ifs : List Expr) (D : Addr) (B : Env → Sem Unit) : Prop :=
  ∀ (it : Value) (env : Env), compTurn ce d it (.ref D) env = (do
      standAt iter.pos
      match ← pyNext it with
      | none => pure (.done .next)
      | some v =>
        letOwnedTupleGo tg it v
        assign tg env v
        let mut ok := true
        for c in ifs do
          if ok then ok ← isTrue c env (eval c env)
        if ok then
          B env
        again (.compLoop ce d it (.ref D) env))
/-- the code's tree is its turn, an error noted -/
def DenIs (ce : Expr) (d : Nat) : Prop := ∀ (prog : Program) (w : World) (it acc : Value) (env : Env),
  (model prog w).den (.compLoop ce d it acc env) = (compTurn ce d it acc env).onRaise (fun x => do noteFrame x env; theTreesLotGoes x)
section
variable {prog : Program} {w : World} {A : Around} {R : Result → Shared → Prop} {s : Shared} {ce tg iter : Expr} {d : Nat} {ifs : List Expr} {it : Value} {D : Addr} {env : Env} {B : Env → Sem Unit}
theorem loop_gen (hT : TurnIs ce d tg iter ifs D B) (hD : DenIs ce d) (hu : A.under (.compLoop ce d it (.ref D) env) = A) (hq : (Code.compLoop ce d it (.ref D) env).quiet = true) (I : Nat → Shared → Prop)
    (turn : ∀ n s, I n s → wpAny (model prog w) A (pyNext it) (fun r s1 => match r with
      | none => R (.ok .next) s1
      | some v => wpAny (model prog w) A (letOwnedTupleGo tg it v) (fun _ s2 => wpAny (model prog w) A (assign tg env v) (fun _ s3 =>
          wpAny (model prog w) A (forIn ifs true fun c r => if r = true then do let ok ← isTrue c env (eval c env); pure (ForInStep.yield ok) else pure (ForInStep.yield r)) (fun ok s4 =>
            if ok = true then wpAny (model prog w) A (B env) (fun _ s5 => ∃ m, m < n ∧ I m s5) (notedBy (model prog w) A env fun e s' => R (.error e) s') s4
            else ∃ m, m < n ∧ I m s4) (notedBy (model prog w) A env fun e s' => R (.error e) s') s3) (notedBy (model prog w) A env fun e s' => R (.error e) s') s2) (notedBy (model prog w) A env fun e s' => R (.error e) s') s1) (notedBy (model prog w) A env fun e s' => R (.error e) s') s)
    (n : Nat) (h : I n s) : codeAny (model prog w) A (.compLoop ce d it (.ref D) env) R s := by
  refine codeAny_loop hq I (fun k s0 hI => ?_) n h
  rw [hD, hu]
  refine wpAny_noted ?_
  rw [hT]
  refine wpAny_bind (wpAny_standAt (wpAny_bind (wpAny_mono (turn k s0 hI) (fun r s1 q1 => ?_) fun _ _ z => z)))
  cases r with
  | none => exact wpAny_pure q1
  | some v =>
    refine wpAny_bind (wpAny_mono q1 (fun _ s2 q2 => ?_) fun _ _ z => z)
    refine wpAny_bind (wpAny_mono q2 (fun _ s3 q3 => ?_) fun _ _ z => z)
    refine wpAny_bind (wpAny_mono q3 (fun ok s4 q4 => ?_) fun _ _ z => z)
    cases ok with
    | true => exact wpAny_bind (wpAny_mono q4 (fun _ s5 q5 => wpAny_pure ⟨rfl, q5⟩) fun _ _ z => z)
    | false => exact wpAny_pure ⟨rfl, q4⟩
end
end K89

set_option maxRecDepth 100000
set_option maxHeartbeats 2000000
/-! the comprehension's core, for any kind of what is filled -/
namespace K89
open PySem PySem.Spec PyProof.Rows L2
/-- what the turn of a clause does behind its tests: own: the slots that it may change -/
structure PB (X : Cx) (own : List Nat) (D : Addr) (B : Env → Sem Unit) (tb : Addr → L2.St → Hp → (Hp → Prop) → Prop) : Prop where
  run : ∀ (pins : List (Addr × Obj)) (s : Shared) (σ : L2.St) (H : Hp) (Nx : Hp → Prop), Inv X pins σ H s → tb D σ H Nx →
    wpAny (model X.prog X.w) X.A (B X.env) (fun _ s2 => ∃ σ2 H2, Inv X pins σ2 H2 s2 ∧ σ2.length = σ.length ∧ (∀ (j : Nat) v, j ∉ own → σ[j]? = some (some v) → σ2[j]? = some (some v)) ∧ Nx H2) X.xe s
/-- what one walk asks: from W 0 on -/
def tWalk (J : It) (g : TG) (tt : TT) (tb : L2.St → Hp → (Hp → Prop) → Prop) (σ : L2.St) (vs : List Nat) (H0 : Hp) (fin : Hp → Prop) : Prop :=
  ∃ W : Nat → Nat → Hp → Prop, (∃ m, W 0 m H0) ∧ ∀ i m H, W i m H →
    (J.stop i H ∧ fin H) ∨ (J.go i H ∧ ∃ Nx : Hp → Prop, (∀ H', Nx H' → ∃ m', m' < m ∧ W (i + 1) m' H') ∧ ∀ x H', J.yld i H x H' → g x (wipe σ vs) H' fun σ2 H2 => wipe σ2 vs = wipe σ vs ∧ tt σ2 H2 fun b H3 =>
      if b = true then tb σ2 H3 Nx else Nx H3)
/-- a comprehension: o0 what stands at the new place at first -/
def tComp (o0 : Addr → HO) (wi : TI) (g : TG) (tt : TT) (tb : Addr → L2.St → Hp → (Hp → Prop) → Prop) (vs : List Nat) : TE := fun σ H Q =>
  wi σ H fun J H1 => ∀ D, H1 D = none → tWalk J g tt (tb D) σ vs (upd H1 D (o0 D)) fun H2 => Q (.ref D) H2
section
variable {X : Cx}
theorem comp_core {pins : List (Addr × Obj)} {s : Shared} {σ : L2.St} {H : Hp} {Q : VK} {ce tg iter : Expr} {ifs : List Expr} {gens : List Comprehension} {scope : Scope} {own : List (PySem.Str × Nat)} {pos' : Pos} {wi : TI} {g : TG} {tt : TT}
    {tb : Addr → L2.St → Hp → (Hp → Prop) → Prop} {use : Option (Value → Sem Unit)} {Qf : Value → Shared → Prop} {newAcc : Sem Value} {ob : Obj} {o0 : Addr → HO} {B : Addr → Env → Sem Unit}
    (hcl : clausesOf ce = ⟨tg, iter, ifs, 0⟩ :: gens) (hT : ∀ D, TurnIs ce 0 tg iter ifs D (B D)) (hD : DenIs ce 0) (hu : ∀ (A : Around) it D env, A.under (.compLoop ce 0 it (.ref D) env) = A) (hq : ∀ it D env, (Code.compLoop ce 0 it (.ref D) env).quiet = true)
    (hstart : ∀ (R : Result → Shared → Prop) (it acc : Value) (env : Env) (s : Shared), codeAny (model X.prog X.w) X.A (.compLoop ce 0 it acc env) R s →
      wpAny (model X.prog X.w) X.A (pyIter it) (fun it' s' => codeAny (model X.prog X.w) X.A (.compLoop ce 0 it' acc env) R s') (notedBy (model X.prog X.w) X.A env fun x s' => R (.error x) s') s → codeAny (model X.prog X.w) X.A (.compStart ce 0 it acc env) R s)
    (hnew : ∀ (s : Shared) (Q : Value → Shared → Prop), Q (.ref s.heap.objs.size) { s with heap := s.heap.push ob } → wpAny (model X.prog X.w) X.A newAcc Q X.xe s)
    (hob : ∀ (H : Hp) (h : Heap), sysModules < h.objs.size → ObjOk X.prog X.w H (h.push ob) h.objs.size (o0 h.objs.size))
    (hc : X.calm = true) (hN : X.N.Nodup) (I : Inv X pins σ H s) (hi : PI X tg iter wi) (ok : BlkOk X.N X.env.scope scope own)
    (hg : ∀ s H C cl fp, PG (X.blk s H scope (compEnvC scope cl C X.env) fp) tg g) (ht : ∀ s H C cl fp, PTs (X.blk s H scope (compEnvC scope cl C X.env) fp) ifs tt)
    (hb : ∀ s H C cl fp D, PB (X.blk s H scope (compEnvC scope cl C X.env) fp) (own.map (·.2)) D (B D) tb) (hs : ∀ x, foldedSetIterable iter X.env x = pure x)
    (h : tComp o0 wi g tt tb (own.map (·.2)) σ H Q)
    (hRR : ∀ D C s' m H', Inv X pins σ H' s' → Q (.ref D) H' → s'.heap.Ns C m → FpOk X pins H' C → compPost (model X.prog X.w) X.A X.xe use Qf (.ref D) C (.ok .next) s') :
    wpAny (model X.prog X.w) X.A (comprehension ce scope X.env pos' newAcc false (eval iter X.env) use) Qf X.xe s := by
  have cellThere : ∀ y ∈ scope.names, y.2 = .free → ∃ c, X.env.cells.lookup y.1 = some c := by
    intro y hy e
    cases ok.free y hy e with
    | inl k => exact I.ok.has _ (.inl k)
    | inr k => exact I.ok.has _ (.inr k)
  refine wpAny_comprehension_free (use := use) hcl hs (closure_ok cellThere) ok.kind (fun y hy e => (ok.uniq y hy).trans (congrArg some e)) (thn (hi.run pins s σ H _ I h) fun xv s1 hx => thn hx fun itv s2 h2 => ?_)
  obtain ⟨it, fp, tn, J, H2, rfl, I2, T, st2, f2, q⟩ := h2
  refine hnew s2 _ (newEnv_comp ?_)
  generalize eD : s2.heap.objs.size = D
  have freeD : H2 D = none := I2.hok.fresh (by rw [eD]; exact Nat.le_refl _)
  obtain ⟨W, ⟨m0, w0⟩, turn⟩ := q D freeD
  generalize es3 : ({ s2 with heap := s2.heap.push ob } : Shared) = s3
  have hp3 : s3.heap = s2.heap.push ob := by rw [← es3]
  have I3 : Inv X pins σ (upd H2 D (o0 D)) s3 := by
    subst es3
    refine I2.laid (t' := s2.toks) (fun _ _ e => Heap.get?_push_of_some _ e) (by rw [eD]; exact Nat.le_refl _) ?_
    rw [← eD]
    exact hob _ s2.heap I2.big
  have below : ∀ b ∈ fp, b < s2.heap.objs.size := by
    intro b hb
    obtain ⟨o, e, _⟩ := T.obj _ _ st2 b hb
    exact Heap.lt_size e
  have f3 : ∀ b ∈ fp, FpOk X pins (upd H2 D (o0 D)) b ∧ b < s3.heap.objs.size := by
    intro b hb
    have lt := below b hb
    have bD : b ≠ D := by
      intro z
      rw [z, ← eD] at lt
      exact Nat.lt_irrefl _ lt
    refine ⟨⟨(upd_ne bD).trans (f2 b hb).1, (f2 b hb).2⟩, ?_⟩
    rw [hp3, Heap.size_push]
    exact Nat.lt_succ_of_lt lt
  have st3 : tn 0 s3.heap := T.keep _ _ _ st2 fun b _ o e => hp3 ▸ Heap.get?_push_of_some _ e
  have I4 := block_start I3 ok hN f3
  have nofp : ∀ b ∈ fp, (upd H2 D (o0 D)) b = none := fun b hb => (f3 b hb).1.1
  have pg := hg s3 (upd H2 D (o0 D)) s3.heap.objs.size (cellsFrom (s3.heap.objs.size + 1) scope.names (cloFrom X.env.cells scope.names [])) fp
  have pt := ht s3 (upd H2 D (o0 D)) s3.heap.objs.size (cellsFrom (s3.heap.objs.size + 1) scope.names (cloFrom X.env.cells scope.names [])) fp
  have pb := hb s3 (upd H2 D (o0 D)) s3.heap.objs.size (cellsFrom (s3.heap.objs.size + 1) scope.names (cloFrom X.env.cells scope.names [])) fp D
  show codeAny _ _ (.compStart ce 0 (.ref it) (.ref D) (compEnvC scope (cellsFrom (s3.heap.objs.size + 1) scope.names (cloFrom X.env.cells scope.names [])) s3.heap.objs.size X.env)) (compPost (model X.prog X.w) X.A X.xe use Qf (.ref D) s3.heap.objs.size)
    { s3 with heap := pushCells (s3.heap.push { cls := .type "dict", data := .dict #[] }) scope.names }
  generalize ece : compEnvC scope (cellsFrom (s3.heap.objs.size + 1) scope.names (cloFrom X.env.cells scope.names [])) s3.heap.objs.size X.env = cenv at I4 pg pt pb ⊢
  have locC : cenv.locals = s3.heap.objs.size := by rw [← ece]; rfl
  generalize eH3 : upd H2 D (o0 D) = H3 at I3 I4 pg pt pb w0 nofp f3
  generalize es4 : ({ s3 with heap := pushCells (s3.heap.push { cls := .type "dict", data := .dict #[] }) scope.names } : Shared) = s4 at I4 ⊢
  have st4 : tn 0 s4.heap := T.keep _ _ _ st3 fun b _ o e => by
    rw [← es4]
    exact pushCells_keeps _ _ _ _ (Heap.get?_push_of_some _ e)
  have quiet : ∀ {σ1 : L2.St} {H1 : Hp} {s1 : Shared}, Inv (X.blk s3 H3 scope cenv fp) [] σ1 H1 s1 → (∀ b ∈ fp, H1 b = none) → ∀ b ∈ fp, FpOk (X.blk s3 H3 scope cenv fp) [] H1 b := by
    intro σ1 H1 s1 J1 hn b hb
    refine ⟨hn b hb, (J1.ok.exf b hb).1, J1.ok.exfs b hb, .inl hb, fun x c e => (J1.ok.exf b hb).2 x c e, fun p hp => ?_⟩
    have hp' : p ∈ ([] : List (Addr × Obj)) ++ [] := hp
    simp at hp'
  have go : codeAny (model X.prog X.w) X.A (.compLoop ce 0 (.ref it) (.ref D) cenv) (compPost (model X.prog X.w) X.A X.xe use Qf (.ref D) s3.heap.objs.size) s4 := by
    refine loop_gen (hT D) hD (hu _ _ _ _) (hq _ _ _) (fun n s5 => ∃ i H5, Inv (X.blk s3 H3 scope cenv fp) [] (wipe σ (own.map (·.2))) H5 s5 ∧ tn i s5.heap ∧ (∀ b ∈ fp, H5 b = none) ∧ W i n H5) ?_ m0 ⟨0, H3, I4, st4, nofp, w0⟩
    rintro n s5 ⟨i, H5, I5, st5, n5, w5⟩
    rcases turn i n H5 w5 with ⟨stop, qq⟩ | ⟨more, Nx, hNx, step⟩
    · refine thnF (T.done (X.blk s3 H3 scope cenv fp) rfl rfl rfl hc i [] s5 _ H5 (fun _ _ => False) I5 (quiet I5 n5) st5 stop) fun r s6 ⟨er, I6⟩ => ?_
      subst er
      have back : Inv X pins σ H5 s6 := I3.call' (ch := fp) I6.os I6.base I6.hok I6.bare fun b hb =>
        ⟨(f3 b hb).1.2.2.2.1, (f3 b hb).1.2.1, (f3 b hb).1.2.2.2.2.1, (f3 b hb).1.2.2.2.2.2⟩
      have freeC : H5 cenv.locals = none := I6.free
      obtain ⟨m, hn, _⟩ := I6.loc
      have hn2 : s6.heap.Ns cenv.locals m := hn
      rw [locC] at hn2 freeC
      exact hRR D s3.heap.objs.size s6 m H5 back qq hn2 (I3.fpOk (Nat.le_refl _) freeC)
    · refine thnF (T.item (X.blk s3 H3 scope cenv fp) rfl rfl rfl hc i [] s5 _ H5 (fun _ _ => False) I5 (quiet I5 n5) st5 more) fun r s6 ⟨u, er, h6⟩ => ?_
      subst er
      refine thnF h6 fun _ s7 ⟨x, H7, I7, r7, y7, st7, n7⟩ => ?_
      have pinned := I7.pinned (quiet I7 n7) (T.obj _ _ st7)
      refine thnF (pg.run _ s7 _ H7 x u _ pinned r7 (step x H7 y7)) fun _ s8 ⟨σ8, H8, I8, hw, q8⟩ => ?_
      have len8 : σ8.length = (wipe σ (own.map (·.2))).length := by rw [← hw, wipe_length]
      refine thnF (pt.run _ s8 σ8 H8 _ I8 q8) fun b s9 ⟨H9, I9, q9⟩ => ?_
      have fin : ∀ {σ1 : L2.St} {s1 : Shared} {H1 : Hp}, Inv (X.blk s3 H3 scope cenv fp) ([] ++ pinsAt fp s7.heap) σ1 H1 s1 → σ1.length = σ8.length → (∀ (j : Nat) v, j ∉ own.map (·.2) → σ8[j]? = some (some v) → σ1[j]? = some (some v)) → Nx H1 →
          ∃ m, m < n ∧ ∃ i H5, Inv (X.blk s3 H3 scope cenv fp) [] (wipe σ (own.map (·.2))) H5 s1 ∧ tn i s1.heap ∧ (∀ b ∈ fp, H5 b = none) ∧ W i m H5 := by
        intro σ1 s1 H1 J1 hl hk nx
        obtain ⟨m', hm, w'⟩ := hNx H1 nx
        have kept : ∀ b ∈ fp, ∀ o, s7.heap.get? b = some o → s1.heap.get? b = some o ∧ H1 b = none := by
          intro b hb o e
          have z := J1.pin (b, o) (List.mem_append_right _ (List.mem_append_right _ (mem_pinsAt hb e)))
          exact ⟨z.1, z.2.1⟩
        refine ⟨m', hm, i + 1, H1, (J1.unpinned (pins := [])).weak (len8.symm.trans hl.symm) (fun j v e => ?_), T.keep _ _ _ st7 (fun b hb o e => (kept b hb o e).1), (fun b hb => ?_), w'⟩
        · rw [← hw] at e
          exact hk j v (wipe_some e).2 (wipe_some e).1
        · obtain ⟨o, e, _⟩ := T.obj _ _ st7 b hb
          exact (kept b hb o e).2
      cases b with
      | false =>
        rw [if_neg Bool.false_ne_true] at q9 ⊢
        exact fin I9 rfl (fun _ _ _ e => e) q9
      | true =>
        rw [if_pos rfl] at q9 ⊢
        refine thnF (pb.run _ s9 σ8 H9 Nx I9 q9) fun _ s10 ⟨σ10, H10, I10, hl, hk, nx⟩ => ?_
        exact fin I10 hl hk nx
  exact hstart _ _ _ _ _ go (T.self X.A 0 _ _ _ st4 go)
end
end K89

set_option maxRecDepth 100000
set_option maxHeartbeats 2000000
/-! dicts whose keys are tuples of ints, each key told with its place -/
namespace K89
open PySem PySem.Spec PyProof.Rows L2
theorem keyItems {P : Program} {w : World} : ∀ {k : List Int} {us : List Value}, Vals (k.map V.int) us → ItemsAre (intKind P w) k us
  | [], _, r => by
    cases r
    exact .nil
  | n :: k, _, r => by
    rw [List.map_cons] at r
    cases r with
    | cons h t =>
      obtain ⟨tk, rfl⟩ := h
      exact .cons (intKind_is _ _ _ _) (keyItems t)
abbrev IK (P : Program) (w : World) := tupleKind (intKind P w)
/-- an entry: the key's ints, the key's place, the value -/
abbrev Ent : Type := List Int × Addr × V
def EntR (p : Ent) (q : List Int × Addr × Value) : Prop := p.1 = q.1 ∧ p.2.1 = q.2.1 ∧ RelV p.2.2 q.2.2
abbrev EntRs : List Ent → List (List Int × Addr × Value) → Prop := Paired EntR
def TabIs (P : Program) (w : World) (a : Addr) (kvs : List Ent) (h : Heap) : Prop := kvs.length ≤ sizeLine ∧ (a == sysModules) = false ∧ ∃ xs, EntRs kvs xs ∧
  ∃ o es ep, h.get? a = some o ∧ o.ExactDict ∧ o.data = .dict es ep ∧ es.toList = xs.map (entryOfKey (IK P w)) ∧ (xs.map (·.1)).Nodup
/-- such a dict at a -/
def TD (P : Program) (w : World) (a : Addr) (kvs : List Ent) : HO := .ext (TabIs P w a kvs)
theorem td_ok {P : Program} {w : World} {H : Hp} {h : Heap} {a : Addr} {kvs : List Ent} (t : TabIs P w a kvs h) : ObjOk P w H h a (TD P w a kvs) := by
  obtain ⟨z, y, xs, r, o, es, ep, e, rest⟩ := id t
  refine ⟨t, ⟨o, e⟩, fun h1 h2 t1 kp => ?_⟩
  obtain ⟨z, y, xs, r, o, es, ep, e, rest⟩ := t1
  exact ⟨z, y, xs, r, o, es, ep, kp o e, rest⟩
theorem td_empty {P : Program} {w : World} {H : Hp} (h : Heap) (hb : sysModules < h.objs.size) : ObjOk P w H (h.push { cls := .type "dict", data := .dict #[] }) h.objs.size (TD P w h.objs.size []) :=
  td_ok ⟨Nat.zero_le _, beq_eq_false_iff_ne.mpr (Ne.symm (Nat.ne_of_lt hb)), [], .nil, _, #[], 0, Heap.get?_push_size _ rfl, ⟨rfl, rfl, rfl⟩, rfl, rfl, List.nodup_nil⟩
/-- every key of the entries stands at its place -/
def KeysAt (K : PySem.W.Frag) (H : Hp) (kvs : List Ent) : Prop := ∀ p ∈ kvs, SqT K H p.2.1 (p.1.map V.int)
def lkp (kvs : List Ent) (k : List Int) : Option V := (kvs.find? fun p => decide (p.1 = k)).map (·.2.2)
def ins (kvs : List Ent) (k : List Int) (b : Addr) (v : V) : List Ent := if (lkp kvs k).isSome then kvs.map (fun p => if p.1 = k then (p.1, p.2.1, v) else p) else kvs ++ [(k, b, v)]
theorem lkp_cons (p : Ent) (r : List Ent) (k : List Int) : lkp (p :: r) k = if p.1 = k then some p.2.2 else lkp r k := by
  unfold lkp
  rw [List.find?_cons]
  by_cases e : p.1 = k
  · rw [if_pos e, decide_eq_true e]
    rfl
  · rw [if_neg e, decide_eq_false e]
theorem ents_look {kvs : List Ent} {xs : List (List Int × Addr × Value)} (r : EntRs kvs xs) (k : List Int) : RelO (lkp kvs k) ((atKey xs k).map (·.2)) := by
  induction r with
  | nil => exact True.intro
  | @cons p q ps qs h t ih =>
    obtain ⟨h1, _, h3⟩ := h
    rw [lkp_cons]
    by_cases e : p.1 = k
    · rw [if_pos e]
      have b : atKey (q :: qs) k = some q.2 := by simp [atKey, List.find?_cons, h1.symm.trans e]
      rw [b]
      exact h3
    · rw [if_neg e]
      have b : atKey (q :: qs) k = atKey qs k := by simp [atKey, List.find?_cons, show ¬ q.1 = k from fun z => e (h1.trans z)]
      rw [b]
      exact ih
theorem ents_repl {kvs : List Ent} {xs : List (List Int × Addr × Value)} (r : EntRs kvs xs) (k : List Int) {v : V} {u : Value} (rv : RelV v u) :
    EntRs (kvs.map fun p => if p.1 = k then (p.1, p.2.1, v) else p) (xs.map (putAt k u)) := by
  induction r with
  | nil => exact .nil
  | @cons p q ps qs h t ih =>
    rw [List.map_cons, List.map_cons]
    refine .cons ?_ ih
    obtain ⟨h1, h2, h3⟩ := h
    unfold putAt
    by_cases e : p.1 = k
    · rw [if_pos e, if_pos (h1.symm.trans e)]
      exact ⟨h1, h2, rv⟩
    · rw [if_neg e, if_neg (fun z => e (h1.trans z))]
      exact ⟨h1, h2, h3⟩
theorem ents_put {kvs : List Ent} {xs : List (List Int × Addr × Value)} (r : EntRs kvs xs) (k : List Int) (b : Addr) {v : V} {u : Value} (rv : RelV v u) : EntRs (ins kvs k b v) (storedH xs k b u) := by
  have e := (ents_look r k).isSome_eq
  rw [Option.isSome_map] at e
  unfold ins storedH
  rw [e]
  by_cases q : (atKey xs k).isSome = true
  · rw [if_pos q, if_pos q]
    exact ents_repl r k rv
  · rw [if_neg q, if_neg q]
    exact Paired.snoc r ⟨rfl, rfl, rv⟩
theorem ins_len (kvs : List Ent) (k : List Int) (b : Addr) (v : V) : (ins kvs k b v).length ≤ kvs.length + 1 := by
  unfold ins
  by_cases q : (lkp kvs k).isSome = true
  · rw [if_pos q, List.length_map]
    exact Nat.le_succ _
  · rw [if_neg q, List.length_append, List.length_singleton]
    exact Nat.le_refl _
section
variable {X : Cx} {pins : List (Addr × Obj)} {σ : L2.St} {H : Hp} {s : Shared} {a b : Addr} {kvs : List Ent} {k : List Int}
theorem keyAt (I : Inv X pins σ H s) (e : SqT X.K H b (k.map V.int)) : (IK X.prog X.w).is s.heap k b := by
  obtain ⟨its, r, ⟨o, h1, h2, n, h3⟩, _⟩ := I.tuple e
  exact ⟨o, its.toArray, n, h1, h2, h3, keyItems r⟩
theorem keysIs (I : Inv X pins σ H s) : ∀ {kvs : List Ent} {xs : List (List Int × Addr × Value)}, EntRs kvs xs → KeysAt X.K H kvs → ∀ x ∈ xs, (IK X.prog X.w).is s.heap x.1 x.2.1 := by
  intro kvs xs r
  induction r with
  | nil =>
    intro _ x hx
    cases hx
  | @cons p q ps qs h t ih =>
    intro hk x hx
    rcases List.mem_cons.mp hx with e | hx
    · subst e
      have z := hk p List.mem_cons_self
      rw [h.1, h.2.1] at z
      exact keyAt I z
    · exact ih (fun y hy => hk y (List.mem_cons_of_mem _ hy)) x hx
/-- the dict as the library's rules want it -/
theorem td_of (I : Inv X pins σ H s) (e : Rd H a (TD X.prog X.w a kvs)) (hk : KeysAt X.K H kvs) : kvs.length ≤ sizeLine ∧ (a == sysModules) = false ∧ ∃ xs, EntRs kvs xs ∧ s.heap.DictOfH (IK X.prog X.w) a xs := by
  obtain ⟨⟨z, y, xs, r, o, es, ep, h1, h2, h3, h4, h5⟩, _, _⟩ := (show ObjOk X.prog X.w H s.heap a (TD X.prog X.w a kvs) from e.ok I.hok)
  exact ⟨z, y, xs, r, o, es, ep, h1, h2, h3, h4, keysIs I r hk, h5⟩
end
/-- a[y], told by the key -/
structure TGet (K : PySem.W.Frag) (P : Program) (w : World) (H : Hp) (a : Addr) (y : V) (r : Option V) : Prop where
  ex : ∃ kvs b k, y = .ref b ∧ Rd H a (TD P w a kvs) ∧ KeysAt K H kvs ∧ SqT K H b (k.map V.int) ∧ r = lkp kvs k
section
variable {X : Cx} {pins : List (Addr × Obj)} {σ : L2.St} {H : Hp} {s : Shared} {a : Addr} {y v : V} {u r : Value} {o : Option V} {A : Around} {E : Value → Shared → Prop}
theorem t_getItem {Q : Value → Shared → Prop} (hu : A.units + 1 < cLine) (I : Inv X pins σ H s) (g : TGet X.K X.prog X.w H a y (some v)) (ry : RelV y u) (h : ∀ u' s', Inv X pins σ H s' → RelV v u' → Q u' s') :
    wpAny (model X.prog X.w) A (getItem (.ref a) u) Q E s := by
  obtain ⟨kvs, b, k, rfl, e, hk, hb, l⟩ := g.ex
  cases ry
  obtain ⟨_, _, xs, rel, dd⟩ := td_of I e hk
  obtain ⟨u', hu', ru'⟩ := RelO.some_of (v := v) (o := (atKey xs k).map (·.2)) (by rw [l]; exact ents_look rel k)
  obtain ⟨p, hp, hp2⟩ := Option.map_eq_some_iff.mp hu'
  refine wpAny_getItem_heap (tupleKind_room_in1 hu) (keyAt I hb) dd hp ?_
  rw [hp2]
  exact h u' _ (I.tok _) ru'
theorem t_in {Q : Value → Shared → Prop} (hu : A.units + 1 < cLine) (I : Inv X pins σ H s) (g : TGet X.K X.prog X.w H a y o) (ry : RelV y u) (h : ∀ s', Inv X pins σ H s' → Q (.bool o.isSome) s') :
    wpAny (model X.prog X.w) A (compareOp .In u (.ref a)) Q E s := by
  obtain ⟨kvs, b, k, rfl, e, hk, hb, l⟩ := g.ex
  cases ry
  obtain ⟨_, hd, xs, rel, dd⟩ := td_of I e hk
  have q := (ents_look rel k).isSome_eq
  rw [Option.isSome_map] at q
  refine wpAny_in_heap (tupleKind_room_in1 hu) (keyAt I hb) hd dd ?_
  rw [← q, ← l]
  exact h _ (I.tok _)
theorem t_get2 {Q : Value → Shared → Prop} {d : V} (hu : A.units + 1 < cLine) (I : Inv X pins σ H s) (g : TGet X.K X.prog X.w H a y o) (ry : RelV y u) (rd : RelV d r) (h : ∀ u' s', Inv X pins σ H s' → RelV (o.getD d) u' → Q u' s') :
    wpAny (model X.prog X.w) A (call (.builtin "dict.get") [.ref a, u, r]) Q E s := by
  obtain ⟨kvs, b, k, rfl, e, hk, hb, l⟩ := g.ex
  cases ry
  obtain ⟨_, hd, xs, rel, dd⟩ := td_of I e hk
  refine call_meetsIn PySem.F.slot_dict_get dd.typeIs PySem.F.entry_dict_get (PySem.F.args_dict_get_3 _ _ _) (meetsH_dict_get_default (IK X.prog X.w) a b hd r) ⟨tupleKind_room_in1 hu, k, xs, keyAt I hb, dd, h _ _ (I.tok _) ?_⟩
  rw [l]
  exact (ents_look rel k).getD rd
theorem t_typeIs (I : Inv X pins σ H s) (g : TGet X.K X.prog X.w H a y o) : s.TypeIs (.ref a) "dict" ∧ ∀ b, Value.ref a = .ref b → ∃ ob, s.heap.get? b = some ob ∧ ob.dict = none := by
  obtain ⟨kvs, b, k, _, e, hk, _, _⟩ := g.ex
  obtain ⟨_, _, xs, _, dd⟩ := td_of I e hk
  refine ⟨dd.typeIs, fun c q => ?_⟩
  cases q
  obtain ⟨ob, _, _, h1, h2, _⟩ := dd
  exact ⟨ob, h1, h2.2.1⟩
/-- a[y] = v and a comprehension's store -/
theorem t_written {kvs : List Ent} {k : List Int} {b : Addr} {xs : List (List Int × Addr × Value)} {h' : Heap} {t' : Nat} (I : Inv X pins σ H s) (e : H a = some (TD X.prog X.w a kvs)) (hz : kvs.length < sizeLine) (hd : (a == sysModules) = false) (rel : EntRs kvs xs) (rv : RelV v r)
    (dd : h'.DictOfH (IK X.prog X.w) a (storedH xs k b r)) (sb : Heap.SameBut a s.heap h') : Inv X pins σ (upd H a (TD X.prog X.w a (ins kvs k b v))) { s with heap := h', toks := t' } := by
  obtain ⟨q, es, ep, hq, h2, h3, h4, _, h5⟩ := dd
  exact d_write I (by rw [e]; trivial) sb ⟨q, hq⟩ (td_ok ⟨Nat.le_trans (ins_len _ _ _ _) hz, hd, _, ents_put rel k b rv, q, es, ep, hq, h2, h3, h4, h5⟩)
theorem t_setItem {kvs : List Ent} {k : List Int} {b : Addr} {Q : Unit → Shared → Prop} (hu : A.units + 1 < cLine) (I : Inv X pins σ H s) (e : H a = some (TD X.prog X.w a kvs)) (hk : KeysAt X.K H kvs) (hb : SqT X.K H b (k.map V.int)) (hz : kvs.length < sizeLine)
    (rv : RelV v r) (h : ∀ s', Inv X pins σ (upd H a (TD X.prog X.w a (ins kvs k b v))) s' → Q () s') : wpAny (model X.prog X.w) A (setItem (.ref a) (.ref b) r) Q E s := by
  obtain ⟨_, hd, xs, rel, dd⟩ := td_of I (.inl e) hk
  have hl : xs.length ≤ sizeLine := by
    rw [← Paired.length rel]
    exact Nat.le_of_lt hz
  exact wpAny_setItem_heap (hsz := hl) (tupleKind_room_in1 hu) (keyAt I hb) dd fun h' dd' hs => h _ (t_written I e hz hd rel rv dd' hs)
theorem t_dictSet {kvs : List Ent} {k : List Int} {b : Addr} {Q : Unit → Shared → Prop} (hu : A.units < cLine) (I : Inv X pins σ H s) (e : H a = some (TD X.prog X.w a kvs)) (hk : KeysAt X.K H kvs) (hb : SqT X.K H b (k.map V.int)) (hz : kvs.length < sizeLine)
    (rv : RelV v r) (h : ∀ s', Inv X pins σ (upd H a (TD X.prog X.w a (ins kvs k b v))) s' → Q () s') : wpAny (model X.prog X.w) A (dictSet a (.ref b) r) Q E s := by
  obtain ⟨_, hd, xs, rel, dd⟩ := td_of I (.inl e) hk
  have hl : xs.length ≤ sizeLine := by
    rw [← Paired.length rel]
    exact Nat.le_of_lt hz
  exact wpAny_dictSet_heap (hsz := hl) hu (keyAt I hb) dd fun h' dd' hs => h _ (t_written I e hz hd rel rv dd' hs)
end
end K89

set_option maxRecDepth 100000
set_option maxHeartbeats 2000000
/-! rules over such dicts: read, asked, written, displayed, listed, walked by its pairs -/
namespace K89
open PySem PySem.Spec PyProof.Rows L2
section
variable {X : Cx} {o i e f value : Expr} {pos pos' apos cpos : Pos} {td ty tv tx : TE}
/-- d[y] -/
def tTGet (K : PySem.W.Frag) (P : Program) (w : World) (td ty : TE) : TE := fun σ H Q => td σ H fun x H1 => ty σ H1 fun y H2 => ∃ a v, x = .ref a ∧ TGet K P w H2 a y (some v) ∧ Q v H2
theorem pe_tget (hu : X.A.units + 1 < cLine) (ho : PE X o td) (hi : PE X i ty) (hs : NoSl i) : PE X (.Subscript o i pos) (tTGet X.K X.prog X.w td ty) := by
  refine ⟨fun pins s σ H Q I h => subD_of PySem.F.slot_dict_getitem.lookup hs (thn (ho.run pins s σ H _ I h) fun u s1 ⟨x, H1, I1, rx, q1⟩ => thn (hi.run pins s1 σ H1 _ I1 q1) fun iv s2 h2 => ?_)⟩
  obtain ⟨y, H2, I2, ry, a, v, rfl, g, q2⟩ := h2
  cases rx
  exact ⟨(t_typeIs I2 g).1, t_getItem hu I2 g ry fun u' s3 I3 ru => ⟨v, H2, I3, ru, q2⟩⟩
/-- y in d -/
def tTIn (K : PySem.W.Frag) (P : Program) (w : World) (ty td : TE) : TE := fun σ H Q => ty σ H fun y H1 => td σ H1 fun x H2 => ∃ a r, x = .ref a ∧ TGet K P w H2 a y r ∧ Q (.bl r.isSome) H2
theorem pc_tin (hu : X.A.units + 1 < cLine) (hi : PE X i ty) (ho : PE X o td) : PC X .In i o (tTIn X.K X.prog X.w ty td) := by
  refine ⟨fun pins s σ H Q I h => thn (hi.run pins s σ H _ I h) fun iv s1 ⟨y, H1, I1, ry, q1⟩ => thn (ho.run pins s1 σ H1 _ I1 q1) fun u s2 h2 => ?_⟩
  obtain ⟨x, H2, I2, rx, a, r, rfl, g, q2⟩ := h2
  cases rx
  exact t_in hu I2 g ry fun s3 I3 => ⟨.bl r.isSome, H2, I3, rfl, q2⟩
/-- d.get(y, z) -/
def tTGet2 (K : PySem.W.Frag) (P : Program) (w : World) (td ty tx : TE) : TE := fun σ H Q => td σ H fun x H1 => ∃ a kvs, x = .ref a ∧ Rd H1 a (TD P w a kvs) ∧ KeysAt K H1 kvs ∧ ty σ H1 fun y H2 => tx σ H2 fun z H3 => ∃ r, TGet K P w H3 a y r ∧ Q (r.getD z) H3
theorem pe_tget2 (hu : X.A.units + 1 < cLine) (ho : PE X o td) (he : PE X e ty) (hf : PE X f tx) (m : M2 X o "get" apos e f cpos) : PE X (.Call (.Attribute o "get" apos) [e, f] [] cpos) (tTGet2 X.K X.prog X.w td ty tx) := by
  refine ⟨fun pins s σ H Q I h => wpAny_Call_method m.base m.few m.line PySem.F.plainAttrs_dict PySem.F.slot_dict_get PySem.F.type_dict_get (thn (ho.run pins s σ H _ I h) fun u s1 h1 => ?_)⟩
  obtain ⟨x, H1, I1, rx, a, kvs, rfl, ea, ka, q1⟩ := h1
  cases rx
  obtain ⟨_, _, xs, _, dd⟩ := td_of I1 ea ka
  refine ⟨dd.typeIs, fun c q => ?_, ?_⟩
  · cases q
    obtain ⟨ob, _, _, g1, g2, _⟩ := dd
    exact ⟨ob, g1, g2.2.1⟩
  · rw [m.trees]
    refine Calls.callWith_builtin rfl (Calls.evalArgs_plain (Calls.spliced_cons (thn (he.run pins s1 σ H1 _ I1 q1) fun iv s2 h2 => ?_)))
    obtain ⟨y, H2, I2, ry, q2⟩ := h2
    refine Calls.spliced_cons (thn (hf.run pins s2 σ H2 _ I2 q2) fun zv s3 h3 => Calls.spliced_nil ?_)
    obtain ⟨z, H3, I3, rz, r, g, q3⟩ := h3
    exact t_get2 hu I3 g ry rz fun u' s4 I4 ru => ⟨_, H3, I4, ru, q3⟩
/-- d[y] = v -/
def sTPut (K : PySem.W.Frag) (P : Program) (w : World) (td ty tv : TE) : TS := fun D σ H => tv σ H fun v H1 => td σ H1 fun x H2 => ty σ H2 fun y H3 => ∃ a kvs k b, x = .ref a ∧ y = .ref b ∧ H3 a = some (TD P w a kvs) ∧ KeysAt K H3 kvs ∧ SqT K H3 b (k.map V.int) ∧ kvs.length < sizeLine ∧
  D.nx σ (upd H3 a (TD P w a (ins kvs k b v)))
theorem ps_tput (hu : X.A.units + 1 < cLine) (ho : PE X o td) (hi : PE X i ty) (hv : PE X value tv) (hs : swapsWith value (some (.Subscript o i pos')) pos.line X.env = pure false) :
    PS X (.Assign [.Subscript o i pos'] value pos) (sTPut X.K X.prog X.w td ty tv) := by
  refine ⟨fun pins s σ H D I h => wpAny_Assign_Subscript (thn (hv.run pins s σ H _ I h) fun r s1 ⟨v, H1, I1, rv, q1⟩ => thn (ho.run pins s1 σ H1 _ I1 q1) fun u s2 ⟨x, H2, I2, rx, q2⟩ => thn (hi.run pins s2 σ H2 _ I2 q2) fun iv s3 h3 => ?_) hs⟩
  obtain ⟨y, H3, I3, ry, a, kvs, k, b, rfl, rfl, ea, ka, kb, hz, q3⟩ := h3
  cases rx
  cases ry
  exact t_setItem hu I3 ea ka kb hz rv fun s4 I4 => ⟨σ, _, I4, q3⟩
/-- {}, to be such a dict -/
def tTNew (P : Program) (w : World) : TE := fun _ H Q => ∀ p, H p = none → Q (.ref p) (upd H p (TD P w p []))
theorem t_laid {pins : List (Addr × Obj)} {s : Shared} {σ : L2.St} {H : Hp} (I : Inv X pins σ H s) :
    Inv X pins σ (upd H s.heap.objs.size (TD X.prog X.w s.heap.objs.size [])) { s with heap := s.heap.push { cls := .type "dict", data := .dict #[] } } :=
  I.laid (t' := s.toks) (fun _ _ q => Heap.get?_push_of_some _ q) (Nat.le_refl _) (td_empty s.heap I.big)
theorem pe_tnew : PE X (.Dict [] [] pos) (tTNew X.prog X.w) := ⟨fun pins s σ H Q I h => wpAny_Dict_empty ⟨.ref s.heap.objs.size, _, t_laid I, rfl, h _ I.fresh⟩⟩
/-- {k: v} -/
def tTDisp (K : PySem.W.Frag) (P : Program) (w : World) (tk tv : TE) : TE := fun σ H Q => ∀ p, H p = none → tk σ (upd H p (TD P w p [])) fun y H1 => tv σ H1 fun z H2 => ∃ b k, y = .ref b ∧ SqT K H2 b (k.map V.int) ∧ H2 p = some (TD P w p []) ∧
  Q (.ref p) (upd H2 p (TD P w p (ins [] k b z)))
theorem pe_tdisp {k v : Expr} {tk : TE} (hu : X.A.units < cLine) (hk : PE X k tk) (hv : PE X v tv)
    (hsh : (evalEachOpt [some k] X.env).zip ((evalEach [v] X.env).map fun v => do let x ← v; standAt pos; pure x) = [(some (eval k X.env), do let x ← eval v X.env; standAt pos; pure x)] := by rfl) :
    PE X (.Dict [some k] [v] pos) (tTDisp X.K X.prog X.w tk tv) := by
  refine ⟨fun pins s σ H Q I h => ?_⟩
  rw [arm_eval_Dict, hsh]
  have e1 := dictDisplay_pairs [(eval k X.env, do let x ← eval v X.env; standAt pos; pure x)] (List.cons_ne_nil _ _) (by show 1 < 17; decide)
  rw [show [(some (eval k X.env), (do let x ← eval v X.env; standAt pos; pure x : Sem Value))] = [(eval k X.env, (do let x ← eval v X.env; standAt pos; pure x : Sem Value))].map (fun p => (some p.1, p.2)) from rfl, e1]
  refine wpAny_bind (wpAny_standAt (wpAny_bind (wpAny_subDictH (knd := IK X.prog X.w) (Q := fun d s' => wpAny (model X.prog X.w) X.A (pure (Value.ref d)) (EP X pins σ Q) X.xe s') hu (by show 1 ≤ 15; decide) ?_)))
  have I1 := t_laid I
  refine evalPairs_cons (thn (hk.run pins _ σ _ _ I1 (h _ I.fresh)) fun kv s1 h1 => ?_)
  obtain ⟨y, H1, I1, ry, q1⟩ := h1
  refine wpAny_bind (thn (hv.run pins s1 σ H1 _ I1 q1) fun vv s2 h2 => wpAny_bind (wpAny_standAt (wpAny_pure ?_)))
  obtain ⟨z, H2, I2, rz, b, ks, rfl, kb, ep, q2⟩ := h2
  cases ry
  refine evalPairs_nil ?_
  obtain ⟨_, hd, xs, rel, dd⟩ := td_of I2 (.inl ep) (fun _ z => nomatch z)
  cases rel
  refine ⟨[(ks, b, vv)], ⟨rfl, rfl, keyAt I2 kb, trivial⟩, dd, fun h1 tk dd1 hs => wpAny_pure ⟨.ref s.heap.objs.size, _, ?_, rfl, q2⟩⟩
  exact t_written (kvs := []) (t' := tk) I2 ep (by show 0 < sizeLine; decide) hd .nil rz dd1 hs
/-- list(d): the keys' places -/
def rTList (P : Program) (w : World) : List V → Hp → VK → Prop := fun xs H Q => ∃ d kvs, xs = [V.ref d] ∧ Rd H d (TD P w d kvs) ∧ ∀ p, H p = none → Q (.ref p) (upd H p (.lst (kvs.map fun p => V.ref p.2.1)))
theorem call_tlist (hc : X.calm = true) : CallR X (.type "list") (rTList X.prog X.w) := by
  intro pins s σ H xs us Q I r h
  obtain ⟨d, kvs, rfl, hd, q⟩ := h
  obtain ⟨u, rfl, rx⟩ := r.one
  cases rx
  obtain ⟨⟨z, hs, ks, pr, ob, es, ep, ho, hx, hdt, he, hn⟩, _, _⟩ := (show ObjOk X.prog X.w H s.heap d (TD X.prog X.w d kvs) from hd.ok I.hok)
  have l1 : es.size = ks.length := size_of_entries he
  have l2 : kvs.length = ks.length := Paired.length pr
  refine PySem.W.kdl_call (kdl_raw hs hx hdt) (I.ok.hd hc) ho (by omega) fun h' tk acc c kp hob it => ?_
  have all : ∀ (j : Nat) (p : Ent), kvs[j]? = some p → acc.toList[j]? = some (Value.ref p.2.1) := by
    intro j p hj
    obtain ⟨b, hb, e1, e2, _⟩ := paired_get pr hj
    have hlt : j < acc.toList.length := by
      rw [Array.length_toList, it.1, l1]
      exact (List.getElem?_eq_some_iff.mp hb).1
    obtain ⟨en, hen, hv⟩ := it.2 j acc.toList[j] (by rw [← Array.getElem?_toList]; exact List.getElem?_eq_getElem hlt)
    have qe := entry_at he j
    rw [hb, hen] at qe
    have q3 : en = entryOfKey (IK X.prog X.w) b := Option.some.inj qe
    rw [List.getElem?_eq_getElem hlt, hv, q3, e2] <;> rfl
  have eb : acc.toList = (kvs.map fun p => p.2.1).map Value.ref := by
    apply List.ext_getElem?
    intro j
    rw [List.getElem?_map, List.getElem?_map]
    cases hj : kvs[j]? with
    | some p => exact all j p hj
    | none =>
      have h1 := List.getElem?_eq_none_iff.mp hj
      rw [List.getElem?_eq_none (by rw [Array.length_toList, it.1]; omega)] <;> rfl
  have rv : Vals (kvs.map fun p => V.ref p.2.1) acc.toList := by
    rw [eb]
    have z := vals_refs (kvs.map fun p => p.2.1)
    rw [List.map_map] at z
    exact z
  refine ⟨.ref s.heap.objs.size, _, I.laid (t' := tk) (o := .lst (kvs.map fun p => V.ref p.2.1)) kp (Nat.le_refl _) ⟨by rw [List.length_map]; omega, acc.toList, c, rv, ?_⟩, rfl, q _ I.fresh⟩
  rw [Array.toArray_toList]
  exact hob
end
/-! the pairs of a locked dict -/
def ItP (P : Program) (w : World) (d : Addr) (ob : Obj) (kvs : List Ent) : It :=
  ⟨fun i H => H d = some (.frz ob (TD P w d kvs)) ∧ i < kvs.length, fun i H x H' => ∃ T p, kvs[i]? = some p ∧ x = .ref T ∧ H T = none ∧ H' = upd H T (.tup [.ref p.2.1, p.2.2]), fun i H => H d = some (.frz ob (TD P w d kvs)) ∧ kvs.length ≤ i⟩
theorem td_frz {X : Cx} {pins : List (Addr × Obj)} {σ : L2.St} {H : Hp} {s : Shared} {d : Addr} {ob : Obj} {kvs : List Ent} (I : Inv X pins σ H s) (h : H d = some (.frz ob (TD X.prog X.w d kvs))) :
    (d == sysModules) = false ∧ s.heap.get? d = some ob ∧ ob.ExactDict ∧ ∃ es ep, ob.data = .dict es ep ∧ es.size = kvs.length ∧ ∀ (i : Nat) (p : Ent), kvs[i]? = some p → ∃ en, es[i]? = some en ∧ en.key = .ref p.2.1 ∧ RelV p.2.2 en.val := by
  obtain ⟨hg, ⟨_, hs, xs, pr, o2, es, ep, ho, hx, hdt, he, _⟩, _, _⟩ := I.hok d _ h
  rw [hg] at ho
  cases ho
  have l1 : es.size = xs.length := size_of_entries he
  have l2 : kvs.length = xs.length := Paired.length pr
  refine ⟨hs, hg, hx, es, ep, hdt, by omega, fun i p e => ?_⟩
  obtain ⟨b, hb, _, e2, e3⟩ := paired_get pr e
  have q := entry_at he i
  rw [hb] at q
  exact ⟨_, q, by rw [e2]; rfl, e3⟩
theorem turn_pairs {P : Program} {w : World} {K : PySem.W.Frag} {d : Addr} {ob : Obj} {es : Array DictEntry} {ep : Nat} {kvs : List Ent} {elts : List Expr} {kk : Nat} {tpos : Pos} (it : Addr) (hod : ob.data = .dict es ep) :
    Turn P w K (.Tuple elts kk tpos) (ItP P w d ob kvs) [it] it (fun i h => ∃ ok ov, IsItemIter h it d i es.size ep ok ov) where
  mem := List.mem_singleton.mpr rfl
  obj := fun i h st b hb => by
    rw [List.mem_singleton.mp hb]
    obtain ⟨ok, ov, e⟩ := st
    exact ⟨_, e, fun v z => by cases z⟩
  keep := fun i h h' st k => by
    obtain ⟨ok, ov, e⟩ := st
    exact ⟨ok, ov, k it (List.mem_singleton.mpr rfl) _ e⟩
  item := by
    intro X hP hw hK hc i pins s σ H E I hf st hgo
    subst hP hw hK
    obtain ⟨hd, hi⟩ := hgo
    obtain ⟨hs, hg, hx, es2, ep2, hdt, hsz, ent⟩ := td_frz I hd
    obtain ⟨rfl, rfl⟩ := dict_ep hod hdt
    have hi2 : i < es2.size := by omega
    obtain ⟨en, hen, ek, ev⟩ := ent i kvs[i] (List.getElem?_eq_getElem hi)
    have een : es2[i] = en := by
      rw [Array.getElem?_eq_getElem hi2] at hen
      exact Option.some.inj hen
    obtain ⟨ok, ov, he⟩ := st
    have hlt : it < s.heap.objs.size := Heap.lt_size he
    refine DT.nextI he ⟨ob, hg, hx, hdt⟩ hi2 fun h1 hout hT hz hk => ⟨_, rfl, wpAny_letOwnedTupleGo_items (s := { s with heap := h1 }) hout fun h2 hit2 sb => ?_⟩
    rw [een] at hT hit2
    have hT2 : h2.get? s.heap.objs.size = some { cls := .type "tuple", data := .seq #[en.key, en.val] } := (sb.2 _ (Nat.ne_of_gt hlt)).trans hT
    have new : ObjOk X.prog X.w (upd H s.heap.objs.size (.tup [.ref kvs[i].2.1, kvs[i].2.2])) h2 s.heap.objs.size (.tup [.ref kvs[i].2.1, kvs[i].2.2]) :=
      ⟨(by show 2 ≤ sizeLine; decide), [en.key, en.val], .cons ek (.cons ev .nil), ⟨_, hT2, rfl, _, rfl⟩⟩
    refine ⟨.ref s.heap.objs.size, _, I.turnedNew (t' := s.toks) (ch := [it]) (fun b o2 hb e => ?_) hf (Nat.le_refl _) new, rfl, ⟨_, _, List.getElem?_eq_getElem hi, rfl, I.fresh, rfl⟩, ⟨en.key, en.val, hit2⟩, fun b hb => ?_⟩
    · have nb : b ≠ it := fun z => hb (List.mem_singleton.mpr z)
      exact (sb.2 b nb).trans (hk b o2 nb e)
    · have z := List.mem_singleton.mp hb
      rw [z, upd_ne (Nat.ne_of_lt hlt)]
      exact (hf it (List.mem_singleton.mpr rfl)).1
  done := by
    intro X hP hw hK hc i pins s σ H E I hf st hgo
    subst hP hw hK
    obtain ⟨hd, hi⟩ := hgo
    obtain ⟨hs, hg, hx, es2, ep2, hdt, hsz, _⟩ := td_frz I hd
    obtain ⟨rfl, rfl⟩ := dict_ep hod hdt
    obtain ⟨f0, f1, f2, f3, f4, f5⟩ := hf it (List.mem_singleton.mpr rfl)
    obtain ⟨ok, ov, he⟩ := st
    exact DT.endI (I.ok.hd hc) he ⟨ob, hg, hx, hdt⟩ (by omega) fun h' eb => ⟨rfl, I.turned (t' := s.toks) (fun b o2 hb e => eb b o2 hb e) f0 f1 f3 f4 f5⟩
  self := fun A i s Q E st h => by
    obtain ⟨ok, ov, e⟩ := st
    exact PySem.W.kcp_self e h
/-- for k, v in d.items(), the whole for under a lock -/
def iPairs (P : Program) (w : World) (td : TE) : TI := fun σ H R => td σ H fun x H1 => ∃ d ob kvs, x = .ref d ∧ H1 d = some (.frz ob (TD P w d kvs)) ∧ R (ItP P w d ob kvs) H1
theorem pi_pairs {X : Cx} {e : Expr} {td : TE} {apos cpos tpos : Pos} {elts : List Expr} {kk : Nat} (he : PE X e td) (hbase : attributeBase e "items" X.env (eval e X.env) = eval e X.env := by rfl) (hline : (apos.endLine == cpos.line) = true := by rfl) :
    PI X (.Tuple elts kk tpos) (.Call (.Attribute e "items" apos) [] [] cpos) (iPairs X.prog X.w td) := by
  refine ⟨fun pins s σ H R I h => wpAny_Call_method (T := "dict") (id := "dict.items") hbase rfl hline F.plainAttrs_dict F.slot_dict_items F.type_dict_items (thn (he.run pins s σ H _ I h) fun u s1 h1 => ?_)⟩
  obtain ⟨x, H1, I1, rx, d, ob, kvs, rfl, hd, q⟩ := h1
  cases rx
  obtain ⟨hs, hg, hx, es, ep, hdt, hsz, _⟩ := td_frz I1 hd
  have raw : DT.Raw s1.heap d es ep := ⟨ob, hg, hx, hdt⟩
  refine ⟨raw.typeIs, fun b z => ?_, ?_⟩
  · cases z
    exact ⟨ob, hg, hx.2.1⟩
  · show wpAny _ _ (callWith cpos (.builtin "dict.items") [.ref d] [] []) _ X.xe s1
    have I2 : Inv X pins σ H1 { s1 with heap := s1.heap.push { cls := .type "dict_items", data := .fields #[.ref d] } } := I1.kept (t' := s1.toks) fun b o2 q => Heap.get?_push_of_some _ q
    refine method_meetsIn F.slot_dict_items F.entry_dict_items rfl (PySem.evalArgs_none ⟨rfl, raw.typeIs, F.args_dict_items_1 _, _, DT.meetsItems (es := es) (ep := ep) hs, raw, ?_⟩)
    refine DT.iterI ⟨_, Heap.get?_push_size _ rfl, rfl, rfl⟩ (raw.push _) (pi_one (tk := s1.toks) I2 _ (turn_pairs _ hdt) ⟨.none, .none, ?_⟩ q)
    exact Heap.get?_push_size _ rfl
end K89

set_option maxRecDepth 100000
set_option maxHeartbeats 2000000
/-! comprehensions of dicts with tuple keys (one clause, two) and of sets of ints -/
namespace K89
open PySem PySem.Spec PyProof.Rows L2
/-- the store of a dict comprehension -/
def putB (kx vx : Expr) (D : Addr) (env : Env) : Sem Unit := do
  let kv ← eval kx env
  let vv ← holding [kv] (eval vx env)
  standAt { kx.pos with endLine := vx.pos.endLine, endCol := vx.pos.endCol }
  holding [kv, vv] (dictSet D kv vv)
def tPut (K : PySem.W.Frag) (P : Program) (w : World) (tk tv : TE) : Addr → L2.St → Hp → (Hp → Prop) → Prop := fun D σ H Nx => tk σ H fun y H1 => tv σ H1 fun z H2 =>
  ∃ kvs k b, y = .ref b ∧ H2 D = some (TD P w D kvs) ∧ KeysAt K H2 kvs ∧ SqT K H2 b (k.map V.int) ∧ kvs.length < sizeLine ∧ Nx (upd H2 D (TD P w D (ins kvs k b z)))
theorem pb_put {X : Cx} {own : List Nat} {D : Addr} {kx vx : Expr} {tk tv : TE} (hu : X.A.units < cLine) (hk : PE X kx tk) (hv : PE X vx tv) : PB X own D (putB kx vx D) (tPut X.K X.prog X.w tk tv) := by
  refine ⟨fun pins s σ H Nx I h => wpAny_bind (thn (hk.run pins s σ H _ I h) fun kv s1 h1 => ?_)⟩
  obtain ⟨y, H1, I1, ry, q1⟩ := h1
  refine wpAny_bind (wpAny_holding (thn (hv.run pins s1 σ H1 _ I1 q1) fun vv s2 h2 => wpAny_bind (wpAny_standAt (wpAny_holding ?_))))
  obtain ⟨z, H2, I2, rz, kvs, k, b, rfl, eD, ka, kb, hz, nx⟩ := h2
  cases ry
  exact t_dictSet hu I2 eD ka kb hz rz fun s3 I3 => ⟨σ, _, I3, rfl, fun _ _ _ e => e, nx⟩
/-- the store of a set comprehension -/
def addB (elt : Expr) (D : Addr) (env : Env) : Sem Unit := do
  let v ← eval elt env
  standAt elt.pos
  let _ ← call (.builtin "set.add") [.ref D, v]
def tAdd1 (w : World) (te : TE) : Addr → L2.St → Hp → (Hp → Prop) → Prop := fun D σ H Nx => te σ H fun y H1 =>
  ∃ (k : Int) (S : Int → Bool) (n : Nat), y = .int k ∧ H1 D = some (SetO w D S n) ∧ n + 1 < scanBound ∧ Nx (upd H1 D (SetO w D (fun j => S j || decide (j = k)) (if S k = true then n else n + 1)))
theorem pb_add {X : Cx} {own : List Nat} {D : Addr} {elt : Expr} {te : TE} (he : PE X elt te) : PB X own D (addB elt D) (tAdd1 X.w te) := by
  refine ⟨fun pins s σ H Nx I h => wpAny_bind (thn (he.run pins s σ H _ I h) fun v s1 h1 => wpAny_bind (wpAny_standAt (wpAny_bind ?_)))⟩
  obtain ⟨y, H1, I1, ry, k, S, n, rfl, eD, hn, nx⟩ := h1
  refine thn (mt_sadd pins s1 σ H1 (.ref D) [.int k] (.ref D) [v] (fun _ H2 => Nx H2) I1 rfl (.cons ry .nil) ⟨D, k, S, n, rfl, rfl, eD, hn, nx⟩) fun r s2 h2 => wpAny_pure ?_
  obtain ⟨_, H2, I2, _, nx2⟩ := h2
  exact ⟨σ, H2, I2, rfl, fun _ _ _ e => e, nx2⟩
/-- a further clause -/
def innB (ce iter1 : Expr) (D : Addr) (env : Env) : Sem Unit := do
  let x ← eval iter1 env
  standAt iter1.pos
  let x ← foldedSetIterable iter1 env x
  let _ ← runOwn (.compStart ce 1 (← holding [x] (pyIter x)) (.ref D) env) env
theorem pb_inn {X : Cx} {own vs1 : List Nat} {D : Addr} {ce tg1 iter1 : Expr} {ifs1 : List Expr} {B : Env → Sem Unit} {wi1 : TI} {g1 : TG} {tt1 : TT} {tb : Addr → L2.St → Hp → (Hp → Prop) → Prop}
    (hT : TurnIs ce 1 tg1 iter1 ifs1 D B) (hD : DenIs ce 1) (hu : ∀ it env, X.A.under (.compLoop ce 1 it (.ref D) env) = X.A) (hq : ∀ it env, (Code.compLoop ce 1 it (.ref D) env).quiet = true)
    (hstart : ∀ (R : Result → Shared → Prop) (it : Value) (s : Shared), codeAny (model X.prog X.w) X.A (.compLoop ce 1 it (.ref D) X.env) R s →
      wpAny (model X.prog X.w) X.A (pyIter it) (fun it' s' => codeAny (model X.prog X.w) X.A (.compLoop ce 1 it' (.ref D) X.env) R s') (notedBy (model X.prog X.w) X.A X.env fun x s' => R (.error x) s') s → codeAny (model X.prog X.w) X.A (.compStart ce 1 it (.ref D) X.env) R s)
    (hc : X.calm = true) (hxe : X.xe = fun _ _ => False) (hs1 : ∀ x, foldedSetIterable iter1 X.env x = pure x) (hsub : ∀ i ∈ vs1, i ∈ own) (hi1 : PI X tg1 iter1 wi1) (hg1 : PG X tg1 g1) (ht1 : PTs X ifs1 tt1) (hb1 : PB X vs1 D B tb) :
    PB X own D (innB ce iter1 D) (fun D σ H Nx => wi1 σ H fun J H1 => tWalk J g1 tt1 (tb D) σ vs1 H1 Nx) := by
  refine ⟨fun pins s σ H Nx I h => ?_⟩
  unfold innB
  rw [hxe]
  have pi := hi1.run pins s σ H _ I h
  rw [hxe] at pi
  refine wpAny_bind (thn pi fun xv s1 hx => wpAny_bind (wpAny_standAt (wpAny_bind (wpAny_of_eq (hs1 xv) (wpAny_bind (wpAny_holding (thn hx fun itv s2 h2 => ?_)))))))
  obtain ⟨it, fp, tn, J, H2, rfl, I2, T, st2, f2, W, ⟨m0, w0⟩, turn⟩ := h2
  have quiet : ∀ {H' : Hp}, (∀ b ∈ fp, H' b = none) → ∀ b ∈ fp, FpOk X pins H' b := fun hn b hb => ⟨hn b hb, (f2 b hb).2⟩
  have go : codeAny (model X.prog X.w) X.A (.compLoop ce 1 (.ref it) (.ref D) X.env) (fun r s' => match r with
      | .ok _ => ∃ σ2 H3, Inv X pins σ2 H3 s' ∧ σ2.length = σ.length ∧ (∀ (j : Nat) v, j ∉ own → σ[j]? = some (some v) → σ2[j]? = some (some v)) ∧ Nx H3
      | .error _ => False) s2 := by
    refine loop_gen hT hD (hu _ _) (hq _ _) (fun n s3 => ∃ i H3, Inv X pins (wipe σ vs1) H3 s3 ∧ tn i s3.heap ∧ (∀ b ∈ fp, H3 b = none) ∧ W i n H3) ?_ m0 ⟨0, H2, I2.weak (wipe_length _ _) (fun j v e => (wipe_some e).1), st2, fun b hb => (f2 b hb).1, w0⟩
    rintro n s3 ⟨i, H3, I3, st3, n3, w3⟩
    rcases turn i n H3 w3 with ⟨stop, nx⟩ | ⟨more, N1, hN1, step⟩
    · refine thnF (T.done X rfl rfl rfl hc i pins s3 _ H3 (fun _ _ => False) I3 (quiet n3) st3 stop) fun r s4 ⟨er, I4⟩ => ?_
      subst er
      exact ⟨wipe σ vs1, H3, I4, wipe_length _ _, fun j v hj e => (wipe_out fun z => hj (hsub j z)).trans e, nx⟩
    · refine thnF (T.item X rfl rfl rfl hc i pins s3 _ H3 (fun _ _ => False) I3 (quiet n3) st3 more) fun r s4 ⟨u, er, h4⟩ => ?_
      subst er
      refine thnF h4 fun _ s5 ⟨x, H5, I5, r5, y5, st5, n5⟩ => ?_
      have pinned := I5.pinned (quiet n5) (T.obj _ _ st5)
      have pg := hg1.run _ s5 (wipe σ vs1) H5 x u _ pinned r5 (step x H5 y5)
      rw [hxe] at pg
      refine thnF pg fun _ s6 ⟨σ6, H6, I6, hw, q6⟩ => ?_
      have pt := ht1.run _ s6 σ6 H6 _ I6 q6
      rw [hxe] at pt
      refine thnF pt fun b s7 ⟨H7, I7, q7⟩ => ?_
      have len6 : σ6.length = (wipe σ vs1).length := by rw [wipe_length, ← wipe_length σ vs1, ← hw, wipe_length]
      have fin : ∀ {σ1 : L2.St} {s' : Shared} {H1 : Hp}, Inv X (pins ++ pinsAt fp s5.heap) σ1 H1 s' → σ1.length = σ6.length → (∀ (j : Nat) v, j ∉ vs1 → σ6[j]? = some (some v) → σ1[j]? = some (some v)) → N1 H1 →
          ∃ m, m < n ∧ ∃ i H3, Inv X pins (wipe σ vs1) H3 s' ∧ tn i s'.heap ∧ (∀ b ∈ fp, H3 b = none) ∧ W i m H3 := by
        intro σ1 s' H1 J1 hl hk nx
        obtain ⟨m', hm, w'⟩ := hN1 H1 nx
        have kept : ∀ b ∈ fp, ∀ o, s5.heap.get? b = some o → s'.heap.get? b = some o ∧ H1 b = none := by
          intro b hb o e
          have z := J1.pin (b, o) (List.mem_append_right _ (List.mem_append_right _ (mem_pinsAt hb e)))
          exact ⟨z.1, z.2.1⟩
        refine ⟨m', hm, i + 1, H1, J1.unpinned.weak (len6.symm.trans hl.symm) (fun j v e => ?_), T.keep _ _ _ st5 (fun b hb o e => (kept b hb o e).1), (fun b hb => ?_), w'⟩
        · rw [← hw] at e
          exact hk j v (wipe_some e).2 (wipe_some e).1
        · obtain ⟨o, e, _⟩ := T.obj _ _ st5 b hb
          exact (kept b hb o e).2
      cases b with
      | false =>
        rw [if_neg Bool.false_ne_true] at q7 ⊢
        exact fin I7 rfl (fun _ _ _ e => e) q7
      | true =>
        rw [if_pos rfl] at q7 ⊢
        have pb := hb1.run _ s7 σ6 H7 N1 I7 q7
        rw [hxe] at pb
        refine thnF pb fun _ s8 ⟨σ8, H8, I8, hl, hk, nx⟩ => ?_
        exact fin I8 hl hk nx
  refine wpAny_bind (wpAny_runOwn ?_)
  rw [Around.mark_none]
  refine codeAny_mono (hstart _ _ _ go (T.self X.A 0 _ _ _ st2 go)) fun r s' hr => ?_
  cases r with
  | ok f => exact wpAny_pure hr
  | error e => exact hr.elim
theorem turn2_dict (kx vx t0 i0 t1 i1 : Expr) (ifs0 ifs1 : List Expr) (scope : Scope) (pos : Pos) (D : Addr) :
    TurnIs (.DictComp kx vx [⟨t0, i0, ifs0, 0⟩, ⟨t1, i1, ifs1, 0⟩] scope pos) 0 t0 i0 ifs0 D (innB (.DictComp kx vx [⟨t0, i0, ifs0, 0⟩, ⟨t1, i1, ifs1, 0⟩] scope pos) i1 D) := by
  intro it env
  have e : compTurn (.DictComp kx vx [⟨t0, i0, ifs0, 0⟩, ⟨t1, i1, ifs1, 0⟩] scope pos) 0 it (.ref D) env = (do
      standAt i0.pos
      match ← pyNext it with
      | none => pure (.done .next)
      | some v =>
        letOwnedTupleGo t0 it v
        assign t0 env v
        let mut ok := true
        for c in ifs0 do
          if ok then ok ← isTrue c env (eval c env)
        if ok then
          let x ← eval i1 env
          standAt i1.pos
          let x ← foldedSetIterable i1 env x
          let _ ← runOwn (.compStart (.DictComp kx vx [⟨t0, i0, ifs0, 0⟩, ⟨t1, i1, ifs1, 0⟩] scope pos) 1 (← holding [x] (pyIter x)) (.ref D) env) env
        again (.compLoop (.DictComp kx vx [⟨t0, i0, ifs0, 0⟩, ⟨t1, i1, ifs1, 0⟩] scope pos) 0 it (.ref D) env)) := by rfl
  rw [e]
  unfold innB
  simp only [bind_assoc, pure_bind] <;> rfl
section
variable {X : Cx}
theorem start1_dict {prog : Program} {w : World} {A : Around} {R : Result → Shared → Prop} {s : Shared} {kx vx t0 i0 t1 i1 : Expr} {ifs0 ifs1 : List Expr} {scope : Scope} {pos : Pos} {it acc : Value} {env : Env}
    (h0 : codeAny (model prog w) A (.compLoop (.DictComp kx vx [⟨t0, i0, ifs0, 0⟩, ⟨t1, i1, ifs1, 0⟩] scope pos) 1 it acc env) R s)
    (h : wpAny (model prog w) A (pyIter it) (fun it' s' => codeAny (model prog w) A (.compLoop (.DictComp kx vx [⟨t0, i0, ifs0, 0⟩, ⟨t1, i1, ifs1, 0⟩] scope pos) 1 it' acc env) R s') (notedBy (model prog w) A env fun x s' => R (.error x) s') s) :
    codeAny (model prog w) A (.compStart (.DictComp kx vx [⟨t0, i0, ifs0, 0⟩, ⟨t1, i1, ifs1, 0⟩] scope pos) 1 it acc env) R s := by
  refine codeAny_of_tree ?_
  show wpAny _ _ ((compStart (.DictComp kx vx [⟨t0, i0, ifs0, 0⟩, ⟨t1, i1, ifs1, 0⟩] scope pos) 1 it acc env).onRaise (fun x => do noteFrame x env; standAt theWindowsPlace)) _ _ s
  refine wpAny_notedAt ?_
  unfold compStart
  refine wpAny_bind (m := ask) (wpAny_askSetting (wpAny_ite ?_))
  split
  · first
      | exact wpAny_bind (wpAny_pure (wpAny_pure (And.intro rfl h0)))
      | exact wpAny_pure ⟨rfl, h0⟩
  · first
      | exact wpAny_bind (wpAny_rule (wpAny_bind (wpAny_standAt (wpAny_bind (wpAny_mono h (fun it' s' z => wpAny_pure ⟨rfl, z⟩) fun _ _ z => z)))))
      | (refine wpAny_bind (wpAny_rule ?_)
         refine wpAny_bind (m := standAt i1.pos) (wpAny_standAt (wpAny_bind (wpAny_mono h (fun it' s' z => wpAny_pure ⟨rfl, z⟩) fun _ _ z => z))))
abbrev oT (X : Cx) : Addr → HO := fun D => TD X.prog X.w D []
/-- y = {k: v for tg in iter if ..}, the keys tuples of ints -/
theorem ps_setTd {i : Nat} {y : PySem.Str} {py : Pos} {kx vx tg iter : Expr} {ifs : List Expr} {scope : Scope} {own : List (PySem.Str × Nat)} {pos spos : Pos} {wi : TI} {g : TG} {tt : TT} {tk tv : TE} (hu : X.A.units < cLine) (hc : X.calm = true) (hN : X.N.Nodup) (hy : X.N[i]? = some y) (hyl : X.env.scope.names.lookup y = some .local)
    (hsw : swapsWith (.DictComp kx vx [⟨tg, iter, ifs, 0⟩] scope pos) (some (.Name y py)) spos.line X.env = pure true) (hi : PI X tg iter wi) (ok : BlkOk X.N X.env.scope scope own)
    (hg : ∀ s H C cl fp, PG (X.blk s H scope (compEnvC scope cl C X.env) fp) tg g) (ht : ∀ s H C cl fp, PTs (X.blk s H scope (compEnvC scope cl C X.env) fp) ifs tt)
    (hk : ∀ s H C cl fp, PE (X.blk s H scope (compEnvC scope cl C X.env) fp) kx tk) (hv : ∀ s H C cl fp, PE (X.blk s H scope (compEnvC scope cl C X.env) fp) vx tv) (hs : ∀ x, foldedSetIterable iter X.env x = pure x := by intro _; rfl) :
    PS X (.Assign [.Name y py] (.DictComp kx vx [⟨tg, iter, ifs, 0⟩] scope pos) spos) (tAsg (tComp (oT X) wi g tt (tPut X.K X.prog X.w tk tv) (own.map (·.2))) (gName i)) := by
  refine ⟨fun pins s σ H D I h => ?_⟩
  rw [exec_Assign_Name_used _ _ _ _ hsw]
  refine wpAny_bind (wpAny_standAt (wpAny_bind ?_))
  show wpAny _ X.A (do let _ ← comprehension (.DictComp kx vx [⟨tg, iter, ifs, 0⟩] scope pos) scope X.env (firstIterPos [⟨tg, iter, ifs, 0⟩] pos) newDict false (eval iter X.env) (some (assign (.Name y py) X.env))) _ _ s
  refine wpAny_bind (thn (comp_core (Qf := fun _ s' => SP X pins D .next s') (Q := fun x H1 => gName i x σ H1 D.nx) (o0 := oT X) (B := putB kx vx) (tb := tPut X.K X.prog X.w tk tv) (ob := { cls := .type "dict", data := .dict #[] }) rfl (fun _ _ _ => rfl) (fun _ _ _ _ _ => rfl) (fun _ _ _ _ => rfl) (fun _ _ _ => rfl)
    (fun R it acc env s a b => codeAny_compStart_dict a b) (fun s Q q => wpAny_newObj_type q) (fun H h hb => td_empty h hb) hc hN I hi ok hg ht (fun s H C cl fp D => pb_put (X := X.blk s H scope (compEnvC scope cl C X.env) fp) hu (hk s H C cl fp) (hv s H C cl fp)) hs h fun L C s' m H' I' q hn f => ?_) fun _ s' hq => wpAny_pure (wpAny_pure hq))
  show wpAny _ _ (assign (.Name y py) X.env (.ref L)) _ _ _
  refine wpAny_assign_Name (store_ok2 (v := V.ref L) I' hN hy (.inl hyl) rfl (fun s2 I2 ⟨a, sb, ha⟩ => ?_) (.inr hyl))
  obtain ⟨f0, f1, f2, f3, f4, f5⟩ := f
  have apart : C ≠ a := by
    rcases ha with z | z
    · rw [z]
      exact f1
    · exact fun e => f4 y a z e.symm
  exact ⟨m, hn.sameBut sb apart, fun h3 sb3 => ⟨_, H', I2.turned (t' := s2.toks) (fun b o hb e => (sb3.2 b hb).trans e) f0 f1 f3 f4 f5, q⟩⟩
/-- {k: v for tg in iter if .. for tg1 in iter1 if ..}, the keys tuples of ints -/
theorem pe_td2 {kx vx tg iter tg1 iter1 : Expr} {ifs ifs1 : List Expr} {scope : Scope} {own : List (PySem.Str × Nat)} {vs1 : List Nat} {pos : Pos} {wi wi1 : TI} {g g1 : TG} {tt tt1 : TT} {tk tv : TE} (hu : X.A.units < cLine) (hc : X.calm = true) (hN : X.N.Nodup) (hi : PI X tg iter wi) (ok : BlkOk X.N X.env.scope scope own) (hsub : ∀ i ∈ vs1, i ∈ own.map (·.2))
    (hg : ∀ s H C cl fp, PG (X.blk s H scope (compEnvC scope cl C X.env) fp) tg g) (ht : ∀ s H C cl fp, PTs (X.blk s H scope (compEnvC scope cl C X.env) fp) ifs tt)
    (hi1 : ∀ s H C cl fp, PI (X.blk s H scope (compEnvC scope cl C X.env) fp) tg1 iter1 wi1)
    (hg1 : ∀ s H C cl fp, PG (X.blk s H scope (compEnvC scope cl C X.env) fp) tg1 g1) (ht1 : ∀ s H C cl fp, PTs (X.blk s H scope (compEnvC scope cl C X.env) fp) ifs1 tt1)
    (hk : ∀ s H C cl fp, PE (X.blk s H scope (compEnvC scope cl C X.env) fp) kx tk) (hv : ∀ s H C cl fp, PE (X.blk s H scope (compEnvC scope cl C X.env) fp) vx tv)
    (hs : ∀ x, foldedSetIterable iter X.env x = pure x := by intro _; rfl) (hs1 : ∀ env x, foldedSetIterable iter1 env x = pure x := by intro _ _; rfl) :
    PE X (.DictComp kx vx [⟨tg, iter, ifs, 0⟩, ⟨tg1, iter1, ifs1, 0⟩] scope pos) (tComp (oT X) wi g tt (fun D σ H Nx => wi1 σ H fun J H1 => tWalk J g1 tt1 (tPut X.K X.prog X.w tk tv D) σ vs1 H1 Nx) (own.map (·.2))) := by
  refine ⟨fun pins s σ H Q I h => ?_⟩
  rw [arm_eval_DictComp]
  refine comp_core (o0 := oT X) (B := innB (.DictComp kx vx [⟨tg, iter, ifs, 0⟩, ⟨tg1, iter1, ifs1, 0⟩] scope pos) iter1) (tb := fun D σ H Nx => wi1 σ H fun J H1 => tWalk J g1 tt1 (tPut X.K X.prog X.w tk tv D) σ vs1 H1 Nx) (ob := { cls := .type "dict", data := .dict #[] }) rfl (fun D => turn2_dict _ _ _ _ _ _ _ _ _ _ D) (fun _ _ _ _ _ => rfl) (fun _ _ _ _ => rfl) (fun _ _ _ => rfl)
    (fun R it acc env s a b => codeAny_compStart_dict a b) (fun s Q q => wpAny_newObj_type q) (fun H h hb => td_empty h hb) hc hN I hi ok hg ht (fun s H C cl fp D => ?_) hs h fun D C s' m H' I' q hn f => ⟨m, hn, fun h2 sb => ?_⟩
  · exact pb_inn (X := X.blk s H scope (compEnvC scope cl C X.env) fp) (B := putB kx vx D) (fun _ _ => rfl) (fun _ _ _ _ _ => rfl) (fun _ _ => rfl) (fun _ _ => rfl) (fun R it s a b => start1_dict a b) hc rfl (hs1 _) hsub (hi1 s H C cl fp) (hg1 s H C cl fp) (ht1 s H C cl fp)
      (pb_put (X := X.blk s H scope (compEnvC scope cl C X.env) fp) hu (hk s H C cl fp) (hv s H C cl fp))
  · obtain ⟨f0, f1, f2, f3, f4, f5⟩ := f
    exact ⟨.ref D, H', I'.turned (t' := s'.toks) (fun b o hb e => (sb.2 b hb).trans e) f0 f1 f3 f4 f5, rfl, q⟩
abbrev oS (X : Cx) : Addr → HO := fun D => SetO X.w D (fun _ => false) 0
/-- {elt for tg in iter if ..}, ints -/
theorem pe_sci {elt tg iter : Expr} {ifs : List Expr} {scope : Scope} {own : List (PySem.Str × Nat)} {pos : Pos} {wi : TI} {g : TG} {tt : TT} {te : TE} (hc : X.calm = true) (hN : X.N.Nodup) (hi : PI X tg iter wi) (ok : BlkOk X.N X.env.scope scope own)
    (hg : ∀ s H C cl fp, PG (X.blk s H scope (compEnvC scope cl C X.env) fp) tg g) (ht : ∀ s H C cl fp, PTs (X.blk s H scope (compEnvC scope cl C X.env) fp) ifs tt)
    (he : ∀ s H C cl fp, PE (X.blk s H scope (compEnvC scope cl C X.env) fp) elt te) (hs : ∀ x, foldedSetIterable iter X.env x = pure x := by intro _; rfl) :
    PE X (.SetComp elt [⟨tg, iter, ifs, 0⟩] scope pos) (tComp (oS X) wi g tt (tAdd1 X.w te) (own.map (·.2))) := by
  refine ⟨fun pins s σ H Q I h => ?_⟩
  rw [PpSet.eval_SetComp]
  refine comp_core (o0 := oS X) (B := addB elt) (tb := tAdd1 X.w te) (ob := { cls := .type "set", dict := none, data := .set #[] 0 (.fresh 0 0 (!X.w.params.followText "set-order")) }) rfl (fun _ _ _ => rfl) (fun _ _ _ _ _ => rfl) (fun _ _ _ _ => rfl) (fun _ _ _ => rfl)
    (fun R it acc env s a b => PpSet.codeAny_compStart_set a b) (fun s Q q => PpSet.newSet_ok q) (fun H h hb => setO_new ?_) hc hN I hi ok hg ht (fun s H C cl fp D => pb_add (X := X.blk s H scope (compEnvC scope cl C X.env) fp) (he s H C cl fp)) hs h fun D C s' m H' I' q hn f => ⟨m, hn, fun h2 sb => ?_⟩
  · exact setR_fresh X.w
  · obtain ⟨f0, f1, f2, f3, f4, f5⟩ := f
    exact ⟨.ref D, H', I'.turned (t' := s'.toks) (fun b o hb e => (sb.2 b hb).trans e) f0 f1 f3 f4 f5, rfl, q⟩
end
end K89

set_option maxRecDepth 100000
set_option maxHeartbeats 2000000
/-! small rules: sorted of a set of any size, great powers, repr of a truth value, attributes as targets, enumerate of a tuple -/
namespace K89
open PySem PySem.Spec PyProof.Rows L2
section
variable {P : Program} {w : World} {A : Around} {E : Value → Shared → Prop} {s : Shared} {a : Addr}
theorem sorted_setA {S : Int → Bool} {n : Nat} {Q : Value → Shared → Prop} (R : SetR w s.heap a S n) (hh : A.handled = none)
    (hQ : ∀ s2 p (out : List Value) (c : Nat) (ns : List Int), (∀ b o, s.heap.get? b = some o → s2.heap.get? b = some o) → s2.gens = s.gens → s2.os = s.os → s.heap.objs.size ≤ p →
      s2.heap.get? p = some (seqObj "list" out.toArray c) → IntsAre out ns → ns.Pairwise (· < ·) → (∀ k, k ∈ ns ↔ S k = true) → ns.length = n → Q (.ref p) s2) :
    wpAny (model P w) A (call (.builtin "sorted") [.ref a]) Q E s := by
  obtain ⟨o, es, ep, t, ho, hex, hd, g, nd, hm, hb, hf, hn, hr, hl⟩ := R
  refine Calls.call_function_entry kind_sorted plain_sorted entry_sorted (args_sorted1 _) ?_
  unfold Builtin.«sorted»
  refine wpAny_bind (m := checkCount "sorted" 1 1 _) ?_
  refine wpAny_pure ?_
  refine wpAny_bind (collect_set (A := A.in1) hh ⟨o, ho, hex.1, hd⟩ hf hb hr hl fun s1 vs k1 hz g1 o1 pm => ?_)
  have hvl : vs.length = n := by
    rw [pm.length_eq, List.length_map, Array.length_toList]
    exact hn
  have big : vs.length ≤ sizeLine := by
    rw [pm.length_eq, List.length_map, Array.length_toList]
    exact fits_of_scanBound hb
  have hI : IntsAre vs (vs.map Builtin.Re.reRawOf) := by
    refine ints_of vs fun v hv => ?_
    obtain ⟨e, he, q⟩ := List.mem_map.mp (pm.mem_iff.mp hv)
    obtain ⟨k, tk, h1, _⟩ := g e he
    exact ⟨k, tk, q.symm.trans h1⟩
  have pk : (vs.map Builtin.Re.reRawOf).Perm (es.toList.map keyOf) := by
    have q := pm.map Builtin.Re.reRawOf
    rw [List.map_map] at q
    exact q
  refine wpAny_bind (wpAny_newList ?_ big)
  have hoL : (s1.heap.push (seqObj "list" vs.toArray 0)).get? s1.heap.objs.size = some (seqObj "list" vs.toArray 0) := Heap.get?_push_size _ rfl
  refine wpAny_bind (wpAny_holding (wpAny_call_entry slot_list_sort ⟨_, hoL, rfl⟩ entry_list_sort (SrtO.list_sort_ord SrtO.swo_int hoL big (fun h2 => SrtO.ints_sortable hI h2) fun out a1 a2 => ⟨_, rfl, ?_⟩) (args_list_sort _)))
  obtain ⟨b1, b2, b3⟩ := SrtO.ints_out hI a1 a2
  obtain ⟨c, hc⟩ := sortedHeap_at (vs := vs) (out := out.toArray) hoL
  have pn : (out.map SrtO.iv).Perm (es.toList.map keyOf) := b2.trans pk
  refine wpAny_pure ?_
  refine ⟨_, rfl, ?_⟩
  refine hQ { s1 with heap := sortedHeap (s1.heap.push (seqObj "list" vs.toArray 0)) s1.heap.objs.size vs out.toArray } s1.heap.objs.size out c (out.map SrtO.iv) (fun b u e => ?_) g1 o1 hz hc b1 (lt_of_le_nodup _ b3 (pn.nodup_iff.mpr nd)) (fun k => ?_) ?_
  · have q := k1 b u e
    have hlt := Heap.lt_size q
    change (sortedHeap (s1.heap.push (seqObj "list" vs.toArray 0)) s1.heap.objs.size vs out.toArray).get? b = some u
    rw [sortedHeap_old (Nat.ne_of_lt hlt) (Nat.lt_of_lt_of_le hlt (by rw [Heap.size_push]; exact Nat.le_succ _))]
    exact Heap.get?_push_of_some _ q
  · rw [pn.mem_iff, ← hm k]
  · rw [pn.length_eq, List.length_map, Array.length_toList]
    exact hn
end
section
variable {X : Cx}
/-- sorted(a set of ints) -/
def rSortedSetA (w : World) : List V → Hp → VK → Prop := fun vs H Q => ∃ (a : Addr) (S : Int → Bool) (n : Nat), vs = [V.ref a] ∧ H a = some (SetO w a S n) ∧
  ∀ (ns : List Int) (p : Addr), ns.Pairwise (· < ·) → (∀ k : Int, k ∈ ns ↔ S k = true) → H p = none → Q (.ref p) (upd H p (.lst (ns.map V.int)))
theorem cr_sortedSetA (hc : X.calm = true) : CallR X (.builtin "sorted") (rSortedSetA X.w) := by
  intro pins s σ H vs us Q I r h
  obtain ⟨a, S, n, rfl, ha, q⟩ := h
  have R := setO_get I ha
  have nl : n ≤ sizeLine := by
    obtain ⟨_, es, _, _, _, _, _, _, _, _, hb, _, hn, _⟩ := R
    rw [← hn]
    exact fits_of_scanBound hb
  rw [Vals.ref1 r]
  refine sorted_setA R (I.ok.hd hc) fun s2 p out c ns k g os hp hg hi hs hm hl => ?_
  have fr : H p = none := I.hok.fresh hp
  obtain ⟨h2, g2, d2, t2, o2⟩ := s2
  cases (show o2 = s.os from os)
  have J : Inv X pins σ (upd H p (.lst (ns.map V.int))) { s with heap := h2, gens := g2, drawn := d2, toks := t2 } :=
    I.call (ch := []) (Un.laid k hp fr) (I.hok.laid k hp ⟨by rw [List.length_map, hl]; exact nl, out, c, vals_of_ints hi, hg⟩) (by rw [show g2 = s.gens from g]; exact I.bare) (fun _ z => nomatch z)
  exact ⟨.ref p, _, J, rfl, q ns p hs hm fr⟩
/-- a ** 3 -/
theorem op_cube : OpR X (binaryOp .Pow) (rI (fun i j => j = 3 ∧ i.natAbs.log2 < 1000000) fun i _ => .int (i ^ 3)) := by
  intro pins s σ H x y v u Q I rx ry h
  obtain ⟨i, j, rfl, rfl, ⟨rfl, hz⟩, q⟩ := h
  obtain ⟨t, rfl⟩ := rx
  obtain ⟨t2, rfl⟩ := ry
  have hb : Builtin.Int.intBits i ≤ 1000000 := by
    unfold Builtin.Int.intBits
    split
    · exact Nat.zero_le _
    · exact hz
  exact pow_int (by decide) (by have e : (2 : Int) ^ 27 = 134217728 := by decide
                                rw [e]; omega) ⟨.int (i ^ 3), H, I.tok _, ⟨_, rfl⟩, q⟩
/-- repr(a truth value) -/
theorem call_repr_bl : CallR X (.builtin "repr") (fun xs H Q => ∃ b : Bool, xs = [.bl b] ∧ Q (.str (if b then "True" else "False")) H) := by
  intro pins s σ H xs us Q I r h
  obtain ⟨b, rfl, q⟩ := h
  obtain ⟨u, rfl, rb⟩ := r.one
  cases (show u = Value.bool b from rb)
  exact PySem.P.repr_of_bool ⟨.str _, H, I.tok _, ⟨_, rfl⟩, q⟩
/-- o.f as a target -/
def gFld (K : PySem.W.Frag) (to : TE) (f : PySem.Str) : TG := fun v σ H Q => to σ H fun x H1 => ∃ a C dx fs, x = .ref a ∧ H1 a = some (.ins C dx fs) ∧ Cls K C ∧ NoAttr K C f ∧ fs.length < 1000 ∧ Q σ (upd H1 a (.ins C dx (putF f v fs)))
theorem pg_fld {o : Expr} {f : PySem.Str} {pos : Pos} {to : TE} (ho : PE X o to)
    (ha : ∀ v, assign (.Attribute o f pos) X.env v = (do
      let ov ← holding [v] (eval o X.env)
      standAt pos.atName
      holding [v, ov] (setAttr ov f v)
      release [v, ov] []) := by intro _; rfl) : PG X (.Attribute o f pos) (gFld X.K to f) := by
  refine ⟨fun pins s σ H v u Q I r h => ?_⟩
  rw [ha]
  refine wpAny_bind (wpAny_holding (thn (ho.run pins s σ H _ I h) fun ov s1 h1 => wpAny_bind (wpAny_standAt (wpAny_bind (wpAny_holding ?_)))))
  obtain ⟨x, H1, I1, rx, a, C, dx, fs, rfl, ea, c, n, l, q⟩ := h1
  cases rx
  exact setattr_ok I1 ea c n l r fun s2 I2 => wpAny_release ⟨σ, _, I2, q⟩
theorem sw_trueD {kx vx : Expr} {gs : List Comprehension} {scope : Scope} {pos py : Pos} {y : PySem.Str} {l : Nat} {env : Env} (hk : env.scope.kind = .function) (hy : env.scope.names.lookup y = some .local) (hl : (py.line == pos.line) = true)
    (ha : (scope.names.any fun (n, k) => n == y && (k == .local || k == .cell)) = false) : swapsWith (.DictComp kx vx gs scope pos) (some (.Name y py)) l env = pure true := by
  have ky : env.kindOf y = some .local := hy
  have hb : env.blockKind = .function := by
    unfold Env.blockKind
    rw [hk]
    rfl
  unfold swapsWith
  simp only [hb, ky, ha, Expr.pos, hl]
  rfl
end
end K89

set_option maxRecDepth 100000
set_option maxHeartbeats 2000000
/-! enumerate of a tuple -/
namespace K89
open PySem PySem.Spec PyProof.Rows L2
theorem enum_new1 {v : Value} {o : Obj} {Hh : Heap → Prop} (B : Begins v o Hh) :
    Meets (Builtin.«enumerate.__new__» ⟨[.type "enumerate", v], []⟩) (fun _ R s => Hh s.heap ∧
      R (.ok (.ret (.ref (s.heap.push o).objs.size))) { s with heap := (s.heap.push o).push { cls := .type "enumerate", data := .fields #[.none, .bool false, .ref s.heap.objs.size, rawInt 0, .none, .none] } }) :=
  .of_wp fun prog w A R s h => by
    obtain ⟨hp, g, dr, tk, os⟩ := s
    obtain ⟨h1, h⟩ := h
    have hsub := sub_enumerate
    have begun : ∀ {A' : Around} {E : Value → Shared → Prop} {Q : Value → Shared → Prop}, Q (.ref hp.objs.size) ⟨hp.push o, g, dr, tk, os⟩ → wpAny (model prog w) A' (pyIter v) Q E ⟨hp, g, dr, tk, os⟩ :=
      fun q => B.iter prog w _ _ ⟨hp, g, dr, tk, os⟩ _ h1 q
    wp_walk using begun
    refine wpAny_stack_any fun st => wpAny_pure ?_
    split
    · rename_i c _ _ _ _ _
      cases (c == Value.type "enumerate") <;> (wp_walk using begun; exact ⟨_, rfl, h⟩)
    · wp_walk using begun
      exact ⟨_, rfl, h⟩
theorem enum_made {prog : Program} {w : World} {A : Around} {E : Value → Shared → Prop} {s : Shared} {v : Value} {o : Obj} {Hh : Heap → Prop} {Q : Value → Shared → Prop} (B : Begins v o Hh) (h1 : Hh s.heap)
    (h : ∀ h2, IsEnum h2 (s.heap.objs.size + 1) s.heap.objs.size 0 .none → h2.get? s.heap.objs.size = some o → h2.objs.size = s.heap.objs.size + 2 → (∀ b o, s.heap.get? b = some o → h2.get? b = some o) → Q (.ref (s.heap.objs.size + 1)) { s with heap := h2 }) :
    wpAny (model prog w) A (call (.type "enumerate") [v]) Q E s := by
  refine callType_new F.called_enumerate (by decide) (F.typeCall_enumerate_1 _) (F.newCall_enumerate_1 _) (fun obj => F.args_object_init_2 obj _) F.entry_enumerate_new (enum_new1 B) ⟨h1, ?_⟩
  have hz : (s.heap.push o).objs.size = s.heap.objs.size + 1 := Heap.size_push ..
  show _ ∧ _
  rw [hz]
  have e1 := Heap.get?_push_size (s.heap.push o) (o := { cls := .type "enumerate", data := .fields #[.none, .bool false, .ref s.heap.objs.size, rawInt 0, .none, .none] }) rfl
  rw [hz] at e1
  exact ⟨⟨_, e1, rfl⟩, h _ e1 (Heap.get?_push_of_some _ (Heap.get?_push_size _ B.free)) (by rw [Heap.size_push, hz]) fun b u x => Heap.get?_push_of_some _ (Heap.get?_push_of_some _ x)⟩
theorem isTuple_of {h : Heap} {a : Addr} {items : Array Value} (t : IsTup h a items) : h.IsTuple a items := t
/-- the items of the tuple at a, each with its number -/
def ItE (K : PySem.W.Frag) (a : Addr) (n : Nat) : It :=
  ⟨fun i H => ∃ (xs : List V) (x : V), SqT K H a xs ∧ xs.length = n ∧ xs[i]? = some x, fun i H v H' => ∃ T x, v = .ref T ∧ H T = none ∧ H' = upd H T (.tup [.int (i : Nat), x]) ∧ ∀ xs, SqT K H a xs → xs[i]? = some x, fun i H => i = n ∧ ∃ xs : List V, SqT K H a xs ∧ xs.length = n⟩
theorem turn_enumT {P : Program} {w : World} {K : PySem.W.Frag} {elts : List Expr} {kk : Nat} {tpos : Pos} (a e it : Addr) (n : Nat) :
    Turn P w K (.Tuple elts kk tpos) (ItE K a n) [e, it] e (fun i h => (∃ old, IsEnum h e it ((i : Nat) : Int) old) ∧ h.IsTupleIter it a i ∧ e ≠ it) where
  mem := List.mem_cons_self
  obj := fun i h st b hb => by
    obtain ⟨⟨old, he⟩, ⟨o, ho, hc, hd⟩, _⟩ := st
    rcases List.mem_cons.mp hb with z | z
    · rw [z]
      exact ⟨_, he, fun v q => nomatch q⟩
    · rw [List.mem_singleton.mp z]
      exact ⟨o, ho, fun v q => by rw [hd] at q; cases q⟩
  keep := fun i h h' st k => by
    obtain ⟨⟨old, he⟩, hi, hne⟩ := st
    exact ⟨⟨old, k e List.mem_cons_self _ he⟩, hi.at fun o q => k it (List.mem_cons_of_mem _ List.mem_cons_self) o q, hne⟩
  item := by
    intro X hP hw hK hc i pins s σ H E I hf st hg
    subst hP hw hK
    obtain ⟨⟨old, he⟩, hit, hne⟩ := st
    obtain ⟨xs, x, hq, hn, hx⟩ := hg
    obtain ⟨its, rv, p, hz⟩ := I.tuple hq
    obtain ⟨u, hu, ru⟩ := rv.get hx
    have hel : e < s.heap.objs.size := Heap.lt_size he
    have hil : it < s.heap.objs.size := by
      obtain ⟨_, q, _⟩ := hit
      exact Heap.lt_size q
    have hal : a ≠ it := by
      intro z
      subst z
      obtain ⟨o1, e1, c1, _⟩ := hit
      obtain ⟨o2, e2, c2, _⟩ := p
      rw [e1] at e2
      cases e2
      rw [c1] at c2
      exact absurd c2 (by decide)
    have hae : a ≠ e := by
      intro z
      subst z
      obtain ⟨o2, e2, c2, _⟩ := p
      have e3 : s.heap.get? a = some _ := he
      rw [e3] at e2
      cases e2
      exact absurd (show Value.type "enumerate" = Value.type "tuple" from c2) (by decide)
    have hlt : i < its.toArray.size := by
      rw [List.size_toArray]
      exact (List.getElem?_eq_some_iff.mp hu).1
    have D := Draws.tuple (prog := X.prog) (w := X.w) (A := X.A.in1) (I.ok.hd hc) it a hal its.toArray
    refine wpAny_pyNext_enum_itemD D he ⟨hit, isTuple_of p⟩ hlt hne (fun z => ?_) fun v h2 tk hv hout st2 hT hs2 hk => ?_
    · rcases List.mem_cons.mp z with z | z
      · exact hne z
      · exact hae (List.mem_singleton.mp z).symm
    have ev : v = u := by
      have q : its.toArray[i]? = some v := hv
      rw [List.getElem?_toArray, hu] at q
      exact (Option.some.inj q).symm
    subst ev
    refine ⟨_, rfl, wpAny_letOwnedTupleGo_enum (s := { s with heap := h2, toks := tk + 1 }) hout fun h3 he3 sb => ?_⟩
    have hT3 := (sb.2 s.heap.objs.size (Nat.ne_of_gt hel)).trans hT
    have new : ObjOk X.prog X.w (upd H s.heap.objs.size (.tup [.int (i : Nat), x])) h3 s.heap.objs.size (.tup [.int (i : Nat), x]) :=
      ⟨(by show 2 ≤ sizeLine; decide), [.int i tk, v], .cons ⟨_, rfl⟩ (.cons ru .nil), ⟨_, hT3, rfl, _, rfl⟩⟩
    have same : ∀ b ob, b ∉ [e, it] → s.heap.get? b = some ob → h3.get? b = some ob := by
      intro b ob hb q
      have n1 : b ≠ e := fun z => hb (by rw [z]; exact List.mem_cons_self)
      have n2 : b ≠ it := fun z => hb (by rw [z]; exact List.mem_cons_of_mem _ List.mem_cons_self)
      exact (sb.2 b n1).trans (hk b ob n1 n2 q)
    refine ⟨.ref s.heap.objs.size, _, I.turnedNew (t' := tk + 1) (ch := [e, it]) same hf (Nat.le_refl _) new, rfl, ⟨_, x, rfl, I.fresh, rfl, fun ys hy => by rw [I.tuple_inj hy hq]; exact hx⟩, ⟨⟨v, ?_⟩, st2.1.at fun o q => (sb.2 it (Ne.symm hne)).trans q, hne⟩, fun b hb => ?_⟩
    · have e1 : ((i + 1 : Nat) : Int) = (i : Int) + 1 := by omega
      rw [e1]
      exact he3
    · have hb2 : b < s.heap.objs.size := by
        rcases List.mem_cons.mp hb with z | z
        · rw [z]
          exact hel
        · rw [List.mem_singleton.mp z]
          exact hil
      rw [upd_ne (Nat.ne_of_lt hb2)]
      exact (hf b hb).1
  done := by
    intro X hP hw hK hc i pins s σ H E I hf st hg
    subst hP hw hK
    obtain ⟨⟨old, he⟩, hit, hne⟩ := st
    obtain ⟨rfl, xs, hq, hn⟩ := hg
    obtain ⟨its, rv, p, hz⟩ := I.tuple hq
    have hit2 : it ∈ [e, it] := List.mem_cons_of_mem _ List.mem_cons_self
    obtain ⟨f0, f1, f2, f3, f4, f5⟩ := hf it hit2
    have hal : a ≠ it := by
      intro z
      subst z
      obtain ⟨o1, e1, c1, _⟩ := hit
      obtain ⟨o2, e2, c2, _⟩ := p
      rw [e1] at e2
      cases e2
      rw [c1] at c2
      exact absurd c2 (by decide)
    have D := Draws.tuple (prog := X.prog) (w := X.w) (A := X.A.in1) (I.ok.hd hc) it a hal its.toArray
    have sz : its.toArray.size = i := by
      rw [List.size_toArray, ← rv.length, hn]
    rw [sz] at D
    exact wpAny_pyNext_enum_endD D he ⟨hit, isTuple_of p⟩ fun h' eb => ⟨rfl, I.turned (t' := s.toks) (fun b o hb q => eb b o hb q) f0 f1 f3 f4 f5⟩
  self := fun A i s Q E st h => by
    obtain ⟨⟨_, he⟩, _⟩ := st
    exact wpAny_pyIter_enum he h
def iEnumT (K : PySem.W.Frag) (ta : TA) : TI := fun σ H R => ta σ H fun vs H1 => ∃ a xs, vs = [.ref a] ∧ SqT K H1 a xs ∧ R (ItE K a xs.length) H1
theorem pi_enumT {X : Cx} {e : Expr} {ta : TA} {p pos tpos : Pos} {elts : List Expr} {kk : Nat} (hg : Gl X "enumerate") (hm : X.mg "enumerate" = none) (ha : PA X [e] ta) (hs : starEach [e] X.env = [(false, eval e X.env)] := by rfl) :
    PI X (.Tuple elts kk tpos) (.Call (.Name "enumerate" p) [e] [] pos) (iEnumT X.K ta) := by
  refine ⟨fun pins s σ H R I h => Call_ (ld_blt I hg hm boot_enumerate (PyProof.Rows.callWith_type1 (thn (ha.run pos pins s σ H _ I h) fun us s1 h1 => ?_) hs rfl))⟩
  obtain ⟨vs, H1, I1, r1, a, xs, rfl, hq, q⟩ := h1
  obtain ⟨u, rfl, ra⟩ := r1.one
  cases ra
  obtain ⟨its, rv, p', hz⟩ := I1.tuple hq
  refine enum_made (begins_tuple a its.toArray) (isTuple_of p') fun h2 he ho hsz hk => wpAny_pyIter_enum he ?_
  have I2 : Inv X pins σ H1 { s1 with heap := h2 } := I1.kept (t' := s1.toks) hk
  refine ⟨s1.heap.objs.size + 1, [s1.heap.objs.size + 1, s1.heap.objs.size], _, _, H1, rfl, I2, turn_enumT a (s1.heap.objs.size + 1) s1.heap.objs.size xs.length, ⟨⟨.none, he⟩, ⟨_, ho, rfl, rfl⟩, Nat.succ_ne_self _⟩, fun b hb => ?_, q⟩
  have hle : s1.heap.objs.size ≤ b := by
    rcases List.mem_cons.mp hb with z | z
    · rw [z]
      exact Nat.le_succ _
    · rw [List.mem_singleton.mp z]
      exact Nat.le_refl _
  exact I1.fpOk hle (I1.hok.fresh hle)
end K89

set_option maxRecDepth 100000
set_option maxHeartbeats 2000000
/-! the text by places, what the top leaves, a def's promise in one word -/
namespace K89
open PySem PySem.Spec PyProof.Rows L2
def top (i : Nat) : Stmt := PySem.Challenge.pw_startbits_k89_whole_records_of_what_is_r.main.body.getD i (.Pass ⟨0, 0, 0, 0⟩)
abbrev s_is_integer : Stmt := top 14
abbrev s_is_at_least : Stmt := top 15
abbrev s_frame_size : Stmt := top 16
abbrev s_first_stop : Stmt := top 17
abbrev s_parity_level : Stmt := top 18
abbrev s_fits_shape : Stmt := top 19
abbrev s_shape_fault : Stmt := top 20
abbrev s_receiver_fault : Stmt := top 21
abbrev s_signal_fault : Stmt := top 22
abbrev s_require_shape : Stmt := top 23
abbrev s_require_receiver : Stmt := top 24
abbrev s_require_signal : Stmt := top 25
abbrev s_require_text : Stmt := top 26
abbrev s_require_length : Stmt := top 27
abbrev s_require_span : Stmt := top 28
abbrev s_require_any_phase : Stmt := top 29
abbrev s_last_change : Stmt := top 31
abbrev s_look_from : Stmt := top 33
abbrev s_frame_look : Stmt := top 34
abbrev s_seen_index : Stmt := top 35
abbrev s_word_of : Stmt := top 36
abbrev s_read_frame : Stmt := top 37
abbrev s_walk_to : Stmt := top 38
abbrev s_walk : Stmt := top 39
abbrev s_require_reading : Stmt := top 41
abbrev s_readings : Stmt := top 42
abbrev s_reads_as : Stmt := top 43
abbrev s_is_read_right : Stmt := top 44
abbrev s_runs_of : Stmt := top 46
abbrev s_counts_of : Stmt := top 47
abbrev s_frame_can_end : Stmt := top 48
abbrev s_inner_counts : Stmt := top 49
abbrev s_moves_from : Stmt := top 50
abbrev s_ones_from : Stmt := top 51
abbrev s_ended_number : Stmt := top 52
abbrev s_steps_from : Stmt := top 53
abbrev s_reached_states : Stmt := top 59
abbrev s_measured : Stmt := top 60
abbrev s_Record_init : Stmt := inClass (top 61) 0
abbrev s_Record_ways : Stmt := inClass (top 61) 1
abbrev s_Record_count : Stmt := inClass (top 61) 2
abbrev s_Record_measures : Stmt := inClass (top 61) 3
abbrev s_Record_steps : Stmt := inClass (top 61) 4
abbrev s_require_recorded : Stmt := top 62
abbrev s_require_record : Stmt := top 63
abbrev s_require_some : Stmt := top 64
abbrev s_is_possible : Stmt := top 65
abbrev s_count_texts : Stmt := top 66
abbrev s_nth_text : Stmt := top 67
abbrev s_text_index : Stmt := top 68
abbrev s_fewest_numbers : Stmt := top 69
abbrev s_most_numbers : Stmt := top 70
abbrev s_sure_numbers : Stmt := top 71
abbrev s_ceiling : Stmt := top 73
abbrev s_stretch : Stmt := top 74
abbrev s_length_bounds : Stmt := top 75
abbrev s_safe_lengths : Stmt := top 76
abbrev s_is_safe_span : Stmt := top 77
abbrev s_law_source : Stmt := top 79
abbrev s_law_draw : Stmt := top 80
abbrev s_law_shape : Stmt := top 81
abbrev s_law_frame : Stmt := top 82
abbrev s_law_text : Stmt := top 83
abbrev s_law_receiver : Stmt := top 84
abbrev s_law_line : Stmt := top 85
abbrev s_law_runs : Stmt := top 86
abbrev s_law_read_right : Stmt := top 87
abbrev s_law_one_text : Stmt := top 88
abbrev s_law_wider_right : Stmt := top 89
abbrev s_law : Stmt := top 90
def d_is_integer : He.DefD := ⟨("is_integer", none), "is_integer", "is_integer", defArgs s_is_integer, defBody s_is_integer, defScope s_is_integer, [], []⟩
def d_is_at_least : He.DefD := ⟨("is_at_least", none), "is_at_least", "is_at_least", defArgs s_is_at_least, defBody s_is_at_least, defScope s_is_at_least, [], []⟩
def d_frame_size : He.DefD := ⟨("frame_size", none), "frame_size", "frame_size", defArgs s_frame_size, defBody s_frame_size, defScope s_frame_size, [], []⟩
def d_first_stop : He.DefD := ⟨("first_stop", none), "first_stop", "first_stop", defArgs s_first_stop, defBody s_first_stop, defScope s_first_stop, [], []⟩
def d_parity_level : He.DefD := ⟨("parity_level", none), "parity_level", "parity_level", defArgs s_parity_level, defBody s_parity_level, defScope s_parity_level, [], []⟩
def d_fits_shape : He.DefD := ⟨("fits_shape", none), "fits_shape", "fits_shape", defArgs s_fits_shape, defBody s_fits_shape, defScope s_fits_shape, [], []⟩
def d_shape_fault : He.DefD := ⟨("shape_fault", none), "shape_fault", "shape_fault", defArgs s_shape_fault, defBody s_shape_fault, defScope s_shape_fault, [], []⟩
def d_receiver_fault : He.DefD := ⟨("receiver_fault", none), "receiver_fault", "receiver_fault", defArgs s_receiver_fault, defBody s_receiver_fault, defScope s_receiver_fault, [], []⟩
def d_signal_fault : He.DefD := ⟨("signal_fault", none), "signal_fault", "signal_fault", defArgs s_signal_fault, defBody s_signal_fault, defScope s_signal_fault, [], []⟩
def d_require_shape : He.DefD := ⟨("require_shape", none), "require_shape", "require_shape", defArgs s_require_shape, defBody s_require_shape, defScope s_require_shape, [], []⟩
def d_require_receiver : He.DefD := ⟨("require_receiver", none), "require_receiver", "require_receiver", defArgs s_require_receiver, defBody s_require_receiver, defScope s_require_receiver, [], []⟩
def d_require_signal : He.DefD := ⟨("require_signal", none), "require_signal", "require_signal", defArgs s_require_signal, defBody s_require_signal, defScope s_require_signal, [.int 800], []⟩
def d_require_text : He.DefD := ⟨("require_text", none), "require_text", "require_text", defArgs s_require_text, defBody s_require_text, defScope s_require_text, [.int 0, .int 60], []⟩
def d_require_length : He.DefD := ⟨("require_length", none), "require_length", "require_length", defArgs s_require_length, defBody s_require_length, defScope s_require_length, [], []⟩
def d_require_span : He.DefD := ⟨("require_span", none), "require_span", "require_span", defArgs s_require_span, defBody s_require_span, defScope s_require_span, [], []⟩
def d_require_any_phase : He.DefD := ⟨("require_any_phase", none), "require_any_phase", "require_any_phase", defArgs s_require_any_phase, defBody s_require_any_phase, defScope s_require_any_phase, [], []⟩
def d_last_change : He.DefD := ⟨("last_change", none), "last_change", "last_change", defArgs s_last_change, defBody s_last_change, defScope s_last_change, [], []⟩
def d_look_from : He.DefD := ⟨("look_from", none), "look_from", "look_from", defArgs s_look_from, defBody s_look_from, defScope s_look_from, [], []⟩
def d_frame_look : He.DefD := ⟨("frame_look", none), "frame_look", "frame_look", defArgs s_frame_look, defBody s_frame_look, defScope s_frame_look, [], []⟩
def d_seen_index : He.DefD := ⟨("seen_index", none), "seen_index", "seen_index", defArgs s_seen_index, defBody s_seen_index, defScope s_seen_index, [], []⟩
def d_word_of : He.DefD := ⟨("word_of", none), "word_of", "word_of", defArgs s_word_of, defBody s_word_of, defScope s_word_of, [], []⟩
def d_read_frame : He.DefD := ⟨("read_frame", none), "read_frame", "read_frame", defArgs s_read_frame, defBody s_read_frame, defScope s_read_frame, [], []⟩
def d_walk_to : He.DefD := ⟨("walk_to", none), "walk_to", "walk_to", defArgs s_walk_to, defBody s_walk_to, defScope s_walk_to, [], []⟩
def d_walk : He.DefD := ⟨("walk", none), "walk", "walk", defArgs s_walk, defBody s_walk, defScope s_walk, [], []⟩
def d_require_reading : He.DefD := ⟨("require_reading", none), "require_reading", "require_reading", defArgs s_require_reading, defBody s_require_reading, defScope s_require_reading, [], []⟩
def d_readings : He.DefD := ⟨("readings", none), "readings", "readings", defArgs s_readings, defBody s_readings, defScope s_readings, [], []⟩
def d_reads_as : He.DefD := ⟨("reads_as", none), "reads_as", "reads_as", defArgs s_reads_as, defBody s_reads_as, defScope s_reads_as, [], []⟩
def d_is_read_right : He.DefD := ⟨("is_read_right", none), "is_read_right", "is_read_right", defArgs s_is_read_right, defBody s_is_read_right, defScope s_is_read_right, [], []⟩
def d_runs_of : He.DefD := ⟨("runs_of", none), "runs_of", "runs_of", defArgs s_runs_of, defBody s_runs_of, defScope s_runs_of, [], []⟩
def d_counts_of : He.DefD := ⟨("counts_of", none), "counts_of", "counts_of", defArgs s_counts_of, defBody s_counts_of, defScope s_counts_of, [], []⟩
def d_frame_can_end : He.DefD := ⟨("frame_can_end", none), "frame_can_end", "frame_can_end", defArgs s_frame_can_end, defBody s_frame_can_end, defScope s_frame_can_end, [], []⟩
def d_inner_counts : He.DefD := ⟨("inner_counts", none), "inner_counts", "inner_counts", defArgs s_inner_counts, defBody s_inner_counts, defScope s_inner_counts, [], []⟩
def d_moves_from : He.DefD := ⟨("moves_from", none), "moves_from", "moves_from", defArgs s_moves_from, defBody s_moves_from, defScope s_moves_from, [], []⟩
def d_ones_from : He.DefD := ⟨("ones_from", none), "ones_from", "ones_from", defArgs s_ones_from, defBody s_ones_from, defScope s_ones_from, [], []⟩
def d_ended_number : He.DefD := ⟨("ended_number", none), "ended_number", "ended_number", defArgs s_ended_number, defBody s_ended_number, defScope s_ended_number, [], []⟩
def d_steps_from : He.DefD := ⟨("steps_from", none), "steps_from", "steps_from", defArgs s_steps_from, defBody s_steps_from, defScope s_steps_from, [], []⟩
def d_reached_states : He.DefD := ⟨("reached_states", none), "reached_states", "reached_states", defArgs s_reached_states, defBody s_reached_states, defScope s_reached_states, [], []⟩
def d_measured : He.DefD := ⟨("measured", none), "measured", "measured", defArgs s_measured, defBody s_measured, defScope s_measured, [], []⟩
def d_Record_init : He.DefD := ⟨("Record", some "__init__"), "__init__", "Record.__init__", defArgs s_Record_init, defBody s_Record_init, defScope s_Record_init, [], []⟩
def d_Record_ways : He.DefD := ⟨("Record", some "ways"), "ways", "Record.ways", defArgs s_Record_ways, defBody s_Record_ways, defScope s_Record_ways, [], []⟩
def d_Record_count : He.DefD := ⟨("Record", some "count"), "count", "Record.count", defArgs s_Record_count, defBody s_Record_count, defScope s_Record_count, [], []⟩
def d_Record_measures : He.DefD := ⟨("Record", some "measures"), "measures", "Record.measures", defArgs s_Record_measures, defBody s_Record_measures, defScope s_Record_measures, [], []⟩
def d_Record_steps : He.DefD := ⟨("Record", some "steps"), "steps", "Record.steps", defArgs s_Record_steps, defBody s_Record_steps, defScope s_Record_steps, [], []⟩
def d_require_recorded : He.DefD := ⟨("require_recorded", none), "require_recorded", "require_recorded", defArgs s_require_recorded, defBody s_require_recorded, defScope s_require_recorded, [], []⟩
def d_require_record : He.DefD := ⟨("require_record", none), "require_record", "require_record", defArgs s_require_record, defBody s_require_record, defScope s_require_record, [], []⟩
def d_require_some : He.DefD := ⟨("require_some", none), "require_some", "require_some", defArgs s_require_some, defBody s_require_some, defScope s_require_some, [], []⟩
def d_is_possible : He.DefD := ⟨("is_possible", none), "is_possible", "is_possible", defArgs s_is_possible, defBody s_is_possible, defScope s_is_possible, [], []⟩
def d_count_texts : He.DefD := ⟨("count_texts", none), "count_texts", "count_texts", defArgs s_count_texts, defBody s_count_texts, defScope s_count_texts, [], []⟩
def d_nth_text : He.DefD := ⟨("nth_text", none), "nth_text", "nth_text", defArgs s_nth_text, defBody s_nth_text, defScope s_nth_text, [], []⟩
def d_text_index : He.DefD := ⟨("text_index", none), "text_index", "text_index", defArgs s_text_index, defBody s_text_index, defScope s_text_index, [], []⟩
def d_fewest_numbers : He.DefD := ⟨("fewest_numbers", none), "fewest_numbers", "fewest_numbers", defArgs s_fewest_numbers, defBody s_fewest_numbers, defScope s_fewest_numbers, [], []⟩
def d_most_numbers : He.DefD := ⟨("most_numbers", none), "most_numbers", "most_numbers", defArgs s_most_numbers, defBody s_most_numbers, defScope s_most_numbers, [], []⟩
def d_sure_numbers : He.DefD := ⟨("sure_numbers", none), "sure_numbers", "sure_numbers", defArgs s_sure_numbers, defBody s_sure_numbers, defScope s_sure_numbers, [], []⟩
def d_ceiling : He.DefD := ⟨("ceiling", none), "ceiling", "ceiling", defArgs s_ceiling, defBody s_ceiling, defScope s_ceiling, [], []⟩
def d_stretch : He.DefD := ⟨("stretch", none), "stretch", "stretch", defArgs s_stretch, defBody s_stretch, defScope s_stretch, [], []⟩
def d_length_bounds : He.DefD := ⟨("length_bounds", none), "length_bounds", "length_bounds", defArgs s_length_bounds, defBody s_length_bounds, defScope s_length_bounds, [], []⟩
def d_safe_lengths : He.DefD := ⟨("safe_lengths", none), "safe_lengths", "safe_lengths", defArgs s_safe_lengths, defBody s_safe_lengths, defScope s_safe_lengths, [], []⟩
def d_is_safe_span : He.DefD := ⟨("is_safe_span", none), "is_safe_span", "is_safe_span", defArgs s_is_safe_span, defBody s_is_safe_span, defScope s_is_safe_span, [], []⟩
def d_law_source : He.DefD := ⟨("_law_source", none), "_law_source", "_law_source", defArgs s_law_source, defBody s_law_source, defScope s_law_source, [], []⟩
def d_law_draw : He.DefD := ⟨("_law_draw", none), "_law_draw", "_law_draw", defArgs s_law_draw, defBody s_law_draw, defScope s_law_draw, [], []⟩
def d_law_shape : He.DefD := ⟨("_law_shape", none), "_law_shape", "_law_shape", defArgs s_law_shape, defBody s_law_shape, defScope s_law_shape, [], []⟩
def d_law_frame : He.DefD := ⟨("_law_frame", none), "_law_frame", "_law_frame", defArgs s_law_frame, defBody s_law_frame, defScope s_law_frame, [], []⟩
def d_law_text : He.DefD := ⟨("_law_text", none), "_law_text", "_law_text", defArgs s_law_text, defBody s_law_text, defScope s_law_text, [], []⟩
def d_law_receiver : He.DefD := ⟨("_law_receiver", none), "_law_receiver", "_law_receiver", defArgs s_law_receiver, defBody s_law_receiver, defScope s_law_receiver, [], []⟩
def d_law_line : He.DefD := ⟨("_law_line", none), "_law_line", "_law_line", defArgs s_law_line, defBody s_law_line, defScope s_law_line, [], []⟩
def d_law_runs : He.DefD := ⟨("_law_runs", none), "_law_runs", "_law_runs", defArgs s_law_runs, defBody s_law_runs, defScope s_law_runs, [], []⟩
def d_law_read_right : He.DefD := ⟨("_law_read_right", none), "_law_read_right", "_law_read_right", defArgs s_law_read_right, defBody s_law_read_right, defScope s_law_read_right, [], []⟩
def d_law_one_text : He.DefD := ⟨("_law_one_text", none), "_law_one_text", "_law_one_text", defArgs s_law_one_text, defBody s_law_one_text, defScope s_law_one_text, [], []⟩
def d_law_wider_right : He.DefD := ⟨("_law_wider_right", none), "_law_wider_right", "_law_wider_right", defArgs s_law_wider_right, defBody s_law_wider_right, defScope s_law_wider_right, [], []⟩
def d_law : He.DefD := ⟨("law", none), "law", "law", defArgs s_law, defBody s_law, defScope s_law, [], []⟩
def fn : List He.DefD := [d_is_integer, d_is_at_least, d_frame_size, d_first_stop, d_parity_level, d_fits_shape, d_shape_fault, d_receiver_fault, d_signal_fault, d_require_shape, d_require_receiver, d_require_signal, d_require_text, d_require_length, d_require_span, d_require_any_phase, d_last_change, d_look_from, d_frame_look, d_seen_index, d_word_of, d_read_frame, d_walk_to, d_walk, d_require_reading, d_readings, d_reads_as, d_is_read_right, d_runs_of, d_counts_of, d_frame_can_end, d_inner_counts, d_moves_from, d_ones_from, d_ended_number, d_steps_from, d_reached_states, d_measured, d_Record_init, d_Record_ways, d_Record_count, d_Record_measures, d_Record_steps, d_require_recorded, d_require_record, d_require_some, d_is_possible, d_count_texts, d_nth_text, d_text_index, d_fewest_numbers, d_most_numbers, d_sure_numbers, d_ceiling, d_stretch, d_length_bounds, d_safe_lengths, d_is_safe_span, d_law_source, d_law_draw, d_law_shape, d_law_frame, d_law_text, d_law_receiver, d_law_line, d_law_runs, d_law_read_right, d_law_one_text, d_law_wider_right, d_law]
def fa : List He.Fa := [.glo "is_integer", .glo "is_at_least", .glo "frame_size", .glo "first_stop", .glo "parity_level", .glo "fits_shape", .glo "shape_fault", .glo "receiver_fault", .glo "signal_fault", .glo "require_shape", .glo "require_receiver", .glo "require_signal", .glo "require_text", .glo "require_length", .glo "require_span", .glo "require_any_phase", .glo "last_change", .glo "look_from", .glo "frame_look", .glo "seen_index", .glo "word_of", .glo "read_frame", .glo "walk_to", .glo "walk", .glo "require_reading", .glo "readings", .glo "reads_as", .glo "is_read_right", .glo "runs_of", .glo "counts_of", .glo "frame_can_end", .glo "inner_counts", .glo "moves_from", .glo "ones_from", .glo "ended_number", .glo "steps_from", .glo "reached_states", .glo "measured", .glo "require_recorded", .glo "require_record", .glo "require_some", .glo "is_possible", .glo "count_texts", .glo "nth_text", .glo "text_index", .glo "fewest_numbers", .glo "most_numbers", .glo "sure_numbers", .glo "ceiling", .glo "stretch", .glo "length_bounds", .glo "safe_lengths", .glo "is_safe_span", .glo "_law_source", .glo "_law_draw", .glo "_law_shape", .glo "_law_frame", .glo "_law_text", .glo "_law_receiver", .glo "_law_line", .glo "_law_runs", .glo "_law_read_right", .glo "_law_one_text", .glo "_law_wider_right", .glo "law", .free "int", .free "len", .free "isinstance", .free "str", .free "tuple", .free "list", .free "bool", .free "range", .free "enumerate", .free "sum", .free "min", .free "max", .free "sorted", .free "zip", .free "abs", .free "repr", .int "MOST_LEVELS" 800, .int "MOST_NUMBERS" 60, .int "MOST_CHANGES" 200, .int "MOST_INDEXED" 100, .glo "PARITIES", .glo "AHEAD", .glo "NOTHING", .glo "Record", .cls "Record", .mkr "Record", .meth "Record" "ways", .meth "Record" "count", .meth "Record" "measures", .meth "Record" "steps", .noat "Record" "kept_shape", .noat "Record" "kept_span", .noat "Record" "kept_runs", .noat "Record" "kept_rows"]
abbrev R : PySem.W.OpenRow := PySem.W.OpenLaw.row PySem.Challenge.rw_startbits_k89_whole_records_of_what_is_r
def names0 : List PySem.Str := ["LineError", "InvalidNumber", "InvalidPhase", "InvalidLength", "Impossible", "InvalidShape", "InvalidReceiver", "InvalidSignal", "InvalidText", "PARITIES", "MOST_LEVELS", "MOST_NUMBERS", "is_integer", "is_at_least", "frame_size", "first_stop", "parity_level", "fits_shape", "shape_fault", "receiver_fault", "signal_fault", "require_shape", "require_receiver", "require_signal", "require_text", "require_length", "require_span", "require_any_phase", "last_change", "look_from"]
def names1 : List PySem.Str := ["frame_look", "seen_index", "word_of", "read_frame", "walk_to", "walk", "require_reading", "readings", "reads_as", "is_read_right", "runs_of", "counts_of", "frame_can_end", "inner_counts", "moves_from", "ones_from", "ended_number", "steps_from", "MOST_CHANGES", "MOST_INDEXED", "AHEAD", "NOTHING", "reached_states", "measured", "Record", "require_recorded", "require_record", "require_some", "is_possible", "count_texts"]
def names2 : List PySem.Str := ["nth_text", "text_index", "fewest_numbers", "most_numbers", "sure_numbers", "ceiling", "stretch", "length_bounds", "safe_lengths", "is_safe_span", "_law_source", "_law_draw", "_law_shape", "_law_frame", "_law_text", "_law_receiver", "_law_line", "_law_runs", "_law_read_right", "_law_one_text", "_law_wider_right"]
def names : List PySem.Str := names0 ++ names1 ++ names2
end K89

namespace K89
open PySem PySem.Spec PyProof.Rows L2
/-- the module's tuples -/
def tabs : List (PySem.Str × List He.Dv) := [("PARITIES", [.str "none", .str "even", .str "odd"]), ("AHEAD", [.int 0, .int 0]), ("NOTHING", [.int 0, .int 0, .int 0])]
abbrev AlX : Type := He.AlD × Bool
def obsX (K : PySem.W.Frag) : AlX := (He.obsD fa fn K, tabs.all fun t => He.tupB K t.1 t.2)
def SaysX (K : PySem.W.Frag) : Prop := obsX K = (He.valD fn, true)
theorem SaysX.d {K : PySem.W.Frag} (c : SaysX K) : He.SaysD fa fn K := congrArg (fun z : AlX => z.1) c
theorem SaysX.t {K : PySem.W.Frag} (c : SaysX K) (i : Nat) {t : PySem.Str × List He.Dv} (h : tabs[i]? = some t := by rfl) : He.tupB K t.1 t.2 = true :=
  List.all_eq_true.mp (show (tabs.all fun t => He.tupB K t.1 t.2) = true from congrArg (fun z : AlX => z.2) c) t (List.mem_of_getElem? h)
/-- what every def's proof leans on -/
structure Tx (K : PySem.W.Frag) (mg : PySem.Str → Option Value) : Prop where
  says : SaysX K
  at_ : ∃ h : Heap, K.In h ∧ h.Ns mainGlobals mg
abbrev ga := He.ga
abbrev ma := He.ma
section
variable {K : PySem.W.Frag} {mg : PySem.Str → Option Value}
theorem Tx.g_is_integer (t : Tx K mg) : mg "is_integer" = some (.ref (ga K "is_integer")) := by
  obtain ⟨h, X, G⟩ := t.at_
  exact He.glo_ok X G (t.says.d.fact 0 (f := .glo "is_integer") rfl)
theorem Tx.g_is_at_least (t : Tx K mg) : mg "is_at_least" = some (.ref (ga K "is_at_least")) := by
  obtain ⟨h, X, G⟩ := t.at_
  exact He.glo_ok X G (t.says.d.fact 1 (f := .glo "is_at_least") rfl)
theorem Tx.g_frame_size (t : Tx K mg) : mg "frame_size" = some (.ref (ga K "frame_size")) := by
  obtain ⟨h, X, G⟩ := t.at_
  exact He.glo_ok X G (t.says.d.fact 2 (f := .glo "frame_size") rfl)
theorem Tx.g_first_stop (t : Tx K mg) : mg "first_stop" = some (.ref (ga K "first_stop")) := by
  obtain ⟨h, X, G⟩ := t.at_
  exact He.glo_ok X G (t.says.d.fact 3 (f := .glo "first_stop") rfl)
theorem Tx.g_parity_level (t : Tx K mg) : mg "parity_level" = some (.ref (ga K "parity_level")) := by
  obtain ⟨h, X, G⟩ := t.at_
  exact He.glo_ok X G (t.says.d.fact 4 (f := .glo "parity_level") rfl)
theorem Tx.g_fits_shape (t : Tx K mg) : mg "fits_shape" = some (.ref (ga K "fits_shape")) := by
  obtain ⟨h, X, G⟩ := t.at_
  exact He.glo_ok X G (t.says.d.fact 5 (f := .glo "fits_shape") rfl)
theorem Tx.g_shape_fault (t : Tx K mg) : mg "shape_fault" = some (.ref (ga K "shape_fault")) := by
  obtain ⟨h, X, G⟩ := t.at_
  exact He.glo_ok X G (t.says.d.fact 6 (f := .glo "shape_fault") rfl)
theorem Tx.g_receiver_fault (t : Tx K mg) : mg "receiver_fault" = some (.ref (ga K "receiver_fault")) := by
  obtain ⟨h, X, G⟩ := t.at_
  exact He.glo_ok X G (t.says.d.fact 7 (f := .glo "receiver_fault") rfl)
theorem Tx.g_signal_fault (t : Tx K mg) : mg "signal_fault" = some (.ref (ga K "signal_fault")) := by
  obtain ⟨h, X, G⟩ := t.at_
  exact He.glo_ok X G (t.says.d.fact 8 (f := .glo "signal_fault") rfl)
theorem Tx.g_require_shape (t : Tx K mg) : mg "require_shape" = some (.ref (ga K "require_shape")) := by
  obtain ⟨h, X, G⟩ := t.at_
  exact He.glo_ok X G (t.says.d.fact 9 (f := .glo "require_shape") rfl)
theorem Tx.g_require_receiver (t : Tx K mg) : mg "require_receiver" = some (.ref (ga K "require_receiver")) := by
  obtain ⟨h, X, G⟩ := t.at_
  exact He.glo_ok X G (t.says.d.fact 10 (f := .glo "require_receiver") rfl)
theorem Tx.g_require_signal (t : Tx K mg) : mg "require_signal" = some (.ref (ga K "require_signal")) := by
  obtain ⟨h, X, G⟩ := t.at_
  exact He.glo_ok X G (t.says.d.fact 11 (f := .glo "require_signal") rfl)
theorem Tx.g_require_text (t : Tx K mg) : mg "require_text" = some (.ref (ga K "require_text")) := by
  obtain ⟨h, X, G⟩ := t.at_
  exact He.glo_ok X G (t.says.d.fact 12 (f := .glo "require_text") rfl)
theorem Tx.g_require_length (t : Tx K mg) : mg "require_length" = some (.ref (ga K "require_length")) := by
  obtain ⟨h, X, G⟩ := t.at_
  exact He.glo_ok X G (t.says.d.fact 13 (f := .glo "require_length") rfl)
theorem Tx.g_require_span (t : Tx K mg) : mg "require_span" = some (.ref (ga K "require_span")) := by
  obtain ⟨h, X, G⟩ := t.at_
  exact He.glo_ok X G (t.says.d.fact 14 (f := .glo "require_span") rfl)
theorem Tx.g_require_any_phase (t : Tx K mg) : mg "require_any_phase" = some (.ref (ga K "require_any_phase")) := by
  obtain ⟨h, X, G⟩ := t.at_
  exact He.glo_ok X G (t.says.d.fact 15 (f := .glo "require_any_phase") rfl)
theorem Tx.g_last_change (t : Tx K mg) : mg "last_change" = some (.ref (ga K "last_change")) := by
  obtain ⟨h, X, G⟩ := t.at_
  exact He.glo_ok X G (t.says.d.fact 16 (f := .glo "last_change") rfl)
theorem Tx.g_look_from (t : Tx K mg) : mg "look_from" = some (.ref (ga K "look_from")) := by
  obtain ⟨h, X, G⟩ := t.at_
  exact He.glo_ok X G (t.says.d.fact 17 (f := .glo "look_from") rfl)
theorem Tx.g_frame_look (t : Tx K mg) : mg "frame_look" = some (.ref (ga K "frame_look")) := by
  obtain ⟨h, X, G⟩ := t.at_
  exact He.glo_ok X G (t.says.d.fact 18 (f := .glo "frame_look") rfl)
theorem Tx.g_seen_index (t : Tx K mg) : mg "seen_index" = some (.ref (ga K "seen_index")) := by
  obtain ⟨h, X, G⟩ := t.at_
  exact He.glo_ok X G (t.says.d.fact 19 (f := .glo "seen_index") rfl)
theorem Tx.g_word_of (t : Tx K mg) : mg "word_of" = some (.ref (ga K "word_of")) := by
  obtain ⟨h, X, G⟩ := t.at_
  exact He.glo_ok X G (t.says.d.fact 20 (f := .glo "word_of") rfl)
theorem Tx.g_read_frame (t : Tx K mg) : mg "read_frame" = some (.ref (ga K "read_frame")) := by
  obtain ⟨h, X, G⟩ := t.at_
  exact He.glo_ok X G (t.says.d.fact 21 (f := .glo "read_frame") rfl)
theorem Tx.g_walk_to (t : Tx K mg) : mg "walk_to" = some (.ref (ga K "walk_to")) := by
  obtain ⟨h, X, G⟩ := t.at_
  exact He.glo_ok X G (t.says.d.fact 22 (f := .glo "walk_to") rfl)
theorem Tx.g_walk (t : Tx K mg) : mg "walk" = some (.ref (ga K "walk")) := by
  obtain ⟨h, X, G⟩ := t.at_
  exact He.glo_ok X G (t.says.d.fact 23 (f := .glo "walk") rfl)
theorem Tx.g_require_reading (t : Tx K mg) : mg "require_reading" = some (.ref (ga K "require_reading")) := by
  obtain ⟨h, X, G⟩ := t.at_
  exact He.glo_ok X G (t.says.d.fact 24 (f := .glo "require_reading") rfl)
theorem Tx.g_readings (t : Tx K mg) : mg "readings" = some (.ref (ga K "readings")) := by
  obtain ⟨h, X, G⟩ := t.at_
  exact He.glo_ok X G (t.says.d.fact 25 (f := .glo "readings") rfl)
theorem Tx.g_reads_as (t : Tx K mg) : mg "reads_as" = some (.ref (ga K "reads_as")) := by
  obtain ⟨h, X, G⟩ := t.at_
  exact He.glo_ok X G (t.says.d.fact 26 (f := .glo "reads_as") rfl)
theorem Tx.g_is_read_right (t : Tx K mg) : mg "is_read_right" = some (.ref (ga K "is_read_right")) := by
  obtain ⟨h, X, G⟩ := t.at_
  exact He.glo_ok X G (t.says.d.fact 27 (f := .glo "is_read_right") rfl)
theorem Tx.g_runs_of (t : Tx K mg) : mg "runs_of" = some (.ref (ga K "runs_of")) := by
  obtain ⟨h, X, G⟩ := t.at_
  exact He.glo_ok X G (t.says.d.fact 28 (f := .glo "runs_of") rfl)
theorem Tx.g_counts_of (t : Tx K mg) : mg "counts_of" = some (.ref (ga K "counts_of")) := by
  obtain ⟨h, X, G⟩ := t.at_
  exact He.glo_ok X G (t.says.d.fact 29 (f := .glo "counts_of") rfl)
theorem Tx.g_frame_can_end (t : Tx K mg) : mg "frame_can_end" = some (.ref (ga K "frame_can_end")) := by
  obtain ⟨h, X, G⟩ := t.at_
  exact He.glo_ok X G (t.says.d.fact 30 (f := .glo "frame_can_end") rfl)
theorem Tx.g_inner_counts (t : Tx K mg) : mg "inner_counts" = some (.ref (ga K "inner_counts")) := by
  obtain ⟨h, X, G⟩ := t.at_
  exact He.glo_ok X G (t.says.d.fact 31 (f := .glo "inner_counts") rfl)
theorem Tx.g_moves_from (t : Tx K mg) : mg "moves_from" = some (.ref (ga K "moves_from")) := by
  obtain ⟨h, X, G⟩ := t.at_
  exact He.glo_ok X G (t.says.d.fact 32 (f := .glo "moves_from") rfl)
theorem Tx.g_ones_from (t : Tx K mg) : mg "ones_from" = some (.ref (ga K "ones_from")) := by
  obtain ⟨h, X, G⟩ := t.at_
  exact He.glo_ok X G (t.says.d.fact 33 (f := .glo "ones_from") rfl)
theorem Tx.g_ended_number (t : Tx K mg) : mg "ended_number" = some (.ref (ga K "ended_number")) := by
  obtain ⟨h, X, G⟩ := t.at_
  exact He.glo_ok X G (t.says.d.fact 34 (f := .glo "ended_number") rfl)
theorem Tx.g_steps_from (t : Tx K mg) : mg "steps_from" = some (.ref (ga K "steps_from")) := by
  obtain ⟨h, X, G⟩ := t.at_
  exact He.glo_ok X G (t.says.d.fact 35 (f := .glo "steps_from") rfl)
theorem Tx.g_reached_states (t : Tx K mg) : mg "reached_states" = some (.ref (ga K "reached_states")) := by
  obtain ⟨h, X, G⟩ := t.at_
  exact He.glo_ok X G (t.says.d.fact 36 (f := .glo "reached_states") rfl)
theorem Tx.g_measured (t : Tx K mg) : mg "measured" = some (.ref (ga K "measured")) := by
  obtain ⟨h, X, G⟩ := t.at_
  exact He.glo_ok X G (t.says.d.fact 37 (f := .glo "measured") rfl)
theorem Tx.g_require_recorded (t : Tx K mg) : mg "require_recorded" = some (.ref (ga K "require_recorded")) := by
  obtain ⟨h, X, G⟩ := t.at_
  exact He.glo_ok X G (t.says.d.fact 38 (f := .glo "require_recorded") rfl)
theorem Tx.g_require_record (t : Tx K mg) : mg "require_record" = some (.ref (ga K "require_record")) := by
  obtain ⟨h, X, G⟩ := t.at_
  exact He.glo_ok X G (t.says.d.fact 39 (f := .glo "require_record") rfl)
theorem Tx.g_require_some (t : Tx K mg) : mg "require_some" = some (.ref (ga K "require_some")) := by
  obtain ⟨h, X, G⟩ := t.at_
  exact He.glo_ok X G (t.says.d.fact 40 (f := .glo "require_some") rfl)
theorem Tx.g_is_possible (t : Tx K mg) : mg "is_possible" = some (.ref (ga K "is_possible")) := by
  obtain ⟨h, X, G⟩ := t.at_
  exact He.glo_ok X G (t.says.d.fact 41 (f := .glo "is_possible") rfl)
theorem Tx.g_count_texts (t : Tx K mg) : mg "count_texts" = some (.ref (ga K "count_texts")) := by
  obtain ⟨h, X, G⟩ := t.at_
  exact He.glo_ok X G (t.says.d.fact 42 (f := .glo "count_texts") rfl)
theorem Tx.g_nth_text (t : Tx K mg) : mg "nth_text" = some (.ref (ga K "nth_text")) := by
  obtain ⟨h, X, G⟩ := t.at_
  exact He.glo_ok X G (t.says.d.fact 43 (f := .glo "nth_text") rfl)
theorem Tx.g_text_index (t : Tx K mg) : mg "text_index" = some (.ref (ga K "text_index")) := by
  obtain ⟨h, X, G⟩ := t.at_
  exact He.glo_ok X G (t.says.d.fact 44 (f := .glo "text_index") rfl)
theorem Tx.g_fewest_numbers (t : Tx K mg) : mg "fewest_numbers" = some (.ref (ga K "fewest_numbers")) := by
  obtain ⟨h, X, G⟩ := t.at_
  exact He.glo_ok X G (t.says.d.fact 45 (f := .glo "fewest_numbers") rfl)
theorem Tx.g_most_numbers (t : Tx K mg) : mg "most_numbers" = some (.ref (ga K "most_numbers")) := by
  obtain ⟨h, X, G⟩ := t.at_
  exact He.glo_ok X G (t.says.d.fact 46 (f := .glo "most_numbers") rfl)
theorem Tx.g_sure_numbers (t : Tx K mg) : mg "sure_numbers" = some (.ref (ga K "sure_numbers")) := by
  obtain ⟨h, X, G⟩ := t.at_
  exact He.glo_ok X G (t.says.d.fact 47 (f := .glo "sure_numbers") rfl)
theorem Tx.g_ceiling (t : Tx K mg) : mg "ceiling" = some (.ref (ga K "ceiling")) := by
  obtain ⟨h, X, G⟩ := t.at_
  exact He.glo_ok X G (t.says.d.fact 48 (f := .glo "ceiling") rfl)
theorem Tx.g_stretch (t : Tx K mg) : mg "stretch" = some (.ref (ga K "stretch")) := by
  obtain ⟨h, X, G⟩ := t.at_
  exact He.glo_ok X G (t.says.d.fact 49 (f := .glo "stretch") rfl)
theorem Tx.g_length_bounds (t : Tx K mg) : mg "length_bounds" = some (.ref (ga K "length_bounds")) := by
  obtain ⟨h, X, G⟩ := t.at_
  exact He.glo_ok X G (t.says.d.fact 50 (f := .glo "length_bounds") rfl)
theorem Tx.g_safe_lengths (t : Tx K mg) : mg "safe_lengths" = some (.ref (ga K "safe_lengths")) := by
  obtain ⟨h, X, G⟩ := t.at_
  exact He.glo_ok X G (t.says.d.fact 51 (f := .glo "safe_lengths") rfl)
theorem Tx.g_is_safe_span (t : Tx K mg) : mg "is_safe_span" = some (.ref (ga K "is_safe_span")) := by
  obtain ⟨h, X, G⟩ := t.at_
  exact He.glo_ok X G (t.says.d.fact 52 (f := .glo "is_safe_span") rfl)
theorem Tx.g_law_source (t : Tx K mg) : mg "_law_source" = some (.ref (ga K "_law_source")) := by
  obtain ⟨h, X, G⟩ := t.at_
  exact He.glo_ok X G (t.says.d.fact 53 (f := .glo "_law_source") rfl)
theorem Tx.g_law_draw (t : Tx K mg) : mg "_law_draw" = some (.ref (ga K "_law_draw")) := by
  obtain ⟨h, X, G⟩ := t.at_
  exact He.glo_ok X G (t.says.d.fact 54 (f := .glo "_law_draw") rfl)
theorem Tx.g_law_shape (t : Tx K mg) : mg "_law_shape" = some (.ref (ga K "_law_shape")) := by
  obtain ⟨h, X, G⟩ := t.at_
  exact He.glo_ok X G (t.says.d.fact 55 (f := .glo "_law_shape") rfl)
theorem Tx.g_law_frame (t : Tx K mg) : mg "_law_frame" = some (.ref (ga K "_law_frame")) := by
  obtain ⟨h, X, G⟩ := t.at_
  exact He.glo_ok X G (t.says.d.fact 56 (f := .glo "_law_frame") rfl)
theorem Tx.g_law_text (t : Tx K mg) : mg "_law_text" = some (.ref (ga K "_law_text")) := by
  obtain ⟨h, X, G⟩ := t.at_
  exact He.glo_ok X G (t.says.d.fact 57 (f := .glo "_law_text") rfl)
theorem Tx.g_law_receiver (t : Tx K mg) : mg "_law_receiver" = some (.ref (ga K "_law_receiver")) := by
  obtain ⟨h, X, G⟩ := t.at_
  exact He.glo_ok X G (t.says.d.fact 58 (f := .glo "_law_receiver") rfl)
theorem Tx.g_law_line (t : Tx K mg) : mg "_law_line" = some (.ref (ga K "_law_line")) := by
  obtain ⟨h, X, G⟩ := t.at_
  exact He.glo_ok X G (t.says.d.fact 59 (f := .glo "_law_line") rfl)
theorem Tx.g_law_runs (t : Tx K mg) : mg "_law_runs" = some (.ref (ga K "_law_runs")) := by
  obtain ⟨h, X, G⟩ := t.at_
  exact He.glo_ok X G (t.says.d.fact 60 (f := .glo "_law_runs") rfl)
theorem Tx.g_law_read_right (t : Tx K mg) : mg "_law_read_right" = some (.ref (ga K "_law_read_right")) := by
  obtain ⟨h, X, G⟩ := t.at_
  exact He.glo_ok X G (t.says.d.fact 61 (f := .glo "_law_read_right") rfl)
theorem Tx.g_law_one_text (t : Tx K mg) : mg "_law_one_text" = some (.ref (ga K "_law_one_text")) := by
  obtain ⟨h, X, G⟩ := t.at_
  exact He.glo_ok X G (t.says.d.fact 62 (f := .glo "_law_one_text") rfl)
theorem Tx.g_law_wider_right (t : Tx K mg) : mg "_law_wider_right" = some (.ref (ga K "_law_wider_right")) := by
  obtain ⟨h, X, G⟩ := t.at_
  exact He.glo_ok X G (t.says.d.fact 63 (f := .glo "_law_wider_right") rfl)
theorem Tx.g_law (t : Tx K mg) : mg "law" = some (.ref (ga K "law")) := by
  obtain ⟨h, X, G⟩ := t.at_
  exact He.glo_ok X G (t.says.d.fact 64 (f := .glo "law") rfl)
theorem Tx.n_int (t : Tx K mg) : mg "int" = none := by
  obtain ⟨h, X, G⟩ := t.at_
  exact He.free_ok X G (t.says.d.fact 65 (f := .free "int") rfl)
theorem Tx.n_len (t : Tx K mg) : mg "len" = none := by
  obtain ⟨h, X, G⟩ := t.at_
  exact He.free_ok X G (t.says.d.fact 66 (f := .free "len") rfl)
theorem Tx.n_isinstance (t : Tx K mg) : mg "isinstance" = none := by
  obtain ⟨h, X, G⟩ := t.at_
  exact He.free_ok X G (t.says.d.fact 67 (f := .free "isinstance") rfl)
theorem Tx.n_str (t : Tx K mg) : mg "str" = none := by
  obtain ⟨h, X, G⟩ := t.at_
  exact He.free_ok X G (t.says.d.fact 68 (f := .free "str") rfl)
theorem Tx.n_tuple (t : Tx K mg) : mg "tuple" = none := by
  obtain ⟨h, X, G⟩ := t.at_
  exact He.free_ok X G (t.says.d.fact 69 (f := .free "tuple") rfl)
theorem Tx.n_list (t : Tx K mg) : mg "list" = none := by
  obtain ⟨h, X, G⟩ := t.at_
  exact He.free_ok X G (t.says.d.fact 70 (f := .free "list") rfl)
theorem Tx.n_bool (t : Tx K mg) : mg "bool" = none := by
  obtain ⟨h, X, G⟩ := t.at_
  exact He.free_ok X G (t.says.d.fact 71 (f := .free "bool") rfl)
theorem Tx.n_range (t : Tx K mg) : mg "range" = none := by
  obtain ⟨h, X, G⟩ := t.at_
  exact He.free_ok X G (t.says.d.fact 72 (f := .free "range") rfl)
theorem Tx.n_enumerate (t : Tx K mg) : mg "enumerate" = none := by
  obtain ⟨h, X, G⟩ := t.at_
  exact He.free_ok X G (t.says.d.fact 73 (f := .free "enumerate") rfl)
theorem Tx.n_sum (t : Tx K mg) : mg "sum" = none := by
  obtain ⟨h, X, G⟩ := t.at_
  exact He.free_ok X G (t.says.d.fact 74 (f := .free "sum") rfl)
theorem Tx.n_min (t : Tx K mg) : mg "min" = none := by
  obtain ⟨h, X, G⟩ := t.at_
  exact He.free_ok X G (t.says.d.fact 75 (f := .free "min") rfl)
theorem Tx.n_max (t : Tx K mg) : mg "max" = none := by
  obtain ⟨h, X, G⟩ := t.at_
  exact He.free_ok X G (t.says.d.fact 76 (f := .free "max") rfl)
theorem Tx.n_sorted (t : Tx K mg) : mg "sorted" = none := by
  obtain ⟨h, X, G⟩ := t.at_
  exact He.free_ok X G (t.says.d.fact 77 (f := .free "sorted") rfl)
theorem Tx.n_zip (t : Tx K mg) : mg "zip" = none := by
  obtain ⟨h, X, G⟩ := t.at_
  exact He.free_ok X G (t.says.d.fact 78 (f := .free "zip") rfl)
theorem Tx.n_abs (t : Tx K mg) : mg "abs" = none := by
  obtain ⟨h, X, G⟩ := t.at_
  exact He.free_ok X G (t.says.d.fact 79 (f := .free "abs") rfl)
theorem Tx.n_repr (t : Tx K mg) : mg "repr" = none := by
  obtain ⟨h, X, G⟩ := t.at_
  exact He.free_ok X G (t.says.d.fact 80 (f := .free "repr") rfl)
theorem Tx.i_MOST_LEVELS (t : Tx K mg) : ∃ u, mg "MOST_LEVELS" = some u ∧ RelV (.int 800) u := by
  obtain ⟨h, X, G⟩ := t.at_
  obtain ⟨tk, e⟩ := He.int_ok X G (t.says.d.fact 81 (f := .int "MOST_LEVELS" 800) rfl)
  exact ⟨_, e, tk, rfl⟩
theorem Tx.i_MOST_NUMBERS (t : Tx K mg) : ∃ u, mg "MOST_NUMBERS" = some u ∧ RelV (.int 60) u := by
  obtain ⟨h, X, G⟩ := t.at_
  obtain ⟨tk, e⟩ := He.int_ok X G (t.says.d.fact 82 (f := .int "MOST_NUMBERS" 60) rfl)
  exact ⟨_, e, tk, rfl⟩
theorem Tx.i_MOST_CHANGES (t : Tx K mg) : ∃ u, mg "MOST_CHANGES" = some u ∧ RelV (.int 200) u := by
  obtain ⟨h, X, G⟩ := t.at_
  obtain ⟨tk, e⟩ := He.int_ok X G (t.says.d.fact 83 (f := .int "MOST_CHANGES" 200) rfl)
  exact ⟨_, e, tk, rfl⟩
theorem Tx.i_MOST_INDEXED (t : Tx K mg) : ∃ u, mg "MOST_INDEXED" = some u ∧ RelV (.int 100) u := by
  obtain ⟨h, X, G⟩ := t.at_
  obtain ⟨tk, e⟩ := He.int_ok X G (t.says.d.fact 84 (f := .int "MOST_INDEXED" 100) rfl)
  exact ⟨_, e, tk, rfl⟩
theorem Tx.g_PARITIES (t : Tx K mg) : mg "PARITIES" = some (.ref (ga K "PARITIES")) := by
  obtain ⟨h, X, G⟩ := t.at_
  exact He.glo_ok X G (t.says.d.fact 85 (f := .glo "PARITIES") rfl)
theorem Tx.g_AHEAD (t : Tx K mg) : mg "AHEAD" = some (.ref (ga K "AHEAD")) := by
  obtain ⟨h, X, G⟩ := t.at_
  exact He.glo_ok X G (t.says.d.fact 86 (f := .glo "AHEAD") rfl)
theorem Tx.g_NOTHING (t : Tx K mg) : mg "NOTHING" = some (.ref (ga K "NOTHING")) := by
  obtain ⟨h, X, G⟩ := t.at_
  exact He.glo_ok X G (t.says.d.fact 87 (f := .glo "NOTHING") rfl)
theorem Tx.g_Record (t : Tx K mg) : mg "Record" = some (.ref (ga K "Record")) := by
  obtain ⟨h, X, G⟩ := t.at_
  exact He.glo_ok X G (t.says.d.fact 88 (f := .glo "Record") rfl)
theorem Tx.cl (t : Tx K mg) : Cls K (ga K "Record") := He.cls_ok (t.says.d.fact 89 (f := .cls "Record") rfl)
theorem Tx.mkR (t : Tx K mg) : Mk K (ga K "Record") (ma K (ga K "Record") "__init__") := He.mkr_ok (t.says.d.fact 90 (f := .mkr "Record") rfl)
theorem Tx.m_ways (t : Tx K mg) : Meth K (ga K "Record") "ways" (ma K (ga K "Record") "ways") := He.meth_ok (t.says.d.fact 91 (f := .meth "Record" "ways") rfl)
theorem Tx.m_count (t : Tx K mg) : Meth K (ga K "Record") "count" (ma K (ga K "Record") "count") := He.meth_ok (t.says.d.fact 92 (f := .meth "Record" "count") rfl)
theorem Tx.m_measures (t : Tx K mg) : Meth K (ga K "Record") "measures" (ma K (ga K "Record") "measures") := He.meth_ok (t.says.d.fact 93 (f := .meth "Record" "measures") rfl)
theorem Tx.m_steps (t : Tx K mg) : Meth K (ga K "Record") "steps" (ma K (ga K "Record") "steps") := He.meth_ok (t.says.d.fact 94 (f := .meth "Record" "steps") rfl)
theorem Tx.a_kept_shape (t : Tx K mg) : NoAttr K (ga K "Record") "kept_shape" := He.noat_ok (t.says.d.fact 95 (f := .noat "Record" "kept_shape") rfl)
theorem Tx.a_kept_span (t : Tx K mg) : NoAttr K (ga K "Record") "kept_span" := He.noat_ok (t.says.d.fact 96 (f := .noat "Record" "kept_span") rfl)
theorem Tx.a_kept_runs (t : Tx K mg) : NoAttr K (ga K "Record") "kept_runs" := He.noat_ok (t.says.d.fact 97 (f := .noat "Record" "kept_runs") rfl)
theorem Tx.a_kept_rows (t : Tx K mg) : NoAttr K (ga K "Record") "kept_rows" := He.noat_ok (t.says.d.fact 98 (f := .noat "Record" "kept_rows") rfl)
theorem Tx.t_PARITIES (t : Tx K mg) (H : Hp) : SqT K H (ga K "PARITIES") [.str "none", .str "even", .str "odd"] := He.tupB_ok (vs := [.str "none", .str "even", .str "odd"]) (t.says.t 0 (t := ("PARITIES", [.str "none", .str "even", .str "odd"])) rfl) H
theorem Tx.t_AHEAD (t : Tx K mg) (H : Hp) : SqT K H (ga K "AHEAD") [.int 0, .int 0] := He.tupB_ok (vs := [.int 0, .int 0]) (t.says.t 1 (t := ("AHEAD", [.int 0, .int 0])) rfl) H
theorem Tx.t_NOTHING (t : Tx K mg) (H : Hp) : SqT K H (ga K "NOTHING") [.int 0, .int 0, .int 0] := He.tupB_ok (vs := [.int 0, .int 0, .int 0]) (t.says.t 2 (t := ("NOTHING", [.int 0, .int 0, .int 0])) rfl) H
theorem Tx.f_is_integer (t : Tx K mg) : ∃ fd, FunD K "is_integer" "is_integer" (defArgs s_is_integer) (defBody s_is_integer) (defScope s_is_integer) [] [] (ga K "is_integer") fd := t.says.d.def_ 0 (d := K89.d_is_integer) rfl
theorem Tx.f_is_at_least (t : Tx K mg) : ∃ fd, FunD K "is_at_least" "is_at_least" (defArgs s_is_at_least) (defBody s_is_at_least) (defScope s_is_at_least) [] [] (ga K "is_at_least") fd := t.says.d.def_ 1 (d := K89.d_is_at_least) rfl
theorem Tx.f_frame_size (t : Tx K mg) : ∃ fd, FunD K "frame_size" "frame_size" (defArgs s_frame_size) (defBody s_frame_size) (defScope s_frame_size) [] [] (ga K "frame_size") fd := t.says.d.def_ 2 (d := K89.d_frame_size) rfl
theorem Tx.f_first_stop (t : Tx K mg) : ∃ fd, FunD K "first_stop" "first_stop" (defArgs s_first_stop) (defBody s_first_stop) (defScope s_first_stop) [] [] (ga K "first_stop") fd := t.says.d.def_ 3 (d := K89.d_first_stop) rfl
theorem Tx.f_parity_level (t : Tx K mg) : ∃ fd, FunD K "parity_level" "parity_level" (defArgs s_parity_level) (defBody s_parity_level) (defScope s_parity_level) [] [] (ga K "parity_level") fd := t.says.d.def_ 4 (d := K89.d_parity_level) rfl
theorem Tx.f_fits_shape (t : Tx K mg) : ∃ fd, FunD K "fits_shape" "fits_shape" (defArgs s_fits_shape) (defBody s_fits_shape) (defScope s_fits_shape) [] [] (ga K "fits_shape") fd := t.says.d.def_ 5 (d := K89.d_fits_shape) rfl
theorem Tx.f_shape_fault (t : Tx K mg) : ∃ fd, FunD K "shape_fault" "shape_fault" (defArgs s_shape_fault) (defBody s_shape_fault) (defScope s_shape_fault) [] [] (ga K "shape_fault") fd := t.says.d.def_ 6 (d := K89.d_shape_fault) rfl
theorem Tx.f_receiver_fault (t : Tx K mg) : ∃ fd, FunD K "receiver_fault" "receiver_fault" (defArgs s_receiver_fault) (defBody s_receiver_fault) (defScope s_receiver_fault) [] [] (ga K "receiver_fault") fd := t.says.d.def_ 7 (d := K89.d_receiver_fault) rfl
theorem Tx.f_signal_fault (t : Tx K mg) : ∃ fd, FunD K "signal_fault" "signal_fault" (defArgs s_signal_fault) (defBody s_signal_fault) (defScope s_signal_fault) [] [] (ga K "signal_fault") fd := t.says.d.def_ 8 (d := K89.d_signal_fault) rfl
theorem Tx.f_require_shape (t : Tx K mg) : ∃ fd, FunD K "require_shape" "require_shape" (defArgs s_require_shape) (defBody s_require_shape) (defScope s_require_shape) [] [] (ga K "require_shape") fd := t.says.d.def_ 9 (d := K89.d_require_shape) rfl
theorem Tx.f_require_receiver (t : Tx K mg) : ∃ fd, FunD K "require_receiver" "require_receiver" (defArgs s_require_receiver) (defBody s_require_receiver) (defScope s_require_receiver) [] [] (ga K "require_receiver") fd := t.says.d.def_ 10 (d := K89.d_require_receiver) rfl
theorem Tx.f_require_signal (t : Tx K mg) : ∃ fd, FunD K "require_signal" "require_signal" (defArgs s_require_signal) (defBody s_require_signal) (defScope s_require_signal) [.int 800] [] (ga K "require_signal") fd := t.says.d.def_ 11 (d := K89.d_require_signal) rfl
theorem Tx.f_require_text (t : Tx K mg) : ∃ fd, FunD K "require_text" "require_text" (defArgs s_require_text) (defBody s_require_text) (defScope s_require_text) [.int 0, .int 60] [] (ga K "require_text") fd := t.says.d.def_ 12 (d := K89.d_require_text) rfl
theorem Tx.f_require_length (t : Tx K mg) : ∃ fd, FunD K "require_length" "require_length" (defArgs s_require_length) (defBody s_require_length) (defScope s_require_length) [] [] (ga K "require_length") fd := t.says.d.def_ 13 (d := K89.d_require_length) rfl
theorem Tx.f_require_span (t : Tx K mg) : ∃ fd, FunD K "require_span" "require_span" (defArgs s_require_span) (defBody s_require_span) (defScope s_require_span) [] [] (ga K "require_span") fd := t.says.d.def_ 14 (d := K89.d_require_span) rfl
theorem Tx.f_require_any_phase (t : Tx K mg) : ∃ fd, FunD K "require_any_phase" "require_any_phase" (defArgs s_require_any_phase) (defBody s_require_any_phase) (defScope s_require_any_phase) [] [] (ga K "require_any_phase") fd := t.says.d.def_ 15 (d := K89.d_require_any_phase) rfl
theorem Tx.f_last_change (t : Tx K mg) : ∃ fd, FunD K "last_change" "last_change" (defArgs s_last_change) (defBody s_last_change) (defScope s_last_change) [] [] (ga K "last_change") fd := t.says.d.def_ 16 (d := K89.d_last_change) rfl
theorem Tx.f_look_from (t : Tx K mg) : ∃ fd, FunD K "look_from" "look_from" (defArgs s_look_from) (defBody s_look_from) (defScope s_look_from) [] [] (ga K "look_from") fd := t.says.d.def_ 17 (d := K89.d_look_from) rfl
theorem Tx.f_frame_look (t : Tx K mg) : ∃ fd, FunD K "frame_look" "frame_look" (defArgs s_frame_look) (defBody s_frame_look) (defScope s_frame_look) [] [] (ga K "frame_look") fd := t.says.d.def_ 18 (d := K89.d_frame_look) rfl
theorem Tx.f_seen_index (t : Tx K mg) : ∃ fd, FunD K "seen_index" "seen_index" (defArgs s_seen_index) (defBody s_seen_index) (defScope s_seen_index) [] [] (ga K "seen_index") fd := t.says.d.def_ 19 (d := K89.d_seen_index) rfl
theorem Tx.f_word_of (t : Tx K mg) : ∃ fd, FunD K "word_of" "word_of" (defArgs s_word_of) (defBody s_word_of) (defScope s_word_of) [] [] (ga K "word_of") fd := t.says.d.def_ 20 (d := K89.d_word_of) rfl
theorem Tx.f_read_frame (t : Tx K mg) : ∃ fd, FunD K "read_frame" "read_frame" (defArgs s_read_frame) (defBody s_read_frame) (defScope s_read_frame) [] [] (ga K "read_frame") fd := t.says.d.def_ 21 (d := K89.d_read_frame) rfl
theorem Tx.f_walk_to (t : Tx K mg) : ∃ fd, FunD K "walk_to" "walk_to" (defArgs s_walk_to) (defBody s_walk_to) (defScope s_walk_to) [] [] (ga K "walk_to") fd := t.says.d.def_ 22 (d := K89.d_walk_to) rfl
theorem Tx.f_walk (t : Tx K mg) : ∃ fd, FunD K "walk" "walk" (defArgs s_walk) (defBody s_walk) (defScope s_walk) [] [] (ga K "walk") fd := t.says.d.def_ 23 (d := K89.d_walk) rfl
theorem Tx.f_require_reading (t : Tx K mg) : ∃ fd, FunD K "require_reading" "require_reading" (defArgs s_require_reading) (defBody s_require_reading) (defScope s_require_reading) [] [] (ga K "require_reading") fd := t.says.d.def_ 24 (d := K89.d_require_reading) rfl
theorem Tx.f_readings (t : Tx K mg) : ∃ fd, FunD K "readings" "readings" (defArgs s_readings) (defBody s_readings) (defScope s_readings) [] [] (ga K "readings") fd := t.says.d.def_ 25 (d := K89.d_readings) rfl
theorem Tx.f_reads_as (t : Tx K mg) : ∃ fd, FunD K "reads_as" "reads_as" (defArgs s_reads_as) (defBody s_reads_as) (defScope s_reads_as) [] [] (ga K "reads_as") fd := t.says.d.def_ 26 (d := K89.d_reads_as) rfl
theorem Tx.f_is_read_right (t : Tx K mg) : ∃ fd, FunD K "is_read_right" "is_read_right" (defArgs s_is_read_right) (defBody s_is_read_right) (defScope s_is_read_right) [] [] (ga K "is_read_right") fd := t.says.d.def_ 27 (d := K89.d_is_read_right) rfl
theorem Tx.f_runs_of (t : Tx K mg) : ∃ fd, FunD K "runs_of" "runs_of" (defArgs s_runs_of) (defBody s_runs_of) (defScope s_runs_of) [] [] (ga K "runs_of") fd := t.says.d.def_ 28 (d := K89.d_runs_of) rfl
theorem Tx.f_counts_of (t : Tx K mg) : ∃ fd, FunD K "counts_of" "counts_of" (defArgs s_counts_of) (defBody s_counts_of) (defScope s_counts_of) [] [] (ga K "counts_of") fd := t.says.d.def_ 29 (d := K89.d_counts_of) rfl
theorem Tx.f_frame_can_end (t : Tx K mg) : ∃ fd, FunD K "frame_can_end" "frame_can_end" (defArgs s_frame_can_end) (defBody s_frame_can_end) (defScope s_frame_can_end) [] [] (ga K "frame_can_end") fd := t.says.d.def_ 30 (d := K89.d_frame_can_end) rfl
theorem Tx.f_inner_counts (t : Tx K mg) : ∃ fd, FunD K "inner_counts" "inner_counts" (defArgs s_inner_counts) (defBody s_inner_counts) (defScope s_inner_counts) [] [] (ga K "inner_counts") fd := t.says.d.def_ 31 (d := K89.d_inner_counts) rfl
theorem Tx.f_moves_from (t : Tx K mg) : ∃ fd, FunD K "moves_from" "moves_from" (defArgs s_moves_from) (defBody s_moves_from) (defScope s_moves_from) [] [] (ga K "moves_from") fd := t.says.d.def_ 32 (d := K89.d_moves_from) rfl
theorem Tx.f_ones_from (t : Tx K mg) : ∃ fd, FunD K "ones_from" "ones_from" (defArgs s_ones_from) (defBody s_ones_from) (defScope s_ones_from) [] [] (ga K "ones_from") fd := t.says.d.def_ 33 (d := K89.d_ones_from) rfl
theorem Tx.f_ended_number (t : Tx K mg) : ∃ fd, FunD K "ended_number" "ended_number" (defArgs s_ended_number) (defBody s_ended_number) (defScope s_ended_number) [] [] (ga K "ended_number") fd := t.says.d.def_ 34 (d := K89.d_ended_number) rfl
theorem Tx.f_steps_from (t : Tx K mg) : ∃ fd, FunD K "steps_from" "steps_from" (defArgs s_steps_from) (defBody s_steps_from) (defScope s_steps_from) [] [] (ga K "steps_from") fd := t.says.d.def_ 35 (d := K89.d_steps_from) rfl
theorem Tx.f_reached_states (t : Tx K mg) : ∃ fd, FunD K "reached_states" "reached_states" (defArgs s_reached_states) (defBody s_reached_states) (defScope s_reached_states) [] [] (ga K "reached_states") fd := t.says.d.def_ 36 (d := K89.d_reached_states) rfl
theorem Tx.f_measured (t : Tx K mg) : ∃ fd, FunD K "measured" "measured" (defArgs s_measured) (defBody s_measured) (defScope s_measured) [] [] (ga K "measured") fd := t.says.d.def_ 37 (d := K89.d_measured) rfl
theorem Tx.f_Record_init (t : Tx K mg) : ∃ fd, FunD K "__init__" "Record.__init__" (defArgs s_Record_init) (defBody s_Record_init) (defScope s_Record_init) [] [] (ma K (ga K "Record") "__init__") fd := t.says.d.def_ 38 (d := K89.d_Record_init) rfl
theorem Tx.f_Record_ways (t : Tx K mg) : ∃ fd, FunD K "ways" "Record.ways" (defArgs s_Record_ways) (defBody s_Record_ways) (defScope s_Record_ways) [] [] (ma K (ga K "Record") "ways") fd := t.says.d.def_ 39 (d := K89.d_Record_ways) rfl
theorem Tx.f_Record_count (t : Tx K mg) : ∃ fd, FunD K "count" "Record.count" (defArgs s_Record_count) (defBody s_Record_count) (defScope s_Record_count) [] [] (ma K (ga K "Record") "count") fd := t.says.d.def_ 40 (d := K89.d_Record_count) rfl
theorem Tx.f_Record_measures (t : Tx K mg) : ∃ fd, FunD K "measures" "Record.measures" (defArgs s_Record_measures) (defBody s_Record_measures) (defScope s_Record_measures) [] [] (ma K (ga K "Record") "measures") fd := t.says.d.def_ 41 (d := K89.d_Record_measures) rfl
theorem Tx.f_Record_steps (t : Tx K mg) : ∃ fd, FunD K "steps" "Record.steps" (defArgs s_Record_steps) (defBody s_Record_steps) (defScope s_Record_steps) [] [] (ma K (ga K "Record") "steps") fd := t.says.d.def_ 42 (d := K89.d_Record_steps) rfl
theorem Tx.f_require_recorded (t : Tx K mg) : ∃ fd, FunD K "require_recorded" "require_recorded" (defArgs s_require_recorded) (defBody s_require_recorded) (defScope s_require_recorded) [] [] (ga K "require_recorded") fd := t.says.d.def_ 43 (d := K89.d_require_recorded) rfl
theorem Tx.f_require_record (t : Tx K mg) : ∃ fd, FunD K "require_record" "require_record" (defArgs s_require_record) (defBody s_require_record) (defScope s_require_record) [] [] (ga K "require_record") fd := t.says.d.def_ 44 (d := K89.d_require_record) rfl
theorem Tx.f_require_some (t : Tx K mg) : ∃ fd, FunD K "require_some" "require_some" (defArgs s_require_some) (defBody s_require_some) (defScope s_require_some) [] [] (ga K "require_some") fd := t.says.d.def_ 45 (d := K89.d_require_some) rfl
theorem Tx.f_is_possible (t : Tx K mg) : ∃ fd, FunD K "is_possible" "is_possible" (defArgs s_is_possible) (defBody s_is_possible) (defScope s_is_possible) [] [] (ga K "is_possible") fd := t.says.d.def_ 46 (d := K89.d_is_possible) rfl
theorem Tx.f_count_texts (t : Tx K mg) : ∃ fd, FunD K "count_texts" "count_texts" (defArgs s_count_texts) (defBody s_count_texts) (defScope s_count_texts) [] [] (ga K "count_texts") fd := t.says.d.def_ 47 (d := K89.d_count_texts) rfl
theorem Tx.f_nth_text (t : Tx K mg) : ∃ fd, FunD K "nth_text" "nth_text" (defArgs s_nth_text) (defBody s_nth_text) (defScope s_nth_text) [] [] (ga K "nth_text") fd := t.says.d.def_ 48 (d := K89.d_nth_text) rfl
theorem Tx.f_text_index (t : Tx K mg) : ∃ fd, FunD K "text_index" "text_index" (defArgs s_text_index) (defBody s_text_index) (defScope s_text_index) [] [] (ga K "text_index") fd := t.says.d.def_ 49 (d := K89.d_text_index) rfl
theorem Tx.f_fewest_numbers (t : Tx K mg) : ∃ fd, FunD K "fewest_numbers" "fewest_numbers" (defArgs s_fewest_numbers) (defBody s_fewest_numbers) (defScope s_fewest_numbers) [] [] (ga K "fewest_numbers") fd := t.says.d.def_ 50 (d := K89.d_fewest_numbers) rfl
theorem Tx.f_most_numbers (t : Tx K mg) : ∃ fd, FunD K "most_numbers" "most_numbers" (defArgs s_most_numbers) (defBody s_most_numbers) (defScope s_most_numbers) [] [] (ga K "most_numbers") fd := t.says.d.def_ 51 (d := K89.d_most_numbers) rfl
theorem Tx.f_sure_numbers (t : Tx K mg) : ∃ fd, FunD K "sure_numbers" "sure_numbers" (defArgs s_sure_numbers) (defBody s_sure_numbers) (defScope s_sure_numbers) [] [] (ga K "sure_numbers") fd := t.says.d.def_ 52 (d := K89.d_sure_numbers) rfl
theorem Tx.f_ceiling (t : Tx K mg) : ∃ fd, FunD K "ceiling" "ceiling" (defArgs s_ceiling) (defBody s_ceiling) (defScope s_ceiling) [] [] (ga K "ceiling") fd := t.says.d.def_ 53 (d := K89.d_ceiling) rfl
theorem Tx.f_stretch (t : Tx K mg) : ∃ fd, FunD K "stretch" "stretch" (defArgs s_stretch) (defBody s_stretch) (defScope s_stretch) [] [] (ga K "stretch") fd := t.says.d.def_ 54 (d := K89.d_stretch) rfl
theorem Tx.f_length_bounds (t : Tx K mg) : ∃ fd, FunD K "length_bounds" "length_bounds" (defArgs s_length_bounds) (defBody s_length_bounds) (defScope s_length_bounds) [] [] (ga K "length_bounds") fd := t.says.d.def_ 55 (d := K89.d_length_bounds) rfl
theorem Tx.f_safe_lengths (t : Tx K mg) : ∃ fd, FunD K "safe_lengths" "safe_lengths" (defArgs s_safe_lengths) (defBody s_safe_lengths) (defScope s_safe_lengths) [] [] (ga K "safe_lengths") fd := t.says.d.def_ 56 (d := K89.d_safe_lengths) rfl
theorem Tx.f_is_safe_span (t : Tx K mg) : ∃ fd, FunD K "is_safe_span" "is_safe_span" (defArgs s_is_safe_span) (defBody s_is_safe_span) (defScope s_is_safe_span) [] [] (ga K "is_safe_span") fd := t.says.d.def_ 57 (d := K89.d_is_safe_span) rfl
theorem Tx.f_law_source (t : Tx K mg) : ∃ fd, FunD K "_law_source" "_law_source" (defArgs s_law_source) (defBody s_law_source) (defScope s_law_source) [] [] (ga K "_law_source") fd := t.says.d.def_ 58 (d := K89.d_law_source) rfl
theorem Tx.f_law_draw (t : Tx K mg) : ∃ fd, FunD K "_law_draw" "_law_draw" (defArgs s_law_draw) (defBody s_law_draw) (defScope s_law_draw) [] [] (ga K "_law_draw") fd := t.says.d.def_ 59 (d := K89.d_law_draw) rfl
theorem Tx.f_law_shape (t : Tx K mg) : ∃ fd, FunD K "_law_shape" "_law_shape" (defArgs s_law_shape) (defBody s_law_shape) (defScope s_law_shape) [] [] (ga K "_law_shape") fd := t.says.d.def_ 60 (d := K89.d_law_shape) rfl
theorem Tx.f_law_frame (t : Tx K mg) : ∃ fd, FunD K "_law_frame" "_law_frame" (defArgs s_law_frame) (defBody s_law_frame) (defScope s_law_frame) [] [] (ga K "_law_frame") fd := t.says.d.def_ 61 (d := K89.d_law_frame) rfl
theorem Tx.f_law_text (t : Tx K mg) : ∃ fd, FunD K "_law_text" "_law_text" (defArgs s_law_text) (defBody s_law_text) (defScope s_law_text) [] [] (ga K "_law_text") fd := t.says.d.def_ 62 (d := K89.d_law_text) rfl
theorem Tx.f_law_receiver (t : Tx K mg) : ∃ fd, FunD K "_law_receiver" "_law_receiver" (defArgs s_law_receiver) (defBody s_law_receiver) (defScope s_law_receiver) [] [] (ga K "_law_receiver") fd := t.says.d.def_ 63 (d := K89.d_law_receiver) rfl
theorem Tx.f_law_line (t : Tx K mg) : ∃ fd, FunD K "_law_line" "_law_line" (defArgs s_law_line) (defBody s_law_line) (defScope s_law_line) [] [] (ga K "_law_line") fd := t.says.d.def_ 64 (d := K89.d_law_line) rfl
theorem Tx.f_law_runs (t : Tx K mg) : ∃ fd, FunD K "_law_runs" "_law_runs" (defArgs s_law_runs) (defBody s_law_runs) (defScope s_law_runs) [] [] (ga K "_law_runs") fd := t.says.d.def_ 65 (d := K89.d_law_runs) rfl
theorem Tx.f_law_read_right (t : Tx K mg) : ∃ fd, FunD K "_law_read_right" "_law_read_right" (defArgs s_law_read_right) (defBody s_law_read_right) (defScope s_law_read_right) [] [] (ga K "_law_read_right") fd := t.says.d.def_ 66 (d := K89.d_law_read_right) rfl
theorem Tx.f_law_one_text (t : Tx K mg) : ∃ fd, FunD K "_law_one_text" "_law_one_text" (defArgs s_law_one_text) (defBody s_law_one_text) (defScope s_law_one_text) [] [] (ga K "_law_one_text") fd := t.says.d.def_ 67 (d := K89.d_law_one_text) rfl
theorem Tx.f_law_wider_right (t : Tx K mg) : ∃ fd, FunD K "_law_wider_right" "_law_wider_right" (defArgs s_law_wider_right) (defBody s_law_wider_right) (defScope s_law_wider_right) [] [] (ga K "_law_wider_right") fd := t.says.d.def_ 68 (d := K89.d_law_wider_right) rfl
theorem Tx.f_law (t : Tx K mg) : ∃ fd, FunD K "law" "law" (defArgs s_law) (defBody s_law) (defScope s_law) [] [] (ga K "law") fd := t.says.d.def_ 69 (d := K89.d_law) rfl
end
/-! ### a def's promise in one word -/
structure Good (P : Program) (w : World) (K : PySem.W.Frag) (mg : PySem.Str → Option Value) (base : Heap) (x : PySem.Str) (k : Nat) (ps : List PySem.Str) (dvs : List V) (sp : Sp) : Prop where
  ex : ∃ fd ds, FnOk P w K mg base CX0 k (ga K x) fd ps sp ∧ Binds K fd ps ds ∧ Vals dvs ds
  kp : PySem.W.keepIn K (.ref (ga K x)) = true
  gl : mg x = some (.ref (ga K x))
/-- a method's -/
structure GoodM (P : Program) (w : World) (K : PySem.W.Frag) (mg : PySem.Str → Option Value) (base : Heap) (m : PySem.Str) (k : Nat) (ps : List PySem.Str) (sp : Sp) : Prop where
  ex : ∃ fd, FnOk P w K mg base CX0 k (ma K (ga K "Record") m) fd ps sp ∧ Binds K fd ps []
section
variable {P : Program} {w : World} {K : PySem.W.Frag} {mg : PySem.Str → Option Value} {base : Heap} {x : PySem.Str} {qual : PySem.Str} {st : Stmt} {N ps : List PySem.Str} {k : Nat} {sp : Sp} {dvs : List V}
/-- how the body is shown -/
abbrev BodyOk (P : Program) (w : World) (K : PySem.W.Frag) (mg : PySem.Str → Option Value) (base : Heap) (N : List PySem.Str) (qual : PySem.Str) (st : Stmt) (f : Addr) (k : Nat) (sp : Sp) : Prop :=
  ∀ (cdv : Value) (A : Around) (outer : List Env) (s : Shared) (H : Hp) (vs : List V) (Q : VK) (E : XK), Room k (A.deeper (envOfC qual (defScope st) s.heap.objs.size f cdv)) → sp vs H Q E →
    ∃ t, PSs (cxOf CX0 P w K mg base N qual (defScope st) f cdv A outer s H E).nox (defBody st) t ∧ t { nx := fun _ H' => Q .non H', rt := Q } (start N vs) H
theorem mkGood (D : ∃ fd, FunD K x qual (defArgs st) (defBody st) (defScope st) [] [] (ga K x) fd) (g : mg x = some (.ref (ga K x))) (S : FnScope N ps (defScope st))
    (hb : ∀ (kV doc pm : Value) (an : Option Addr) (cdv ct : Value) (us : List Value), us.length = ps.length → bindArgs (PySem.W.fnOf x qual (defArgs st) (defBody st) (defScope st) .none kV doc pm an cdv ct) ⟨us, []⟩ = pure (ps.zip us))
    (len : ∀ vs H Q E, sp vs H Q E → vs.length = ps.length) (body : BodyOk P w K mg base N qual st (ga K x) k sp) : Good P w K mg base x (k + 1) ps [] sp := by
  obtain ⟨fd, F⟩ := D
  refine ⟨⟨fd, [], F.ok S len fun cdv A outer s H vs Q E hr h => ?_, F.bindsN hb, .nil⟩, F.kp, g⟩
  obtain ⟨t, h1, h2⟩ := body cdv A outer s H vs Q E hr h
  exact ⟨t, h1.nox, h2⟩
theorem mkGoodM {m : PySem.Str} (D : ∃ fd, FunD K m qual (defArgs st) (defBody st) (defScope st) [] [] (ma K (ga K "Record") m) fd) (S : FnScope N ps (defScope st))
    (hb : ∀ (kV doc pm : Value) (an : Option Addr) (cdv ct : Value) (us : List Value), us.length = ps.length → bindArgs (PySem.W.fnOf m qual (defArgs st) (defBody st) (defScope st) .none kV doc pm an cdv ct) ⟨us, []⟩ = pure (ps.zip us))
    (len : ∀ vs H Q E, sp vs H Q E → vs.length = ps.length) (body : BodyOk P w K mg base N qual st (ma K (ga K "Record") m) k sp) : GoodM P w K mg base m (k + 1) ps sp := by
  obtain ⟨fd, F⟩ := D
  refine ⟨⟨fd, F.ok S len fun cdv A outer s H vs Q E hr h => ?_, F.bindsN hb⟩⟩
  obtain ⟨t, h1, h2⟩ := body cdv A outer s H vs Q E hr h
  exact ⟨t, h1.nox, h2⟩
/-- a def with defaults dvs, called with n values: those from j on fill up -/
theorem mkGoodD {n j : Nat} (D : ∃ fd, FunD K x qual (defArgs st) (defBody st) (defScope st) dvs [] (ga K x) fd) (g : mg x = some (.ref (ga K x))) (S : FnScope N ps (defScope st)) (hd : dvs ≠ []) (hn : n + (dvs.length - j) = ps.length)
    (hb : ∀ (T : Addr) (kV doc pm : Value) (an : Option Addr) (cdv ct : Value) (us its : List Value), us.length = n → its.length = dvs.length →
      ∃ k, bindArgs (PySem.W.fnOf x qual (defArgs st) (defBody st) (defScope st) (.ref T) kV doc pm an cdv ct) ⟨us, []⟩ = seqItems? (.ref T) >>= k ∧ k (some its.toArray) = pure (ps.zip (us ++ its.drop j)))
    (len : ∀ vs H Q E, sp vs H Q E → vs.length = ps.length) (body : BodyOk P w K mg base N qual st (ga K x) k sp) : Good P w K mg base x (k + 1) ps (dvs.drop j) sp := by
  obtain ⟨fd, F⟩ := D
  obtain ⟨ds, r, b⟩ := F.binds1 n j hd hn hb
  refine ⟨⟨fd, ds, F.ok S len fun cdv A outer s H vs Q E hr h => ?_, b, r⟩, F.kp, g⟩
  obtain ⟨t, h1, h2⟩ := body cdv A outer s H vs Q E hr h
  exact ⟨t, h1.nox, h2⟩
end
section
variable {X : Cx} {x : PySem.Str} {k : Nat} {ps : List PySem.Str} {dvs : List V} {sp : Sp} {p pos : Pos} {e : Expr} {es : List Expr} {t : TA}
/-- f(e, ..) by the promise -/
theorem pe_go {j : Nat} (G : Good X.prog X.w X.K X.mg X.base x k ps dvs sp) (hr : Room j X.A) (ha : PA X (e :: es) t) (hj : k ≤ j := by decide) (hg : Gl X x := by rfl) (hdb : (x == ("__debug__" : PySem.Str)) = false := by decide)
    (he : starEach (e :: es) X.env = (false, eval e X.env) :: starEach es X.env := by rfl) (hpl : (backTo pos (starEach es X.env)).any (·.1) = false := by rfl) : PE X (.Call (.Name x p) (e :: es) [] pos) (tCall sp dvs E0 t) := by
  obtain ⟨⟨fd, ds, F, b, r⟩, kp, gl⟩ := G
  exact pe_call F (hr.mono hj) hg gl kp b r pass0 ha hdb he hpl
end
theorem getVal {K : PySem.W.Frag} {H : Hp} : True := trivial
end K89

set_option maxRecDepth 100000
set_option maxHeartbeats 2000000
namespace K89
open PySem PySem.Spec PyProof.Rows L2
/-! what the Hook looks at: the objects that the module's names reach in four steps, each step from the last one's finds alone (no list is rid of doubles: that costs the kernel 3 GB) -/
def nxF (g : Addr → Option Obj) (as : List Addr) : List Addr := as.flatMap fun a => match g a with
  | some o => He.refsD o
  | none => []
def asF (g : Addr → Option Obj) : Nat → List Addr → List Addr
  | 0, as => as
  | n + 1, as => as ++ asF g n (nxF g as)
def frX (g : Addr → Option Obj) : PySem.W.Frag := He.frG g (asF g 4 [mainGlobals])
def hk : PySem.W.Hook where
  α := AlX
  obs := fun s => obsX (frX s.heap.get?)
  val := fun _ => (He.valD fn, true)
  says := fun _ h => ∃ K : PySem.W.Frag, K.In h ∧ SaysX K
  of := fun _ _ e => ⟨_, He.frG_in, e⟩
  keeps := fun _ _ _ ⟨K, hK, c⟩ k => ⟨K, PySem.W.Frag.In.keeps hK k, c⟩
def ob (s : PySem.W.SharedT) : AlX := obsX (frX (HandSHeadRun.getT s))
theorem ob_eq (s : PySem.W.SharedT) : ob s = hk.obs s.abs := by
  have e : HandSHeadRun.getT s = s.abs.heap.get? := funext (HandSHeadRun.getT_eq s)
  unfold ob
  rw [e] <;> rfl
/-! the run in two parts: each is a kernel computation of its own -/
section
open PySem.W PySem.Calls HandSHeadRun
noncomputable abbrev endX (w : World) (os : PySem.OsState) : Option SharedT := endF (stepQ (denQ tabQ) R.prog w) 6000 R.prog w os
theorem run_a (w : World) (os : PySem.OsState) : (endX w os).map (fun s => (looksF R.prog (boot_heap w.params) s.abs, seenQ (PySem.W.view R.prog [90]) names (importedModules R.prog.main.body) (fun s => xlAt (PySem.W.view R.prog [90]) [] s && recOk R.toRowW.records s) s.abs)) = some (true, openGood (PySem.W.view R.prog [90]) names) := by
  kernel_rfl
theorem run_b (w : World) (os : PySem.OsState) : (endX w os).map ob = some (hk.val w) := by
  kernel_rfl
end
theorem both {S A B C : Type} {o : Option S} {f : S → A × B} {g : S → C} {a : A} {b : B} {c : C} (e : o.map f = some (a, b)) (e2 : o.map g = some c) : o.map (fun s => ((f s).1, (f s).2, g s)) = some (a, b, c) := by
  cases o with
  | none => cases e
  | some s =>
    have h : f s = (a, b) := Option.some.inj e
    have h2 : g s = c := Option.some.inj e2
    show some ((f s).1, (f s).2, g s) = _
    rw [h, h2]
theorem run (w : World) : HandSHeadRun.RunEq R (PySem.W.view R.prog [90]) hk ob 6000 names w := by
  intro os
  have h := both (run_a w os) (run_b w os)
  exact h
end K89

set_option maxRecDepth 100000
set_option maxHeartbeats 2000000
/-! small words -/
namespace K89
open PySem PySem.Spec PyProof.Rows L2
theorem bt_int : bootBuiltins "int" = some (.type "int") := by decide +kernel
theorem bt_str : bootBuiltins "str" = some (.type "str") := by decide +kernel
theorem bt_bool : bootBuiltins "bool" = some (.type "bool") := by decide +kernel
theorem bt_list : bootBuiltins "list" = some (.type "list") := by decide +kernel
theorem bt_tuple : bootBuiltins "tuple" = some (.type "tuple") := by decide +kernel
theorem bt_range : bootBuiltins "range" = some (.type "range") := by decide +kernel
theorem bt_zip : bootBuiltins "zip" = some (.type "zip") := by decide +kernel
theorem bt_enumerate : bootBuiltins "enumerate" = some (.type "enumerate") := by decide +kernel
theorem bt_len : bootBuiltins "len" = some (.builtin "len") := by decide +kernel
theorem bt_isinstance : bootBuiltins "isinstance" = some (.builtin "isinstance") := by decide +kernel
theorem bt_sum : bootBuiltins "sum" = some (.builtin "sum") := by decide +kernel
theorem bt_min : bootBuiltins "min" = some (.builtin "min") := by decide +kernel
theorem bt_max : bootBuiltins "max" = some (.builtin "max") := by decide +kernel
theorem bt_sorted : bootBuiltins "sorted" = some (.builtin "sorted") := by decide +kernel
theorem bt_abs : bootBuiltins "abs" = some (.builtin "abs") := by decide +kernel
theorem bt_repr : bootBuiltins "repr" = some (.builtin "repr") := by decide +kernel
section
variable {X : Cx}
theorem pe_cst {x : PySem.Str} {v : V} {pos : Pos} (h : ∃ u, X.mg x = some u ∧ RelV v u) (hg : Gl X x := by rfl) (hd : (x == ("__debug__" : PySem.Str)) = false := by decide) : PE X (.Name x pos) (tC v) := by
  obtain ⟨u, h1, h2⟩ := h
  exact pe_glob hg h1 h2 hd
def tNevT : TT := fun _ _ _ => False
theorem pt_nev {e : Expr} : PT X e tNevT := ⟨fun _ _ _ _ _ _ h => h.elim⟩
def tNevE : TE := fun _ _ _ => False
theorem pe_nev {e : Expr} : PE X e tNevE := ⟨fun _ _ _ _ _ _ h => h.elim⟩
/-! the rules that speak of K, K named: for use within a comprehension -/
theorem pgT {K : PySem.W.Frag} (hK : X.K = K) {es : List Expr} {k : Nat} {t : TGs} {n : Nat} {pos : Pos} (hc : X.calm = true) (h : PGs X es t)
    (hn : (assignEach es X.env).length = n := by rfl) (hst : (assignEach es X.env).findIdx? (·.1) = none := by rfl) : PG X (.Tuple es k pos) (gTup K n t) := by
  subst hK
  exact pg_tup hc h hn hst
theorem ixL {K : PySem.W.Frag} (hK : X.K = K) : IxR X (rIxL K) := by
  subst hK
  exact ix_list
theorem ixT {K : PySem.W.Frag} (hK : X.K = K) : IxR X (rIxT K) := by
  subst hK
  exact ix_tup
theorem piL {K : PySem.W.Frag} (hK : X.K = K) {tg l : Expr} {tl : TE} (hl : PE X l tl) : PI X tg l (iList K tl) := by
  subst hK
  exact pi_list hl
theorem opEqD {K : PySem.W.Frag} (hK : X.K = K) (hu : X.A.units + 64 < cLine) : OpR X (compareOp .Eq) (rEqD K) := by
  subst hK
  exact op_eqD hu
theorem opNeD {K : PySem.W.Frag} (hK : X.K = K) (hu : X.A.units + 64 < cLine) : OpR X (compareOp .NotEq) (rNeD K) := by
  subst hK
  exact op_neD hu
theorem peTget {K : PySem.W.Frag} {P : Program} {w : World} (hK : X.K = K) (hP : X.prog = P) (hw : X.w = w) {o i : Expr} {td ty : TE} {pos : Pos} (hu : X.A.units + 1 < cLine) (ho : PE X o td) (hi : PE X i ty) (hs : NoSl i) : PE X (.Subscript o i pos) (tTGet K P w td ty) := by
  subst hK hP hw
  exact pe_tget hu ho hi hs
theorem pcTin {K : PySem.W.Frag} {P : Program} {w : World} (hK : X.K = K) (hP : X.prog = P) (hw : X.w = w) {o i : Expr} {td ty : TE} (hu : X.A.units + 1 < cLine) (hi : PE X i ty) (ho : PE X o td) : PC X .In i o (tTIn K P w ty td) := by
  subst hK hP hw
  exact pc_tin hu hi ho
variable {K : PySem.W.Frag} {k j : Nat} {ps : List PySem.Str} {sp : Sp} {o e : Expr} {es : List Expr} {ta : TE} {t : TA} {apos pos : Pos} {m : PySem.Str}
theorem pe_goM (T : Tx X.K X.mg) (hm : Meth X.K (ga X.K "Record") m (ma X.K (ga X.K "Record") m)) (G : GoodM X.prog X.w X.K X.mg X.base m k ps sp) (hr : Room j X.A) (ho : PE X o ta) (ha : PA X (e :: es) t) (hj : k ≤ j := by decide)
    (hst : starEach (e :: es) X.env = (false, eval e X.env) :: starEach es X.env := by rfl) (hpl : (backTo pos (starEach es X.env)).any (·.1) = false := by rfl) {pl : Sem Bool}
    (ht : eval (.Call (.Attribute o m apos) (e :: es) [] pos) X.env = (do
      let ov ← eval o X.env
      standAt apos.atName
      let (f, first) ← holding [ov] (getMethod ov m pl)
      callWith pos f first (backTo pos (starEach (e :: es) X.env)) (backToKw pos (keywordEach [] X.env))) := by rfl) :
    PE X (.Call (.Attribute o m apos) (e :: es) [] pos) (tMeth (ga X.K "Record") m sp [] E0 ta t) := by
  obtain ⟨fd, F, b⟩ := G.ex
  exact pe_meth ho T.cl hm F (hr.mono hj) b .nil pass0 ha hst hpl ht
theorem pe_goM0 (T : Tx X.K X.mg) (hm : Meth X.K (ga X.K "Record") m (ma X.K (ga X.K "Record") m)) (G : GoodM X.prog X.w X.K X.mg X.base m k ps sp) (hr : Room j X.A) (ho : PE X o ta) (hj : k ≤ j := by decide) {pl : Sem Bool}
    (ht : eval (.Call (.Attribute o m apos) [] [] pos) X.env = (do
      let ov ← eval o X.env
      standAt apos.atName
      let (f, first) ← holding [ov] (getMethod ov m pl)
      callWith pos f first (backTo pos (starEach [] X.env)) (backToKw pos (keywordEach [] X.env))) := by rfl) :
    PE X (.Call (.Attribute o m apos) [] [] pos) (tMeth (ga X.K "Record") m sp [] E0 ta tNil) := by
  obtain ⟨fd, F, b⟩ := G.ex
  exact pe_meth0 ho T.cl hm F (hr.mono hj) b .nil pass0 ht
theorem pe_mk {p : Pos} (T : Tx X.K X.mg) (G : GoodM X.prog X.w X.K X.mg X.base "__init__" k ps sp) (hr : Room j X.A) (ha : PA X (e :: es) t) (hj : k + 1 ≤ j := by decide) (hg : Gl X "Record" := by rfl)
    (he : starEach (e :: es) X.env = (false, eval e X.env) :: starEach es X.env := by rfl) (hpl : (backTo pos (starEach es X.env)).any (·.1) = false := by rfl) :
    PE X (.Call (.Name "Record" p) (e :: es) [] pos) (tMake (ga X.K "Record") sp [] E0 t) := by
  obtain ⟨fd, F, b⟩ := G.ex
  exact pe_make T.mkR F (hr.mono hj) hg T.g_Record b .nil pass0 ha (by decide) he hpl
theorem peGoM {pl : Sem Bool} (hK : X.K = K) (T : Tx X.K X.mg) (hm : Meth X.K (ga X.K "Record") m (ma X.K (ga X.K "Record") m)) (G : GoodM X.prog X.w X.K X.mg X.base m k ps sp) (hr : Room j X.A) (ho : PE X o ta) (ha : PA X (e :: es) t) (hj : k ≤ j := by decide)
    (hst : starEach (e :: es) X.env = (false, eval e X.env) :: starEach es X.env := by rfl) (hpl : (backTo pos (starEach es X.env)).any (·.1) = false := by rfl)
    (ht : eval (.Call (.Attribute o m apos) (e :: es) [] pos) X.env = (do
      let ov ← eval o X.env
      standAt apos.atName
      let (f, first) ← holding [ov] (getMethod ov m pl)
      callWith pos f first (backTo pos (starEach (e :: es) X.env)) (backToKw pos (keywordEach [] X.env))) := by rfl) :
    PE X (.Call (.Attribute o m apos) (e :: es) [] pos) (tMeth (ga K "Record") m sp [] E0 ta t) := by
  subst hK
  exact pe_goM T hm G hr ho ha hj hst hpl ht
end
end K89
namespace L2
open PySem PySem.Spec PyProof.Rows
theorem Same.seqT {K : PySem.W.Frag} {H H' : Hp} {a : Addr} {xs : List V} (e : Same H H') (h : SqT K H a xs) : SqT K H' a xs := by
  rcases h with (h | ⟨o, h⟩) | h
  · exact .inl (.inl (e _ _ h))
  · exact .inl (.inr ⟨o, e _ _ h⟩)
  · exact .inr h
theorem Same.up {H : Hp} {p : Addr} {o : HO} (h : H p = none) : Same H (upd H p o) := fun b x e => by
  rw [upd_ne (ne_of_none e h)]
  exact e
theorem SqT.up {K : PySem.W.Frag} {H : Hp} {a p : Addr} {xs : List V} {o : HO} (h : SqT K H a xs) (n : H p = none) : SqT K (upd H p o) a xs := (Same.up n).seqT h
theorem SqL.up {K : PySem.W.Frag} {H : Hp} {a p : Addr} {xs : List V} {o : HO} (h : SqL K H a xs) (n : H p = none) : SqL K (upd H p o) a xs := (Same.up n).seq h
theorem SqT.new {K : PySem.W.Frag} {H : Hp} {p : Addr} {xs : List V} : SqT K (upd H p (.tup xs)) p xs := .inl (.inl upd_same)
theorem SqL.new {K : PySem.W.Frag} {H : Hp} {p : Addr} {xs : List V} : SqL K (upd H p (.lst xs)) p xs := .inl (.inl upd_same)
end L2

set_option maxRecDepth 100000
set_option maxHeartbeats 2000000
/-! the walks of comprehensions and loops, in short -/
namespace K89
open PySem PySem.Spec PyProof.Rows L2
section
variable {K : PySem.W.Frag} {a : Addr} {xs : List V} {Fin' : Hp → Prop} {Step : (Hp → Prop) → V → Hp → Prop} {H0 : Hp}
theorem cw_list (Pv : Nat → Hp → Prop) (h0 : Pv 0 H0) (hl : ∀ i H, i ≤ xs.length → Pv i H → SqL K H a xs) (hs : ∀ i x H, xs[i]? = some x → Pv i H → Step (Pv (i + 1)) x H) (hd : ∀ H, Pv xs.length H → Fin' H) :
    ∃ W : Nat → Nat → Hp → Prop, (∃ m, W 0 m H0) ∧ ∀ i m H, W i m H → ((Itl K a).stop i H ∧ Fin' H) ∨ ((Itl K a).go i H ∧ ∃ Nx : Hp → Prop, (∀ H', Nx H' → ∃ m', m' < m ∧ W (i + 1) m' H') ∧ ∀ x H', (Itl K a).yld i H x H' → Step Nx x H') := by
  refine ⟨fun i m H => m = xs.length - i ∧ i ≤ xs.length ∧ Pv i H, ⟨xs.length, by simp, Nat.zero_le _, h0⟩, ?_⟩
  rintro i m H ⟨rfl, hi, p⟩
  have q := hl i H hi p
  by_cases hlt : i < xs.length
  · refine .inr ⟨⟨xs, xs[i], q, by simp [hlt]⟩, Pv (i + 1), fun H' p' => ⟨xs.length - (i + 1), by omega, rfl, hlt, p'⟩, fun x H' y => ?_⟩
    obtain ⟨e, y⟩ := y
    subst e
    exact hs i x _ (y xs q) p
  · have e : i = xs.length := by omega
    subst e
    exact .inl ⟨⟨xs, q, Nat.le_refl _⟩, hd H p⟩
theorem cw_range {lo : Int} {n : Nat} (Pv : Nat → Hp → Prop) (h0 : Pv 0 H0) (hs : ∀ i H, i < n → Pv i H → Step (Pv (i + 1)) (.int (lo + i)) H) (hd : ∀ H, Pv n H → Fin' H) :
    ∃ W : Nat → Nat → Hp → Prop, (∃ m, W 0 m H0) ∧ ∀ i m H, W i m H → ((Itr lo n).stop i H ∧ Fin' H) ∨ ((Itr lo n).go i H ∧ ∃ Nx : Hp → Prop, (∀ H', Nx H' → ∃ m', m' < m ∧ W (i + 1) m' H') ∧ ∀ x H', (Itr lo n).yld i H x H' → Step Nx x H') := by
  refine ⟨fun i m H => m = n - i ∧ i ≤ n ∧ Pv i H, ⟨n, by simp, Nat.zero_le _, h0⟩, ?_⟩
  rintro i m H ⟨rfl, hi, p⟩
  by_cases hlt : i < n
  · refine .inr ⟨hlt, Pv (i + 1), fun H' p' => ⟨n - (i + 1), by omega, rfl, hlt, p'⟩, fun x H' y => ?_⟩
    obtain ⟨e, y⟩ := y
    subst e y
    exact hs i _ hlt p
  · have e : i = n := by omega
    subst e
    exact .inl ⟨Nat.le_refl _, hd H p⟩
/-- two lists of one length at least as long: zip -/
theorem cw_zip {b : Addr} {ys : List V} (Pv : Nat → Hp → Prop) (h0 : Pv 0 H0) (hle : xs.length ≤ ys.length) (hl : ∀ i H, i ≤ xs.length → Pv i H → SqL K H a xs ∧ SqL K H b ys)
    (hs : ∀ i x y H T, xs[i]? = some x → ys[i]? = some y → H T = none → Pv i H → Step (Pv (i + 1)) (.ref T) (upd H T (.tup [x, y]))) (hd : ∀ H, Pv xs.length H → Fin' H) :
    ∃ W : Nat → Nat → Hp → Prop, (∃ m, W 0 m H0) ∧ ∀ i m H, W i m H → ((Itz K a b).stop i H ∧ Fin' H) ∨ ((Itz K a b).go i H ∧ ∃ Nx : Hp → Prop, (∀ H', Nx H' → ∃ m', m' < m ∧ W (i + 1) m' H') ∧ ∀ x H', (Itz K a b).yld i H x H' → Step Nx x H') := by
  refine ⟨fun i m H => m = xs.length - i ∧ i ≤ xs.length ∧ Pv i H, ⟨xs.length, by simp, Nat.zero_le _, h0⟩, ?_⟩
  rintro i m H ⟨rfl, hi, p⟩
  obtain ⟨q1, q2⟩ := hl i H hi p
  by_cases hlt : i < xs.length
  · have hlt2 : i < ys.length := by omega
    refine .inr ⟨⟨xs, ys, xs[i], ys[i], q1, q2, by simp [hlt], by simp [hlt2]⟩, Pv (i + 1), fun H' p' => ⟨xs.length - (i + 1), by omega, rfl, hlt, p'⟩, fun x H' y => ?_⟩
    obtain ⟨T, x1, y1, rfl, nT, rfl, f1, f2⟩ := y
    exact hs i x1 y1 _ T (f1 _ q1) (f2 _ q2) nT p
  · have e : i = xs.length := by omega
    subst e
    exact .inl ⟨⟨xs, ys, q1, q2, .inl (Nat.le_refl _)⟩, hd H p⟩
end
section
variable {K : PySem.W.Frag} {a : Addr} {xs : List V} {g : TG} {tb : TS} {D : Ends} {σ : L2.St} {H : Hp}
/-- for i, x in enumerate(list) -/
theorem for_enum (Pv : Nat → L2.St → Hp → Prop) (h0 : Pv 0 σ H) (hl : ∀ i σ H, i ≤ xs.length → Pv i σ H → SqL K H a xs)
    (hs : ∀ i x σ H T, xs[i]? = some x → H T = none → Pv i σ H → g (.ref T) σ (upd H T (.tup [.int (i : Nat), x])) fun σ2 H2 => tb { D with nx := Pv (i + 1), ct := Pv (i + 1), bk := D.nx } σ2 H2) (hd : ∀ σ H, Pv xs.length σ H → D.nx σ H) :
    ∃ W : Nat → Nat → L2.St → Hp → Prop, (∃ m, W 0 m σ H) ∧ ∀ i m σ H, W i m σ H →
      ((Ite K a).stop i H ∧ D.nx σ H) ∨ ((Ite K a).go i H ∧ ∃ N : L2.St → Hp → Prop, (∀ σ' H', N σ' H' → ∃ m', m' < m ∧ W (i + 1) m' σ' H') ∧ ∀ x H', (Ite K a).yld i H x H' → g x σ H' fun σ2 H2 => tb { D with nx := N, ct := N, bk := D.nx } σ2 H2) := by
  refine ⟨fun i m σ H => m = xs.length - i ∧ i ≤ xs.length ∧ Pv i σ H, ⟨xs.length, by simp, Nat.zero_le _, h0⟩, ?_⟩
  rintro i m σ H ⟨rfl, hi, p⟩
  have q := hl i σ H hi p
  by_cases hlt : i < xs.length
  · refine .inr ⟨⟨xs, xs[i], q, by simp [hlt]⟩, Pv (i + 1), fun σ' H' p' => ⟨xs.length - (i + 1), by omega, rfl, hlt, p'⟩, fun x H' y => ?_⟩
    obtain ⟨T, x1, rfl, nT, rfl, f⟩ := y
    exact hs i x1 σ _ T (f xs q) nT p
  · have e : i = xs.length := by omega
    subst e
    exact .inl ⟨⟨xs, q, Nat.le_refl _⟩, hd σ H p⟩
theorem for_enumT (Pv : Nat → L2.St → Hp → Prop) (h0 : Pv 0 σ H) (hl : ∀ i σ H, i ≤ xs.length → Pv i σ H → SqT K H a xs)
    (hs : ∀ i x σ H T, xs[i]? = some x → H T = none → Pv i σ H → g (.ref T) σ (upd H T (.tup [.int (i : Nat), x])) fun σ2 H2 => tb { D with nx := Pv (i + 1), ct := Pv (i + 1), bk := D.nx } σ2 H2) (hd : ∀ σ H, Pv xs.length σ H → D.nx σ H) :
    ∃ W : Nat → Nat → L2.St → Hp → Prop, (∃ m, W 0 m σ H) ∧ ∀ i m σ H, W i m σ H →
      ((ItE K a xs.length).stop i H ∧ D.nx σ H) ∨ ((ItE K a xs.length).go i H ∧ ∃ N : L2.St → Hp → Prop, (∀ σ' H', N σ' H' → ∃ m', m' < m ∧ W (i + 1) m' σ' H') ∧ ∀ x H', (ItE K a xs.length).yld i H x H' → g x σ H' fun σ2 H2 => tb { D with nx := N, ct := N, bk := D.nx } σ2 H2) := by
  refine ⟨fun i m σ H => m = xs.length - i ∧ i ≤ xs.length ∧ Pv i σ H, ⟨xs.length, by simp, Nat.zero_le _, h0⟩, ?_⟩
  rintro i m σ H ⟨rfl, hi, p⟩
  have q := hl i σ H hi p
  by_cases hlt : i < xs.length
  · refine .inr ⟨⟨xs, xs[i], q, rfl, by simp [hlt]⟩, Pv (i + 1), fun σ' H' p' => ⟨xs.length - (i + 1), by omega, rfl, hlt, p'⟩, fun x H' y => ?_⟩
    obtain ⟨T, x1, rfl, nT, rfl, f⟩ := y
    exact hs i x1 σ _ T (f xs q) nT p
  · have e : i = xs.length := by omega
    subst e
    exact .inl ⟨⟨rfl, xs, q, rfl⟩, hd σ H p⟩
/-- range by steps -/
theorem for_rangeC {lo c : Int} {n : Nat} (Pv : Nat → L2.St → Hp → Prop) (h0 : Pv 0 σ H)
    (hs : ∀ i σ H, i < n → Pv i σ H → g (.int (lo + (i : Nat) * c)) σ H fun σ2 H2 => tb { D with nx := Pv (i + 1), ct := Pv (i + 1), bk := D.nx } σ2 H2) (hd : ∀ σ H, Pv n σ H → D.nx σ H) :
    ∃ W : Nat → Nat → L2.St → Hp → Prop, (∃ m, W 0 m σ H) ∧ ∀ i m σ H, W i m σ H →
      ((Itc lo c n).stop i H ∧ D.nx σ H) ∨ ((Itc lo c n).go i H ∧ ∃ N : L2.St → Hp → Prop, (∀ σ' H', N σ' H' → ∃ m', m' < m ∧ W (i + 1) m' σ' H') ∧ ∀ x H', (Itc lo c n).yld i H x H' → g x σ H' fun σ2 H2 => tb { D with nx := N, ct := N, bk := D.nx } σ2 H2) := by
  refine ⟨fun i m σ H => m = n - i ∧ i ≤ n ∧ Pv i σ H, ⟨n, by simp, Nat.zero_le _, h0⟩, ?_⟩
  rintro i m σ H ⟨rfl, hi, p⟩
  by_cases hlt : i < n
  · refine .inr ⟨hlt, Pv (i + 1), fun σ' H' p' => ⟨n - (i + 1), by omega, rfl, hlt, p'⟩, fun x H' y => ?_⟩
    obtain ⟨e, y⟩ := y
    subst e y
    exact hs i σ _ hlt p
  · have e : i = n := by omega
    subst e
    exact .inl ⟨Nat.le_refl _, hd σ H p⟩
/-- the pairs of a locked dict -/
theorem for_pairs {P : Program} {w : World} {ob : Obj} {kvs : List Ent} (Pv : Nat → L2.St → Hp → Prop) (h0 : Pv 0 σ H) (hl : ∀ i σ H, i ≤ kvs.length → Pv i σ H → H a = some (.frz ob (TD P w a kvs)))
    (hs : ∀ i p σ H T, kvs[i]? = some p → H T = none → Pv i σ H → g (.ref T) σ (upd H T (.tup [.ref p.2.1, p.2.2])) fun σ2 H2 => tb { D with nx := Pv (i + 1), ct := Pv (i + 1), bk := D.nx } σ2 H2) (hd : ∀ σ H, Pv kvs.length σ H → D.nx σ H) :
    ∃ W : Nat → Nat → L2.St → Hp → Prop, (∃ m, W 0 m σ H) ∧ ∀ i m σ H, W i m σ H →
      ((ItP P w a ob kvs).stop i H ∧ D.nx σ H) ∨ ((ItP P w a ob kvs).go i H ∧ ∃ N : L2.St → Hp → Prop, (∀ σ' H', N σ' H' → ∃ m', m' < m ∧ W (i + 1) m' σ' H') ∧ ∀ x H', (ItP P w a ob kvs).yld i H x H' → g x σ H' fun σ2 H2 => tb { D with nx := N, ct := N, bk := D.nx } σ2 H2) := by
  refine ⟨fun i m σ H => m = kvs.length - i ∧ i ≤ kvs.length ∧ Pv i σ H, ⟨kvs.length, by simp, Nat.zero_le _, h0⟩, ?_⟩
  rintro i m σ H ⟨rfl, hi, p⟩
  have q := hl i σ H hi p
  by_cases hlt : i < kvs.length
  · refine .inr ⟨⟨q, hlt⟩, Pv (i + 1), fun σ' H' p' => ⟨kvs.length - (i + 1), by omega, rfl, hlt, p'⟩, fun x H' y => ?_⟩
    obtain ⟨T, p1, e, rfl, nT, rfl⟩ := y
    exact hs i p1 σ _ T e nT p
  · have e : i = kvs.length := by omega
    subst e
    exact .inl ⟨⟨q, Nat.le_refl _⟩, hd σ H p⟩
end
theorem small_len {α : Type} {l : List α} {n : Nat} (h : l.length ≤ n) (hn : n < 16777216 := by decide) : l.length < sizeLine := Nat.lt_of_le_of_lt h hn
end K89

set_option maxRecDepth 100000
set_option maxHeartbeats 2000000
/-! the shapes, receivers, levels, in plain words -/
namespace K89
open PySem L2
structure Sh where
  d : Nat
  p : Nat
  s : Nat
def pst (p : Nat) : PySem.Str := if p = 0 then "none" else if p = 1 then "even" else "odd"
namespace Sh
def vs (h : Sh) : List V := [.int h.d, .str (pst h.p), .int h.s]
structure Ok (h : Sh) : Prop where
  d1 : 1 ≤ h.d
  d9 : h.d ≤ 9
  p2 : h.p ≤ 2
  s1 : 1 ≤ h.s
  s2 : h.s ≤ 2
def q (h : Sh) : Nat := if h.p = 0 then 0 else 1
def n (h : Sh) : Nat := 1 + h.d + h.q + h.s
def stop (h : Sh) : Nat := 1 + h.d + h.q
def po (h : Sh) : Nat := if h.p = 2 then 1 else 0
end Sh
theorem pst_none {p : Nat} (h : p ≤ 2) : decide (V.str (pst p) = V.str "none") = decide (p = 0) := by
  have : p = 0 ∨ p = 1 ∨ p = 2 := by omega
  rcases this with rfl | rfl | rfl <;> decide
theorem pst_odd {p : Nat} (h : p ≤ 2) : decide (V.str (pst p) = V.str "odd") = decide (p = 2) := by
  have : p = 0 ∨ p = 1 ∨ p = 2 := by omega
  rcases this with rfl | rfl | rfl <;> decide
theorem pst_even {p : Nat} (h : p ≤ 2) : decide (V.str (pst p) = V.str "even") = decide (p = 1) := by
  have : p = 0 ∨ p = 1 ∨ p = 2 := by omega
  rcases this with rfl | rfl | rfl <;> decide
structure Rc where
  g : Nat
  w : Nat
  st : Nat
namespace Rc
def vs (r : Rc) : List V := [.int r.g, .int r.w, .int r.st]
structure Ok (r : Rc) : Prop where
  g1 : 1 ≤ r.g
  s1 : 1 ≤ r.st
  big : r.g < 2 ^ 60
  bw : r.w < 2 ^ 60
  bs : r.st < 2 ^ 60
def look (r : Rc) (start : Int) (j : Nat) : Int := start + r.g * (r.w + r.st * j)
end Rc
def bit (N i : Nat) : Nat := N / 2 ^ i % 2
def ones (d N : Nat) : Nat := ((List.range d).map fun i => bit N i).sum
/-- the parity level of a number (with a parity) -/
def plv (h : Sh) (N : Nat) : Nat := (ones h.d N + h.po) % 2
/-- the j-th level of N's frame -/
def fl (h : Sh) (N j : Nat) : Nat := if j = 0 then 0 else if j ≤ h.d then bit N (j - 1) else if j < h.stop then plv h N else 1
/-- how many of the changes are at t or before -/
def cnt : List Int → Int → Nat
  | [], _ => 0
  | a :: r, t => if a ≤ t then cnt r t + 1 else 0
abbrev Inc (ch : List Int) : Prop := ch.Pairwise (· < ·)
theorem cnt_le : ∀ (ch : List Int) (t : Int), cnt ch t ≤ ch.length
  | [], _ => Nat.le_refl _
  | a :: r, t => by
    have := cnt_le r t
    unfold cnt
    split
    · show _ ≤ r.length + 1
      omega
    · exact Nat.zero_le _
theorem cnt_of_lt : ∀ {ch : List Int} {t : Int}, (∀ x ∈ ch, t < x) → cnt ch t = 0
  | [], _, _ => rfl
  | a :: r, t, h => by
    unfold cnt
    rw [if_neg]
    have := h a (List.mem_cons_self ..)
    omega
theorem cnt_iff : ∀ {ch : List Int} {t : Int} {i : Nat} {x : Int}, Inc ch → ch[i]? = some x → (x ≤ t ↔ i < cnt ch t)
  | [], _, _, _, _, h => by simp at h
  | a :: r, t, 0, x, hi, h => by
    have e : a = x := by simpa using h
    subst e
    unfold cnt
    split
    · exact ⟨fun _ => by omega, fun _ => by assumption⟩
    · exact ⟨fun z => by omega, fun z => by omega⟩
  | a :: r, t, i + 1, x, hi, h => by
    have h' : r[i]? = some x := by simpa using h
    have hr := (List.pairwise_cons.mp hi)
    have ih := cnt_iff (t := t) hr.2 h'
    unfold cnt
    split
    · rw [ih]
      omega
    · have := hr.1 x (List.mem_of_getElem? h')
      exact ⟨fun z => by omega, fun z => by omega⟩
def lookFrom (r : Rc) (phase t : Int) : Int := if t ≤ phase then phase else phase + r.g * ((t - phase + r.g - 1) / r.g)
/-- how the machine reads the line: from a look, the numbers, in so many turns -/
inductive Rdg (h : Sh) (r : Rc) (ch : List Int) (phase : Int) : Nat → Int → List Nat → Prop
  | stop {m : Nat} {look : Int} : cnt ch look = ch.length → cnt ch look % 2 = 0 → Rdg h r ch phase m look []
  | skip {m : Nat} {look t : Int} {ns : List Nat} : cnt ch look % 2 = 0 → ch[cnt ch look]? = some t → Rdg h r ch phase m (lookFrom r phase t) ns → Rdg h r ch phase (m + 1) look ns
  | frame {m : Nat} {look : Int} {N : Nat} {ns : List Nat} : N < 2 ^ h.d → cnt ch look % 2 = 1 → (∀ j, j < h.n → (cnt ch (r.look look j) + 1) % 2 = fl h N j) → Rdg h r ch phase m (r.look look (h.n - 1) + r.g) ns → Rdg h r ch phase (m + 1) look (N :: ns)
end K89

set_option maxRecDepth 100000
set_option maxHeartbeats 2000000
namespace K89
open PySem PySem.Spec PyProof.Rows L2
theorem sc_is_integer : FnScope ["value"] ["value"] (defScope s_is_integer) := ⟨rfl, rfl, rfl, by decide +kernel, rfl, by decide +kernel, by decide +kernel⟩
theorem sc_is_at_least : FnScope ["value", "least"] ["value", "least"] (defScope s_is_at_least) := ⟨rfl, rfl, rfl, by decide +kernel, rfl, by decide +kernel, by decide +kernel⟩
theorem sc_frame_size : FnScope ["shape"] ["shape"] (defScope s_frame_size) := ⟨rfl, rfl, rfl, by decide +kernel, rfl, by decide +kernel, by decide +kernel⟩
theorem sc_first_stop : FnScope ["shape"] ["shape"] (defScope s_first_stop) := ⟨rfl, rfl, rfl, by decide +kernel, rfl, by decide +kernel, by decide +kernel⟩
section
variable {P : Program} {w : World} {K : PySem.W.Frag} {mg : PySem.Str → Option Value} {base : Heap}
def sp_is_integer : Sp := fun vs H Q _ => ∃ i : Int, vs = [.int i] ∧ Q (.bl true) H
theorem ok_is_integer (T : Tx K mg) : Good P w K mg base "is_integer" 1 ["value"] [] sp_is_integer := by
  refine mkGood T.f_is_integer T.g_is_integer sc_is_integer (fun _ _ _ _ _ _ us hl => match us, hl with | [_], _ => rfl) (fun vs H Q E h => by obtain ⟨_, rfl, _⟩ := h; rfl) (fun cdv A outer s H vs Q E hr h => ?_)
  obtain ⟨i, rfl, q⟩ := h
  refine ⟨_, (pss_one (ps_ret (pe_and (pe_callB call_isi (by rfl) T.n_isinstance bt_isinstance (pa_cons (pv 0) (pa_cons (pe_bltn (v := .ty "int") (by rfl) T.n_int bt_int rfl) pa_nil))) (pe_one (pe_not (pe_callB call_isi (by rfl) T.n_isinstance bt_isinstance (pa_cons (pv 0) (pa_cons (pe_bltn (v := .ty "bool") (by rfl) T.n_bool bt_bool rfl) pa_nil)))))))), ?_⟩
  refine ⟨_, rfl, _, _, _, _, _, rfl, .ty _, .base (.int i), kit_ty (by decide +kernel), true, rfl, ?_⟩
  refine iteT ⟨_, rfl, _, _, _, _, _, rfl, .ty _, .base (.int i), kit_ty (by decide +kernel), false, rfl, q⟩
def sp_is_at_least : Sp := fun vs H Q _ => ∃ i l : Int, vs = [.int i, .int l] ∧ Q (.bl (decide (l ≤ i))) H
theorem ok_is_at_least (T : Tx K mg) : Good P w K mg base "is_at_least" 2 ["value", "least"] [] sp_is_at_least := by
  refine mkGood T.f_is_at_least T.g_is_at_least sc_is_at_least (fun _ _ _ _ _ _ us hl => match us, hl with | [_, _], _ => rfl) (fun vs H Q E h => by obtain ⟨_, _, rfl, _⟩ := h; rfl) (fun cdv A outer s H vs Q E hr h => ?_)
  obtain ⟨i, l, rfl, q⟩ := h
  refine ⟨_, (pss_one (ps_ret (pe_and (pe_go (ok_is_integer T) hr (pa_cons (pv 0) pa_nil)) (pe_one (pe_cmpR op_ge (pv 0) (pv 1) (nomark _)))))), ?_⟩
  exact ⟨_, rfl, i, rfl, true, rfl, iteT ⟨_, rfl, _, rfl, _, _, rfl, rfl, q⟩⟩
/-- one shape, in the heap -/
def sp_shN (f : Sh → Nat) (K : PySem.W.Frag) : Sp := fun vs H Q _ => ∃ (a : Addr) (h : Sh), vs = [.ref a] ∧ SqT K H a h.vs ∧ h.Ok ∧ Q (.int (f h : Nat)) H
theorem ok_frame_size (T : Tx K mg) : Good P w K mg base "frame_size" 1 ["shape"] [] (sp_shN Sh.n K) := by
  refine mkGood T.f_frame_size T.g_frame_size sc_frame_size (fun _ _ _ _ _ _ us hl => match us, hl with | [_], _ => rfl) (fun vs H Q E h => by obtain ⟨_, _, rfl, _⟩ := h; rfl) (fun cdv A outer s H vs Q E hr h => ?_)
  obtain ⟨a, h, rfl, hs, ok, q⟩ := h
  refine ⟨_, (pss_one (ps_ret (pe_op op_add (pe_op op_add (pe_op op_add pe_int (pe_ix ix_tup (pv 0) pe_int (fun _ _ => rfl))) (pe_callTy call_int1 (by rfl) T.n_int bt_int (pa_cons (pe_cmpR op_ne (pe_ix ix_tup (pv 0) pe_int (fun _ _ => rfl)) pe_str (nomark _)) pa_nil))) (pe_ix ix_tup (pv 0) pe_int (fun _ _ => rfl))))), ?_⟩
  refine ⟨_, rfl, _, _, _, _, rfl, rfl, hs, rfl, 1, h.d, rfl, rfl, _, rfl, _, _, _, _, rfl, rfl, hs, rfl, rfl, .inr ⟨_, rfl, _, _, rfl, rfl, _, rfl, _, _, _, _, rfl, rfl, hs, rfl, _, _, rfl, rfl, ?_⟩⟩
  rw [pst_none ok.p2]
  refine cast ?_ q
  congr 2
  unfold Sh.n Sh.q
  by_cases e : h.p = 0 <;> simp [e] <;> omega
theorem ok_first_stop (T : Tx K mg) : Good P w K mg base "first_stop" 2 ["shape"] [] (sp_shN Sh.stop K) := by
  refine mkGood T.f_first_stop T.g_first_stop sc_first_stop (fun _ _ _ _ _ _ us hl => match us, hl with | [_], _ => rfl) (fun vs H Q E h => by obtain ⟨_, _, rfl, _⟩ := h; rfl) (fun cdv A outer s H vs Q E hr h => ?_)
  obtain ⟨a, h, rfl, hs, ok, q⟩ := h
  refine ⟨_, (pss_one (ps_ret (pe_op op_sub (pe_go (ok_frame_size T) hr (pa_cons (pv 0) pa_nil)) (pe_ix ix_tup (pv 0) pe_int (fun _ _ => rfl))))), ?_⟩
  refine ⟨_, rfl, _, _, rfl, hs, ok, _, rfl, _, _, _, _, rfl, rfl, hs, rfl, _, _, rfl, rfl, ?_⟩
  refine cast ?_ q
  congr 2
  unfold Sh.n Sh.stop
  omega
end
end K89

set_option maxRecDepth 100000
set_option maxHeartbeats 2000000
namespace K89
open PySem PySem.Spec PyProof.Rows L2
theorem sc_parity_level : FnScope ["shape", "number", "ones", "place"] ["shape", "number"] (defScope s_parity_level) := ⟨rfl, rfl, rfl, by decide +kernel, rfl, by decide +kernel, by decide +kernel⟩
theorem sc_fits_shape : FnScope ["shape", "value"] ["shape", "value"] (defScope s_fits_shape) := ⟨rfl, rfl, rfl, by decide +kernel, rfl, by decide +kernel, by decide +kernel⟩
theorem sc_shape_fault : FnScope ["value"] ["value"] (defScope s_shape_fault) := ⟨rfl, rfl, rfl, by decide +kernel, rfl, by decide +kernel, by decide +kernel⟩
theorem sc_receiver_fault : FnScope ["value", "index", "least"] ["value"] (defScope s_receiver_fault) := ⟨rfl, rfl, rfl, by decide +kernel, rfl, by decide +kernel, by decide +kernel⟩
theorem sc_signal_fault : FnScope ["value", "most", "index", "tick"] ["value", "most"] (defScope s_signal_fault) := ⟨rfl, rfl, rfl, by decide +kernel, rfl, by decide +kernel, by decide +kernel⟩
theorem sc_require_shape : FnScope ["shape", "fault"] ["shape"] (defScope s_require_shape) := ⟨rfl, rfl, rfl, by decide +kernel, rfl, by decide +kernel, by decide +kernel⟩
theorem sc_require_receiver : FnScope ["receiver", "fault"] ["receiver"] (defScope s_require_receiver) := ⟨rfl, rfl, rfl, by decide +kernel, rfl, by decide +kernel, by decide +kernel⟩
theorem sc_require_length : FnScope ["length"] ["length"] (defScope s_require_length) := ⟨rfl, rfl, rfl, by decide +kernel, rfl, by decide +kernel, by decide +kernel⟩
theorem sc_require_span : FnScope ["low", "high"] ["low", "high"] (defScope s_require_span) := ⟨rfl, rfl, rfl, by decide +kernel, rfl, by decide +kernel, by decide +kernel⟩
theorem sc_require_any_phase : FnScope ["phase"] ["phase"] (defScope s_require_any_phase) := ⟨rfl, rfl, rfl, by decide +kernel, rfl, by decide +kernel, by decide +kernel⟩
theorem tyx_tup {K : PySem.W.Frag} {H : Hp} {a : Addr} {xs : List V} (h : SqT K H a xs) : TyX K H (.ref a) (.type "tuple") := by
  rcases h with (h | ⟨o, h⟩) | ⟨o, its, n, h, c, _⟩
  · exact .base (.tup h)
  · exact .fTuple h
  · exact .kTuple h c
theorem tyx_list {K : PySem.W.Frag} {H : Hp} {a : Addr} {xs : List V} (h : SqL K H a xs) : TyX K H (.ref a) (.type "list") := by
  rcases h with (h | ⟨o, h⟩) | ⟨o, its, n, h, c, _⟩
  · exact .base (.lst h)
  · exact .base (.frz h)
  · exact .kList h c
theorem take_map_succ {α β : Type} {l : List α} {f : α → β} {i : Nat} {x : α} (h : l[i]? = some x) : (l.take i).map f ++ [f x] = (l.take (i + 1)).map f := by
  rw [List.take_add_one, h]
  simp
section
variable {P : Program} {w : World} {K : PySem.W.Frag} {mg : PySem.Str → Option Value} {base : Heap}
def sp_parity_level (K : PySem.W.Frag) : Sp := fun vs H Q _ => ∃ (a : Addr) (h : Sh) (N : Nat), vs = [.ref a, .int (N : Nat)] ∧ SqT K H a h.vs ∧ h.Ok ∧ ∀ H', Same H H' → Q (if h.p = 0 then .non else .int (plv h N : Nat)) H'
theorem ok_parity_level (T : Tx K mg) : Good P w K mg base "parity_level" 1 ["shape", "number"] [] (sp_parity_level K) := by
  refine mkGood T.f_parity_level T.g_parity_level sc_parity_level (fun _ _ _ _ _ _ us hl => match us, hl with | [_, _], _ => rfl) (fun vs H Q E h => by obtain ⟨_, _, _, rfl, _⟩ := h; rfl) (fun cdv A outer s H vs Q E hr h => ?_)
  obtain ⟨a, h, N, rfl, hs, ok, q⟩ := h
  refine ⟨_, (pss_cons (ps_if (pt_cmpR op_eq (pe_ix ix_tup (pv 0) pe_int (fun _ _ => rfl)) pe_str (nomark _))
    (pss_one (ps_ret pe_non)) pss_nil)
    (pss_cons (ps_set (i := 2) sc_parity_level.nd rfl (by first | exact .inl rfl | exact .inr rfl) (pe_callB (cr_sum rfl) (by rfl) T.n_sum bt_sum (pa_cons (pe_lc rfl sc_parity_level.nd (pi_range1 (by rfl) T.n_range (pa_cons (pe_ix ix_tup (pv 0) pe_int (fun _ _ => rfl)) pa_nil)) (show BlkOk ["shape", "number", "ones", "place"] (defScope s_parity_level) _ [("place", 3)] from blkOk_by (by decide +kernel)) (fun _ _ _ _ _ => (pg_name (i := 3) sc_parity_level.nd rfl (by first | exact .inl rfl | exact .inr rfl))) (fun _ _ _ _ _ => pts_nil) (fun _ _ _ _ _ => (pe_op op_and (pe_op op_shr (pv 1) (pv 3)) pe_int))) pa_nil)))
    (pss_one (ps_ret (pe_op op_mod (pe_op op_add (pv 2) (pe_callTy call_int1 (by rfl) T.n_int bt_int (pa_cons (pe_cmpR op_eq (pe_ix ix_tup (pv 0) pe_int (fun _ _ => rfl)) pe_str (nomark _)) pa_nil))) pe_int))))), ?_⟩
  refine ⟨_, rfl, _, _, _, _, rfl, rfl, hs, rfl, rfl, _, rfl, ?_⟩
  rw [pst_none ok.p2]
  refine ite2 (fun e => ?_) (fun e => ?_)
  · rw [if_pos (of_decide_eq_true e)] at q
    exact q H (.refl H)
  · have e0 : h.p ≠ 0 := fun z => e (decide_eq_true z)
    rw [if_neg e0] at q
    refine ⟨_, rfl, _, _, _, _, rfl, rfl, hs, rfl, h.d, rfl, by have := ok.d9; omega, by have := ok.d9; omega, fun D nD => ?_⟩
    refine cw_range (fun i H' => Same H H' ∧ H' D = some (.lst ((List.range i).map fun j => .int (bit N j : Nat)))) ⟨Same.up nD, upd_same⟩ (fun i H' hi hp => ?_) (fun H' hp => ?_)
    · obtain ⟨sm, hd⟩ := hp
      refine ⟨rfl, _, rfl, _, rfl, _, _, rfl, rfl, by omega, _, _, rfl, rfl, _, hd, small_len (n := 100) (by have := ok.d9; simp; omega), ?_⟩
      refine ⟨fun b o e => ?_, ?_⟩
      · rw [upd_ne (ne_of_none e nD)]
        exact sm b o e
      · rw [upd_same, List.range_succ, List.map_append]
        congr 4
        show V.int (Builtin.bitAnd _ 1) = _
        rw [bitAnd_m1]
        unfold bit
        simp
    · obtain ⟨sm, hd⟩ := hp
      rw [Int.toNat_natCast] at hd
      refine ⟨D, (List.range h.d).map fun j => (bit N j : Int), rfl, .inl (.inl (by rw [hd, List.map_map]; rfl)), ?_⟩
      refine ⟨_, rfl, _, rfl, _, _, _, _, rfl, rfl, sm.seqT hs, rfl, rfl, .inr ⟨_, rfl, _, _, rfl, rfl, _, _, rfl, rfl, (by decide : (0 : Int) < 2), ?_⟩⟩
      rw [pst_odd ok.p2]
      refine cast ?_ (q H' sm)
      congr 2
      unfold plv ones Sh.po
      have e1 : ∀ l : List Nat, (l.map fun j => (bit N j : Int)).sum = ((l.map fun j => bit N j).sum : Nat) := by
        intro l
        induction l with
        | nil => rfl
        | cons x r ih => simp [ih]
      rw [e1]
      by_cases e : h.p = 2 <;> simp [e]
def sp_fits (K : PySem.W.Frag) : Sp := fun vs H Q _ => ∃ (a : Addr) (h : Sh) (N : Nat), vs = [.ref a, .int (N : Nat)] ∧ SqT K H a h.vs ∧ h.Ok ∧ N < 2 ^ h.d ∧ Q (.bl true) H
theorem ok_fits_shape (T : Tx K mg) : Good P w K mg base "fits_shape" 2 ["shape", "value"] [] (sp_fits K) := by
  refine mkGood T.f_fits_shape T.g_fits_shape sc_fits_shape (fun _ _ _ _ _ _ us hl => match us, hl with | [_, _], _ => rfl) (fun vs H Q E h => by obtain ⟨_, _, _, rfl, _⟩ := h; rfl) (fun cdv A outer s H vs Q E hr h => ?_)
  obtain ⟨a, h, N, rfl, hs, ok, hN, q⟩ := h
  refine ⟨_, (pss_one (ps_ret (pe_and (pe_go (ok_is_integer T) hr (pa_cons (pv 1) pa_nil)) (pe_one (pe_chain op_le op_lt pe_int (pv 1) (pe_op op_shl pe_int (pe_ix ix_tup (pv 0) pe_int (fun _ _ => rfl)))))))), ?_⟩
  refine ⟨_, rfl, _, rfl, true, rfl, iteT ⟨_, rfl, _, _, rfl, rfl, _, rfl, ?_⟩⟩
  rw [decide_eq_true (by omega : (0 : Int) ≤ N)]
  refine iteT ⟨_, rfl, _, _, _, _, rfl, rfl, hs, rfl, _, _, rfl, rfl, ⟨by omega, by have := ok.d9; omega, by decide⟩, _, _, rfl, rfl, ?_⟩
  have e : ((N : Int) < 1 * 2 ^ (h.d : Int).toNat) := by
    rw [Int.toNat_natCast, Int.one_mul]
    exact_mod_cast hN
  show Q (.bl (decide ((N : Int) < 1 * 2 ^ (h.d : Int).toNat))) H
  rw [decide_eq_true e]
  exact q
def sp_fault (vs : List V) (Ok : Prop) (K : PySem.W.Frag) (ws : List V) (H : Hp) (Q : VK) : Prop := ∃ a : Addr, ws = [.ref a] ∧ SqT K H a vs ∧ Ok ∧ ∀ H' p, Same H H' → SqT K H' p [] → Q (.ref p) H'
theorem ok_shape_fault (T : Tx K mg) : Good P w K mg base "shape_fault" 2 ["value"] [] (fun vs H Q _ => ∃ h : Sh, sp_fault h.vs h.Ok K vs H Q) := by
  refine mkGood T.f_shape_fault T.g_shape_fault sc_shape_fault (fun _ _ _ _ _ _ us hl => match us, hl with | [_], _ => rfl) (fun vs H Q E h => by obtain ⟨_, _, rfl, _⟩ := h; rfl) (fun cdv A outer s H vs Q E hr h => ?_)
  obtain ⟨h, a, rfl, hs, ok, q⟩ := h
  refine ⟨_, (pss_cons (ps_if (PW.pt (pw_or (pt_not (pt_val (pe_callB call_isi (by rfl) T.n_isinstance bt_isinstance (pa_cons (pv 0) (pa_cons (pe_bltn (v := .ty "tuple") (by rfl) T.n_tuple bt_tuple rfl) pa_nil))))) (pw_or1 (pt_cmpR op_ne (pe_callB call_len_seq (by rfl) T.n_len bt_len (pa_cons (pv 0) pa_nil)) pe_int (nomark _)))))
    (pss_one (ps_ret (pe_tup (pa_cons pe_non pa_nil)))) pss_nil)
    (pss_cons (ps_if (PW.pt (pw_or (pt_not (pt_val (pe_go (ok_is_integer T) hr (pa_cons (pe_ix ix_tup (pv 0) pe_int (fun _ _ => rfl)) pa_nil)))) (pw_or1 (pt_not (pt_chain op_le op_le pe_int (pe_ix ix_tup (pv 0) pe_int (fun _ _ => rfl)) pe_int)))))
    (pss_one (ps_ret (pe_tup (pa_cons pe_int pa_nil)))) pss_nil)
    (pss_cons (ps_if (PW.pt (pw_or (pt_not (pt_val (pe_callB call_isi (by rfl) T.n_isinstance bt_isinstance (pa_cons (pe_ix ix_tup (pv 0) pe_int (fun _ _ => rfl)) (pa_cons (pe_bltn (v := .ty "str") (by rfl) T.n_str bt_str rfl) pa_nil))))) (pw_or1 (pt_cmpR op_notIn_seq (pe_ix ix_tup (pv 0) pe_int (fun _ _ => rfl)) (pe_glob (v := .ref (ga K "PARITIES")) (by rfl) T.g_PARITIES rfl) rfl))))
    (pss_one (ps_ret (pe_tup (pa_cons pe_int pa_nil)))) pss_nil)
    (pss_cons (ps_if (PW.pt (pw_or (pt_not (pt_val (pe_go (ok_is_integer T) hr (pa_cons (pe_ix ix_tup (pv 0) pe_int (fun _ _ => rfl)) pa_nil)))) (pw_or1 (pt_not (pt_chain op_le op_le pe_int (pe_ix ix_tup (pv 0) pe_int (fun _ _ => rfl)) pe_int)))))
    (pss_one (ps_ret (pe_tup (pa_cons pe_int pa_nil)))) pss_nil)
    (pss_one (ps_ret (pe_tup pa_nil))))))), ?_⟩
  have d1 := ok.d1
  have d9 := ok.d9
  have s1 := ok.s1
  have s2 := ok.s2
  refine ⟨_, rfl, _, _, _, _, _, rfl, .ty _, tyx_tup hs, kit_ty (by decide +kernel), true, rfl, iteF ⟨_, rfl, _, _, rfl, .inr hs, rfl, false, rfl, iteF ?_⟩⟩
  refine ⟨_, rfl, _, _, _, _, rfl, rfl, hs, rfl, _, rfl, true, rfl, iteF ⟨_, rfl, _, _, _, _, rfl, rfl, hs, rfl, _, _, rfl, rfl, _, rfl, ?_⟩⟩
  rw [decide_eq_true (by omega : (1 : Int) ≤ h.d)]
  refine iteT ⟨_, _, rfl, rfl, _, rfl, ?_⟩
  rw [decide_eq_true (by omega : (h.d : Int) ≤ 9)]
  refine iteF ?_
  refine ⟨_, rfl, _, _, _, _, rfl, rfl, hs, rfl, _, _, _, _, _, rfl, .ty _, .base (.str _), kit_ty (by decide +kernel), true, rfl, iteF ⟨_, rfl, _, _, _, _, rfl, rfl, hs, rfl, _, _, rfl, .inr (T.t_PARITIES H), rfl, rfl, false, ?_, iteF ?_⟩⟩
  · have : h.p = 0 ∨ h.p = 1 ∨ h.p = 2 := by have := ok.p2; omega
    rcases this with e | e | e <;> rw [e] <;> rfl
  refine ⟨_, rfl, _, _, _, _, rfl, rfl, hs, rfl, _, rfl, true, rfl, iteF ⟨_, rfl, _, _, _, _, rfl, rfl, hs, rfl, _, _, rfl, rfl, _, rfl, ?_⟩⟩
  rw [decide_eq_true (by omega : (1 : Int) ≤ h.s)]
  refine iteT ⟨_, _, rfl, rfl, _, rfl, ?_⟩
  rw [decide_eq_true (by omega : (h.s : Int) ≤ 2)]
  refine iteF ⟨by decide, fun p np => q _ _ (Same.up np) SqT.new⟩
theorem ok_receiver_fault (T : Tx K mg) : Good P w K mg base "receiver_fault" 3 ["value"] [] (fun vs H Q _ => ∃ r : Rc, sp_fault r.vs r.Ok K vs H Q) := by
  refine mkGood T.f_receiver_fault T.g_receiver_fault sc_receiver_fault (fun _ _ _ _ _ _ us hl => match us, hl with | [_], _ => rfl) (fun vs H Q E h => by obtain ⟨_, _, rfl, _⟩ := h; rfl) (fun cdv A outer s H vs Q E hr h => ?_)
  obtain ⟨r, a, rfl, hs, ok, q⟩ := h
  refine ⟨_, (pss_cons (ps_if (PW.pt (pw_or (pt_not (pt_val (pe_callB call_isi (by rfl) T.n_isinstance bt_isinstance (pa_cons (pv 0) (pa_cons (pe_bltn (v := .ty "tuple") (by rfl) T.n_tuple bt_tuple rfl) pa_nil))))) (pw_or1 (pt_cmpR op_ne (pe_callB call_len_seq (by rfl) T.n_len bt_len (pa_cons (pv 0) pa_nil)) pe_int (nomark _)))))
    (pss_one (ps_ret (pe_tup (pa_cons pe_non pa_nil)))) pss_nil)
    (pss_cons (ps_for PassesOwn.never rfl (pi_enumT (by rfl) T.n_enumerate (pa_cons (pe_tup (pa_cons pe_int (pa_cons pe_int (pa_cons pe_int pa_nil)))) pa_nil)) (pg_tup rfl (pgs_cons (pg_name (i := 1) sc_receiver_fault.nd rfl (by first | exact .inl rfl | exact .inr rfl)) (pgs_cons (pg_name (i := 2) sc_receiver_fault.nd rfl (by first | exact .inl rfl | exact .inr rfl)) pgs_nil)))
    (pss_one (ps_if (pt_not (pt_val (pe_go (ok_is_at_least T) hr (pa_cons (pe_ix ix_tup (pv 0) (pv 1) (fun _ _ => rfl)) (pa_cons (pv 2) pa_nil)))))
    (pss_one (ps_ret (pe_tup (pa_cons (pv 1) pa_nil)))) pss_nil)))
    (pss_one (ps_ret (pe_tup pa_nil))))), ?_⟩
  have g1 := ok.g1
  have s1 := ok.s1
  refine ⟨_, rfl, _, _, _, _, _, rfl, .ty _, tyx_tup hs, kit_ty (by decide +kernel), true, rfl, iteF ⟨_, rfl, _, _, rfl, .inr hs, rfl, false, rfl, iteF ?_⟩⟩
  refine ⟨by decide, fun t nt => ⟨t, _, rfl, SqT.new, ?_⟩⟩
  refine for_enumT (xs := [.int 1, .int 0, .int 1]) (fun i σ H' => ∃ x y, σ = [some (.ref a), x, y] ∧ Same H H' ∧ H' t = some (.tup [.int 1, .int 0, .int 1])) ⟨none, none, rfl, Same.up nt, upd_same⟩ (fun i σ H' _ hp => ?_) (fun i x σ H' T' hx nT hp => ?_) (fun σ H' hp => ?_)
  · obtain ⟨_, _, _, _, e⟩ := hp
    exact .inl (.inl e)
  · obtain ⟨y1, y2, rfl, sm, e⟩ := hp
    have sm2 := sm.trans (Same.up (o := .tup [.int (i : Nat), x]) nT)
    refine ⟨T', _, rfl, SqT.new, rfl, _, _, rfl, _, _, rfl, rfl, ?_⟩
    have key : ∃ z l : Int, r.vs[i]? = some (.int z) ∧ x = .int l ∧ l ≤ z := by
      match i, hx with
      | 0, hx => exact ⟨_, 1, rfl, (Option.some.inj hx).symm, by omega⟩
      | 1, hx => exact ⟨_, 0, rfl, (Option.some.inj hx).symm, by omega⟩
      | 2, hx => exact ⟨_, 1, rfl, (Option.some.inj hx).symm, by omega⟩
      | i + 3, hx => simp at hx
    obtain ⟨z, l, e1, rfl, e3⟩ := key
    refine ⟨_, rfl, _, rfl, _, _, _, _, rfl, rfl, sm2.seqT hs, atI_nat e1, _, rfl, z, l, rfl, ?_⟩
    rw [decide_eq_true e3]
    exact ⟨true, rfl, iteF ⟨_, _, rfl, sm2, by rw [upd_ne (ne_of_none e nT)]; exact e⟩⟩
  · obtain ⟨y1, y2, rfl, sm, e⟩ := hp
    exact ⟨by decide, fun p np => q _ _ (sm.trans (Same.up np)) SqT.new⟩
/-- fault != () is not so -/
theorem ne_empty {K : PySem.W.Frag} {H : Hp} {p t : Addr} {Q : VK} (h1 : SqT K H p []) (h2 : SqT K H t []) (q : Q (.bl false) H) : rNeD K (.ref p) (.ref t) H Q :=
  ⟨.tuple [], .tuple [], .tup h1 .nil, .tup h2 .nil, rfl, rfl, q⟩
theorem ok_require_shape (T : Tx K mg) : Good P w K mg base "require_shape" 3 ["shape"] [] (fun vs H Q _ => ∃ (a : Addr) (h : Sh), vs = [.ref a] ∧ SqT K H a h.vs ∧ h.Ok ∧ ∀ H', Same H H' → Q .non H') := by
  refine mkGood T.f_require_shape T.g_require_shape sc_require_shape (fun _ _ _ _ _ _ us hl => match us, hl with | [_], _ => rfl) (fun vs H Q E h => by obtain ⟨_, _, rfl, _⟩ := h; rfl) (fun cdv A outer s H vs Q E hr h => ?_)
  obtain ⟨a, h, rfl, hs, ok, q⟩ := h
  refine ⟨_, (pss_cons (ps_set (i := 1) sc_require_shape.nd rfl (by first | exact .inl rfl | exact .inr rfl) (pe_go (ok_shape_fault T) hr (pa_cons (pv 0) pa_nil)))
    (pss_one (ps_if (pt_cmpR (op_neD hr.units) (pv 1) (pe_tup pa_nil) (nomark _))
    (pss_one ps_never) pss_nil))), ?_⟩
  refine ⟨_, rfl, h, a, rfl, hs, ok, fun H' p sm hp => ?_⟩
  refine ⟨_, rfl, by decide, fun t nt => ne_empty (hp.up nt) SqT.new ⟨_, rfl, iteF (q _ (sm.trans (Same.up nt)))⟩⟩
theorem ok_require_receiver (T : Tx K mg) : Good P w K mg base "require_receiver" 4 ["receiver"] [] (fun vs H Q _ => ∃ (a : Addr) (r : Rc), vs = [.ref a] ∧ SqT K H a r.vs ∧ r.Ok ∧ ∀ H', Same H H' → Q .non H') := by
  refine mkGood T.f_require_receiver T.g_require_receiver sc_require_receiver (fun _ _ _ _ _ _ us hl => match us, hl with | [_], _ => rfl) (fun vs H Q E h => by obtain ⟨_, _, rfl, _⟩ := h; rfl) (fun cdv A outer s H vs Q E hr h => ?_)
  obtain ⟨a, h, rfl, hs, ok, q⟩ := h
  refine ⟨_, (pss_cons (ps_set (i := 1) sc_require_receiver.nd rfl (by first | exact .inl rfl | exact .inr rfl) (pe_go (ok_receiver_fault T) hr (pa_cons (pv 0) pa_nil)))
    (pss_one (ps_if (pt_cmpR (op_neD hr.units) (pv 1) (pe_tup pa_nil) (nomark _))
    (pss_one ps_never) pss_nil))), ?_⟩
  refine ⟨_, rfl, h, a, rfl, hs, ok, fun H' p sm hp => ?_⟩
  refine ⟨_, rfl, by decide, fun t nt => ne_empty (hp.up nt) SqT.new ⟨_, rfl, iteF (q _ (sm.trans (Same.up nt)))⟩⟩
theorem ok_require_length (T : Tx K mg) : Good P w K mg base "require_length" 3 ["length"] [] (fun vs H Q _ => ∃ i : Int, vs = [.int i] ∧ 1 ≤ i ∧ Q .non H) := by
  refine mkGood T.f_require_length T.g_require_length sc_require_length (fun _ _ _ _ _ _ us hl => match us, hl with | [_], _ => rfl) (fun vs H Q E h => by obtain ⟨_, rfl, _⟩ := h; rfl) (fun cdv A outer s H vs Q E hr h => ?_)
  obtain ⟨i, rfl, hi, q⟩ := h
  refine ⟨_, (pss_one (ps_if (pt_not (pt_val (pe_go (ok_is_at_least T) hr (pa_cons (pv 0) (pa_cons pe_int pa_nil)))))
    (pss_one ps_never) pss_nil)), ?_⟩
  refine ⟨_, rfl, i, 1, rfl, ?_⟩
  rw [decide_eq_true hi]
  exact ⟨true, rfl, iteF q⟩
theorem ok_require_span (T : Tx K mg) : Good P w K mg base "require_span" 4 ["low", "high"] [] (fun vs H Q _ => ∃ i j : Int, vs = [.int i, .int j] ∧ 1 ≤ i ∧ i ≤ j ∧ Q .non H) := by
  refine mkGood T.f_require_span T.g_require_span sc_require_span (fun _ _ _ _ _ _ us hl => match us, hl with | [_, _], _ => rfl) (fun vs H Q E h => by obtain ⟨_, _, rfl, _⟩ := h; rfl) (fun cdv A outer s H vs Q E hr h => ?_)
  obtain ⟨i, j, rfl, hi, hj, q⟩ := h
  refine ⟨_, (pss_cons (ps_expr (pe_go (ok_require_length T) hr (pa_cons (pv 0) pa_nil)))
    (pss_one (ps_if (pt_not (pt_val (pe_go (ok_is_at_least T) hr (pa_cons (pv 1) (pa_cons (pv 0) pa_nil)))))
    (pss_one ps_never) pss_nil))), ?_⟩
  refine ⟨_, rfl, i, rfl, hi, _, rfl, _, rfl, j, i, rfl, ?_⟩
  rw [decide_eq_true hj]
  exact ⟨true, rfl, iteF q⟩
theorem ok_require_any_phase (T : Tx K mg) : Good P w K mg base "require_any_phase" 2 ["phase"] [] (fun vs H Q _ => ∃ i : Int, vs = [.int i] ∧ Q .non H) := by
  refine mkGood T.f_require_any_phase T.g_require_any_phase sc_require_any_phase (fun _ _ _ _ _ _ us hl => match us, hl with | [_], _ => rfl) (fun vs H Q E h => by obtain ⟨_, rfl, _⟩ := h; rfl) (fun cdv A outer s H vs Q E hr h => ?_)
  obtain ⟨i, rfl, q⟩ := h
  refine ⟨_, (pss_one (ps_if (pt_not (pt_val (pe_go (ok_is_integer T) hr (pa_cons (pv 0) pa_nil))))
    (pss_one ps_never) pss_nil)), ?_⟩
  exact ⟨_, rfl, i, rfl, true, rfl, iteF q⟩
end
end K89

set_option maxRecDepth 100000
set_option maxHeartbeats 2000000
namespace K89
open PySem PySem.Spec PyProof.Rows L2
theorem sc_require_signal : FnScope ["signal", "most", "fault"] ["signal", "most"] (defScope s_require_signal) := ⟨rfl, rfl, rfl, by decide +kernel, rfl, by decide +kernel, by decide +kernel⟩
theorem sc_require_text : FnScope ["shape", "numbers", "least", "most", "index", "number"] ["shape", "numbers", "least", "most"] (defScope s_require_text) := ⟨rfl, rfl, rfl, by decide +kernel, rfl, by decide +kernel, by decide +kernel⟩
abbrev zv (l : List Int) : List V := l.map V.int
abbrev iv (l : List Nat) : List V := l.map fun N => V.int (N : Nat)
theorem inc_at {ch : List Int} (h : Inc ch) {i j : Nat} {x y : Int} (hx : ch[i]? = some x) (hy : ch[j]? = some y) (hij : i < j) : x < y := by
  obtain ⟨h1, e1⟩ := List.getElem?_eq_some_iff.mp hx
  obtain ⟨h2, e2⟩ := List.getElem?_eq_some_iff.mp hy
  rw [← e1, ← e2]
  exact List.pairwise_iff_getElem.mp h i j h1 h2 hij
theorem atZ {ch : List Int} {i : Nat} {x : V} (h : (zv ch)[i]? = some x) : ∃ z, x = .int z ∧ ch[i]? = some z := by
  rw [List.getElem?_map] at h
  cases q : ch[i]? with
  | none => rw [q] at h; cases h
  | some z => rw [q] at h; exact ⟨z, (Option.some.inj h).symm, rfl⟩
theorem toZ {ch : List Int} {i : Nat} {z : Int} (h : ch[i]? = some z) : (zv ch)[i]? = some (.int z) := by
  rw [List.getElem?_map, h]
  rfl
theorem atN {ns : List Nat} {i : Nat} {x : V} (h : (iv ns)[i]? = some x) : ∃ N : Nat, x = .int (N : Nat) ∧ ns[i]? = some N := by
  rw [List.getElem?_map] at h
  cases q : ns[i]? with
  | none => rw [q] at h; cases h
  | some z => rw [q] at h; exact ⟨z, (Option.some.inj h).symm, rfl⟩
theorem toN {ns : List Nat} {i : Nat} {z : Nat} (h : ns[i]? = some z) : (iv ns)[i]? = some (.int (z : Nat)) := by
  rw [List.getElem?_map, h]
  rfl
section
variable {P : Program} {w : World} {K : PySem.W.Frag} {mg : PySem.Str → Option Value} {base : Heap}
theorem ok_signal_fault (T : Tx K mg) : Good P w K mg base "signal_fault" 2 ["value", "most"] [] (fun vs H Q _ => ∃ (a : Addr) (ch : List Int) (m : Nat), vs = [.ref a, .int (m : Nat)] ∧ SqL K H a (zv ch) ∧ Inc ch ∧ ch.length ≤ m ∧ ∀ H' p, Same H H' → SqT K H' p [] → Q (.ref p) H') := by
  refine mkGood T.f_signal_fault T.g_signal_fault sc_signal_fault (fun _ _ _ _ _ _ us hl => match us, hl with | [_, _], _ => rfl) (fun vs H Q E h => by obtain ⟨_, _, _, rfl, _⟩ := h; rfl) (fun cdv A outer s H vs Q E hr h => ?_)
  obtain ⟨a, ch, m, rfl, hs, hi, hm, q⟩ := h
  refine ⟨_, (pss_cons (ps_if (PW.pt (pw_or (pt_not (pt_val (pe_callB call_isi (by rfl) T.n_isinstance bt_isinstance (pa_cons (pv 0) (pa_cons (pe_bltn (v := .ty "list") (by rfl) T.n_list bt_list rfl) pa_nil))))) (pw_or1 (pt_cmpR op_gt (pe_callB call_len_seq (by rfl) T.n_len bt_len (pa_cons (pv 0) pa_nil)) (pv 1) (nomark _)))))
    (pss_one (ps_ret (pe_tup (pa_cons pe_non pa_nil)))) pss_nil)
    (pss_cons (ps_for PassesOwn.never rfl (pi_enum (by rfl) T.n_enumerate (pa_cons (pv 0) pa_nil)) (pg_tup rfl (pgs_cons (pg_name (i := 2) sc_signal_fault.nd rfl (by first | exact .inl rfl | exact .inr rfl)) (pgs_cons (pg_name (i := 3) sc_signal_fault.nd rfl (by first | exact .inl rfl | exact .inr rfl)) pgs_nil)))
    (pss_one (ps_if (PW.pt (pw_or (pt_not (pt_val (pe_go (ok_is_integer T) hr (pa_cons (pv 3) pa_nil)))) (pw_or1 (PW.pt (pw_and (pt_cmpR op_gt (pv 2) pe_int (nomark _)) (pw_and1 (pt_cmpR op_le (pv 3) (pe_ix ix_list (pv 0) (pe_op op_sub (pv 2) pe_int) (fun _ _ => rfl)) (nomark _))))))))
    (pss_one (ps_ret (pe_tup (pa_cons (pv 2) pa_nil)))) pss_nil)))
    (pss_one (ps_ret (pe_tup pa_nil))))), ?_⟩
  refine ⟨_, rfl, _, _, _, _, _, rfl, .ty _, tyx_list hs, kit_ty (by decide +kernel), true, rfl, iteF ⟨_, rfl, _, _, rfl, .inl hs, _, rfl, _, _, rfl, rfl, _, rfl, ?_⟩⟩
  rw [decide_eq_false (by rw [List.length_map]; omega)]
  refine iteF ⟨_, rfl, a, _, rfl, hs, ?_⟩
  refine for_enum (xs := zv ch) (fun i σ H' => ∃ x y, σ = [some (.ref a), some (.int (m : Nat)), x, y] ∧ Same H H') ⟨none, none, rfl, .refl H⟩ (fun i σ H' _ hp => ?_) (fun i x σ H' t hx nT hp => ?_) (fun σ H' hp => ?_)
  · obtain ⟨_, _, _, sm⟩ := hp
    exact sm.seq hs
  · obtain ⟨y1, y2, rfl, sm⟩ := hp
    have sm2 := sm.trans (Same.up (o := .tup [.int (i : Nat), x]) nT)
    obtain ⟨z, rfl, ez⟩ := atZ hx
    refine ⟨t, _, rfl, SqT.new, rfl, _, _, rfl, _, _, rfl, rfl, ?_⟩
    refine ⟨_, rfl, z, rfl, true, rfl, iteF ⟨_, rfl, _, _, rfl, rfl, _, rfl, ite2 (fun e => ?_) (fun e => ?_)⟩⟩
    · have e0 : 0 < i := by have := of_decide_eq_true e; omega
      obtain ⟨j, rfl⟩ : ∃ j, i = j + 1 := ⟨i - 1, by omega⟩
      have hj : j < ch.length := by
        have := (List.getElem?_eq_some_iff.mp ez).1
        omega
      have ej : ch[j]? = some ch[j] := List.getElem?_eq_getElem hj
      refine ⟨_, rfl, _, rfl, _, rfl, _, _, rfl, rfl, _, _, _, _, rfl, rfl, sm2.seq hs, at_of (j := j) (by omega) (toZ ej), _, _, rfl, rfl, _, rfl, ?_⟩
      rw [decide_eq_false (by have := inc_at hi ej ez (by omega); omega)]
      exact iteF ⟨_, _, rfl, sm2⟩
    · exact iteF ⟨_, _, rfl, sm2⟩
  · obtain ⟨y1, y2, rfl, sm⟩ := hp
    exact ⟨by decide, fun p np => q _ _ (sm.trans (Same.up np)) SqT.new⟩
def sp_require_signal (K : PySem.W.Frag) : Sp := fun vs H Q _ => ∃ (a : Addr) (ch : List Int) (m : Nat), vs = [.ref a, .int (m : Nat)] ∧ SqL K H a (zv ch) ∧ Inc ch ∧ ch.length ≤ m ∧ ∀ H', Same H H' → Q .non H'
theorem body_require_signal (T : Tx K mg) : BodyOk P w K mg base ["signal", "most", "fault"] "require_signal" s_require_signal (ga K "require_signal") 2 (sp_require_signal K) := fun cdv A outer s H vs Q E hr h => by
  obtain ⟨a, ch, m, rfl, hs, hi, hm, q⟩ := h
  refine ⟨_, (pss_cons (ps_set (i := 2) sc_require_signal.nd rfl (by first | exact .inl rfl | exact .inr rfl) (pe_go (ok_signal_fault T) hr (pa_cons (pv 0) (pa_cons (pv 1) pa_nil))))
    (pss_one (ps_if (pt_cmpR (op_neD hr.units) (pv 2) (pe_tup pa_nil) (nomark _))
    (pss_one ps_never) pss_nil))), ?_⟩
  refine ⟨_, rfl, _, rfl, a, ch, m, rfl, hs, hi, hm, fun H' p sm hp => ?_⟩
  refine ⟨_, rfl, by decide, fun t nt => ne_empty (hp.up nt) SqT.new ⟨_, rfl, iteF (q _ (sm.trans (Same.up nt)))⟩⟩
theorem ok_require_signal1 (T : Tx K mg) : Good P w K mg base "require_signal" 3 ["signal", "most"] [.int 800] (sp_require_signal K) :=
  mkGoodD (n := 1) (j := 0) T.f_require_signal T.g_require_signal sc_require_signal (by simp) rfl (fun _ _ _ _ _ _ _ us its hu hi => match us, its, hu, hi with | [_], [_], _, _ => ⟨_, rfl, rfl⟩)
    (fun vs H Q E h => by obtain ⟨_, _, _, rfl, _⟩ := h; rfl) (body_require_signal T)
theorem ok_require_signal (T : Tx K mg) : Good P w K mg base "require_signal" 3 ["signal", "most"] [] (sp_require_signal K) :=
  mkGoodD (n := 2) (j := 1) T.f_require_signal T.g_require_signal sc_require_signal (by simp) rfl (fun _ _ _ _ _ _ _ us its hu hi => match us, its, hu, hi with | [_, _], [_], _, _ => ⟨_, rfl, rfl⟩)
    (fun vs H Q E h => by obtain ⟨_, _, _, rfl, _⟩ := h; rfl) (body_require_signal T)
def sp_require_text (K : PySem.W.Frag) : Sp := fun vs H Q _ => ∃ (a b : Addr) (h : Sh) (ns : List Nat) (l m : Nat), vs = [.ref a, .ref b, .int (l : Nat), .int (m : Nat)] ∧ SqT K H a h.vs ∧ h.Ok ∧ SqL K H b (iv ns) ∧ (∀ N ∈ ns, N < 2 ^ h.d) ∧ l ≤ ns.length ∧ ns.length ≤ m ∧ ∀ H', Same H H' → Q .non H'
theorem body_require_text (T : Tx K mg) : BodyOk P w K mg base ["shape", "numbers", "least", "most", "index", "number"] "require_text" s_require_text (ga K "require_text") 2 (sp_require_text K) := fun cdv A outer s H vs Q E hr h => by
  obtain ⟨a, b, h, ns, l, m, rfl, hs, ok, hb, hN, h1, h2, q⟩ := h
  refine ⟨_, (pss_cons (ps_if (PW.pt (pw_or (pt_not (pt_val (pe_callB call_isi (by rfl) T.n_isinstance bt_isinstance (pa_cons (pv 1) (pa_cons (pe_bltn (v := .ty "list") (by rfl) T.n_list bt_list rfl) pa_nil))))) (pw_or1 (pt_not (pt_chain op_le op_le (pv 2) (pe_callB call_len_seq (by rfl) T.n_len bt_len (pa_cons (pv 1) pa_nil)) (pv 3))))))
    (pss_one ps_never) pss_nil)
    (pss_one (ps_for PassesOwn.never rfl (pi_enum (by rfl) T.n_enumerate (pa_cons (pv 1) pa_nil)) (pg_tup rfl (pgs_cons (pg_name (i := 4) sc_require_text.nd rfl (by first | exact .inl rfl | exact .inr rfl)) (pgs_cons (pg_name (i := 5) sc_require_text.nd rfl (by first | exact .inl rfl | exact .inr rfl)) pgs_nil)))
    (pss_one (ps_if (pt_not (pt_val (pe_go (ok_fits_shape T) hr (pa_cons (pv 0) (pa_cons (pv 5) pa_nil)))))
    (pss_one ps_never) pss_nil))))), ?_⟩
  refine ⟨_, rfl, _, _, _, _, _, rfl, .ty _, tyx_list hb, kit_ty (by decide +kernel), true, rfl, iteF ⟨_, rfl, _, rfl, _, _, rfl, .inl hb, _, _, rfl, rfl, _, rfl, ?_⟩⟩
  rw [List.length_map, decide_eq_true (by omega : (l : Int) ≤ ns.length)]
  refine iteT ⟨_, rfl, _, _, rfl, rfl, _, rfl, ?_⟩
  rw [decide_eq_true (by omega : (ns.length : Int) ≤ m)]
  refine iteF ⟨_, rfl, b, _, rfl, hb, ?_⟩
  refine for_enum (xs := iv ns) (fun i σ H' => ∃ x y, σ = [some (.ref a), some (.ref b), some (.int (l : Nat)), some (.int (m : Nat)), x, y] ∧ Same H H') ⟨none, none, rfl, .refl H⟩ (fun i σ H' _ hp => ?_) (fun i x σ H' t hx nT hp => ?_) (fun σ H' hp => ?_)
  · obtain ⟨_, _, _, sm⟩ := hp
    exact sm.seq hb
  · obtain ⟨y1, y2, rfl, sm⟩ := hp
    have sm2 := sm.trans (Same.up (o := .tup [.int (i : Nat), x]) nT)
    obtain ⟨z, rfl, ez⟩ := atN hx
    refine ⟨t, _, rfl, SqT.new, rfl, _, _, rfl, _, _, rfl, rfl, ?_⟩
    exact ⟨_, rfl, _, rfl, a, h, z, rfl, sm2.seqT hs, ok, hN _ (List.mem_of_getElem? ez), true, rfl, iteF ⟨_, _, rfl, sm2⟩⟩
  · obtain ⟨y1, y2, rfl, sm⟩ := hp
    exact q _ sm
theorem ok_require_text2 (T : Tx K mg) : Good P w K mg base "require_text" 3 ["shape", "numbers", "least", "most"] [.int 0, .int 60] (sp_require_text K) :=
  mkGoodD (n := 2) (j := 0) T.f_require_text T.g_require_text sc_require_text (by simp) rfl (fun _ _ _ _ _ _ _ us its hu hi => match us, its, hu, hi with | [_, _], [_, _], _, _ => ⟨_, rfl, rfl⟩)
    (fun vs H Q E h => by obtain ⟨_, _, _, _, _, _, rfl, _⟩ := h; rfl) (body_require_text T)
theorem ok_require_text (T : Tx K mg) : Good P w K mg base "require_text" 3 ["shape", "numbers", "least", "most"] [] (sp_require_text K) :=
  mkGoodD (n := 4) (j := 2) T.f_require_text T.g_require_text sc_require_text (by simp) rfl (fun _ _ _ _ _ _ _ us its hu hi => match us, its, hu, hi with | [_, _, _, _], [_, _], _, _ => ⟨_, rfl, rfl⟩)
    (fun vs H Q E h => by obtain ⟨_, _, _, _, _, _, rfl, _⟩ := h; rfl) (body_require_text T)
end
end K89

set_option maxRecDepth 100000
set_option maxHeartbeats 2000000
namespace K89
open PySem PySem.Spec PyProof.Rows L2
theorem sc_last_change : FnScope ["changes", "tick", "low", "high", "middle"] ["changes", "tick"] (defScope s_last_change) := ⟨rfl, rfl, rfl, by decide +kernel, rfl, by decide +kernel, by decide +kernel⟩
theorem sc_look_from : FnScope ["receiver", "phase", "tick"] ["receiver", "phase", "tick"] (defScope s_look_from) := ⟨rfl, rfl, rfl, by decide +kernel, rfl, by decide +kernel, by decide +kernel⟩
theorem sc_frame_look : FnScope ["receiver", "start", "place"] ["receiver", "start", "place"] (defScope s_frame_look) := ⟨rfl, rfl, rfl, by decide +kernel, rfl, by decide +kernel, by decide +kernel⟩
theorem sc_seen_index : FnScope ["changes", "look", "noted", "index"] ["changes", "look", "noted"] (defScope s_seen_index) := ⟨rfl, rfl, rfl, by decide +kernel, rfl, by decide +kernel, by decide +kernel⟩
theorem sc_word_of : FnScope ["shape", "number", "parity"] ["shape", "number", "parity"] (defScope s_word_of) := ⟨rfl, rfl, rfl, by decide +kernel, rfl, by decide +kernel, by decide +kernel⟩
theorem log2_2 : (2 : Int).natAbs.log2 < 9000 := by decide
theorem log2_lt {i : Int} (h0 : 0 ≤ i) (h : i < 2 ^ 8000) : i.natAbs.log2 < 9000 := by
  by_cases e : i.natAbs = 0
  · rw [e]
    decide
  · have h1 : i.natAbs < 2 ^ 8000 := by
      have := (Int.natAbs_of_nonneg h0)
      have h2 : ((i.natAbs : Nat) : Int) < ((2 ^ 8000 : Nat) : Int) := by
        rw [this]
        exact_mod_cast h
      exact_mod_cast h2
    exact Nat.lt_trans ((Nat.log2_lt e).mpr h1) (by decide)
theorem while_w {c : TT} {tb : TS} {D : Ends} {σ : L2.St} {H : Hp} (W : Nat → L2.St → Hp → Prop) (m0 : Nat) (h0 : W m0 σ H)
    (hs : ∀ m σ H, W m σ H → c σ H fun b H1 => if b = true then ∃ N : L2.St → Hp → Prop, (∀ σ' H', N σ' H' → ∃ m', m' < m ∧ W m' σ' H') ∧ tb { D with nx := N, ct := N, bk := D.nx } σ H1 else D.nx σ H1) : tWhile c tb D σ H := ⟨W, ⟨m0, h0⟩, hs⟩
theorem par_cnt (n : Nat) : (n : Int) - 1 = ((n : Int) - 1) := rfl
theorem and_cnt (n : Nat) : Builtin.bitAnd ((n : Int) - 1) 1 = (((n + 1) % 2 : Nat) : Int) := by
  rw [bitAnd_m1]
  omega
section
variable {P : Program} {w : World} {K : PySem.W.Frag} {mg : PySem.Str → Option Value} {base : Heap}
def sp_last_change (K : PySem.W.Frag) : Sp := fun vs H Q _ => ∃ (a : Addr) (ch : List Int) (t : Int), vs = [.ref a, .int t] ∧ SqL K H a (zv ch) ∧ Inc ch ∧ Q (.int ((cnt ch t : Nat) - 1)) H
theorem ok_last_change (T : Tx K mg) : Good P w K mg base "last_change" 1 ["changes", "tick"] [] (sp_last_change K) := by
  refine mkGood T.f_last_change T.g_last_change sc_last_change (fun _ _ _ _ _ _ us hl => match us, hl with | [_, _], _ => rfl) (fun vs H Q E h => by obtain ⟨_, _, _, rfl, _⟩ := h; rfl) (fun cdv A outer s H vs Q E hr h => ?_)
  obtain ⟨a, ch, t, rfl, hs, hi, q⟩ := h
  refine ⟨_, (pss_cons (ps_par (i := 2) (j := 3) rfl sc_last_change.nd rfl rfl (by decide) rfl rfl (pa_cons pe_int (pa_cons (pe_callB call_len_seq (by rfl) T.n_len bt_len (pa_cons (pv 0) pa_nil)) pa_nil)) (by rfl))
    (pss_cons (ps_while PassesOwn.never (pt_cmpR op_lt (pv 2) (pv 3) (nomark _))
    (pss_cons (ps_set (i := 4) sc_last_change.nd rfl (by first | exact .inl rfl | exact .inr rfl) (pe_op op_fdivW (pe_op op_add (pv 2) (pv 3)) pe_int))
    (pss_one (ps_if (pt_cmpR op_le (pe_ix ix_list (pv 0) (pv 4) (fun _ _ => rfl)) (pv 1) (nomark _))
    (pss_one (ps_set (i := 2) sc_last_change.nd rfl (by first | exact .inl rfl | exact .inr rfl) (pe_op op_add (pv 4) pe_int))) (pss_one (ps_set (i := 3) sc_last_change.nd rfl (by first | exact .inl rfl | exact .inr rfl) (pv 4)))))))
    (pss_one (ps_ret (pe_op op_sub (pv 2) pe_int))))), ?_⟩
  refine ⟨_, rfl, _, _, rfl, .inl hs, _, _, rfl, ?_⟩
  refine while_w (fun m σ H' => ∃ (lo hi : Nat) (x : Option V), σ = [some (.ref a), some (.int t), some (.int (lo : Nat)), some (.int (hi : Nat)), x] ∧ H' = H ∧ lo ≤ cnt ch t ∧ cnt ch t ≤ hi ∧ hi ≤ ch.length ∧ m = hi - lo) ch.length ⟨0, ch.length, none, by rw [← List.length_map (f := V.int)] <;> rfl, rfl, by omega, cnt_le _ _, by omega, by omega⟩ (fun m σ H' hw => ?_)
  obtain ⟨lo, hi', x, rfl, rfl, h1, h2, h3, rfl⟩ := hw
  refine ⟨_, rfl, _, rfl, _, _, rfl, rfl, _, rfl, ite2 (fun e => ?_) (fun e => ?_)⟩
  · have e0 : lo < hi' := by have := of_decide_eq_true e; omega
    refine ⟨_, fun σ' H' hn => hn, ?_⟩
    refine ⟨_, rfl, _, rfl, _, _, rfl, rfl, _, _, rfl, rfl, ⟨by decide, log2_2⟩, ?_⟩
    have hm : (lo + hi') / 2 < ch.length := by omega
    have em : ch[(lo + hi') / 2]? = some ch[(lo + hi') / 2] := List.getElem?_eq_getElem hm
    have key := cnt_iff (t := t) hi em
    have emid : ((lo : Int) + (hi' : Int)) / 2 = (((lo + hi') / 2 : Nat) : Int) := by omega
    refine ⟨_, rfl, _, rfl, _, _, _, _, rfl, rfl, hs, at_of emid (toZ em), _, rfl, _, _, rfl, rfl, _, rfl, ite2 (fun e => ?_) (fun e => ?_)⟩
    · have e1 := key.mp (of_decide_eq_true e)
      refine ⟨_, rfl, _, _, rfl, rfl, ?_⟩
      refine ⟨_, ?_, (lo + hi') / 2 + 1, hi', some (.int (((lo + hi') / 2 : Nat) : Int)), ?_, rfl, by omega, h2, h3, rfl⟩
      · omega
      · show [some (V.ref a), some (V.int t), some (V.int (((lo : Int) + hi') / 2 + 1)), some (V.int hi'), some (V.int (((lo : Int) + hi') / 2))] = _
        rw [emid, Int.natCast_add] <;> rfl
    · have e1 : ¬ ((lo + hi') / 2 < cnt ch t) := fun z => e (decide_eq_true (key.mpr z))
      refine ⟨_, rfl, ?_⟩
      refine ⟨_, ?_, lo, (lo + hi') / 2, some (.int (((lo + hi') / 2 : Nat) : Int)), ?_, rfl, by omega, by omega, by omega, rfl⟩
      · omega
      · show [some (V.ref a), some (V.int t), some (V.int (lo : Int)), some (V.int (((lo : Int) + hi') / 2)), some (V.int (((lo : Int) + hi') / 2))] = _
        rw [emid] <;> rfl
  · have e0 : ¬ lo < hi' := fun z => e (decide_eq_true (by omega))
    have e2 : lo = cnt ch t := by omega
    refine ⟨_, rfl, _, _, rfl, rfl, ?_⟩
    rw [e2]
    exact q
theorem ok_look_from (T : Tx K mg) : Good P w K mg base "look_from" 1 ["receiver", "phase", "tick"] [] (fun vs H Q _ => ∃ (b : Addr) (r : Rc) (ph t : Int), vs = [.ref b, .int ph, .int t] ∧ SqT K H b r.vs ∧ r.Ok ∧ Q (.int (lookFrom r ph t)) H) := by
  refine mkGood T.f_look_from T.g_look_from sc_look_from (fun _ _ _ _ _ _ us hl => match us, hl with | [_, _, _], _ => rfl) (fun vs H Q E h => by obtain ⟨_, _, _, _, rfl, _⟩ := h; rfl) (fun cdv A outer s H vs Q E hr h => ?_)
  obtain ⟨b, r, ph, t, rfl, hs, ok, q⟩ := h
  have g1 := ok.g1
  have gb := ok.big
  refine ⟨_, (pss_cons (ps_if (pt_cmpR op_le (pv 2) (pv 1) (nomark _))
    (pss_one (ps_ret (pv 1))) pss_nil)
    (pss_one (ps_ret (pe_op op_add (pv 1) (pe_op op_mul (pe_ix ix_tup (pv 0) pe_int (fun _ _ => rfl)) (pe_op op_fdivW (pe_op op_sub (pe_op op_add (pe_op op_sub (pv 2) (pv 1)) (pe_ix ix_tup (pv 0) pe_int (fun _ _ => rfl))) pe_int) (pe_ix ix_tup (pv 0) pe_int (fun _ _ => rfl)))))))), ?_⟩
  unfold lookFrom at q
  refine ⟨_, rfl, _, rfl, _, _, rfl, rfl, _, rfl, ite2 (fun e => ?_) (fun e => ?_)⟩
  · rw [if_pos (of_decide_eq_true e)] at q
    exact ⟨_, rfl, q⟩
  · rw [if_neg (fun z => e (decide_eq_true z))] at q
    refine ⟨_, rfl, _, rfl, _, _, _, _, rfl, rfl, hs, rfl, _, rfl, _, rfl, _, _, rfl, rfl, _, rfl, _, _, _, _, rfl, rfl, hs, rfl, _, _, rfl, rfl, _, _, rfl, rfl, ?_⟩
    exact ⟨_, rfl, _, _, _, _, rfl, rfl, hs, rfl, _, _, rfl, rfl, ⟨by omega, log2_lt (by omega) (by
      have : ((r.g : Nat) : Int) < ((2 ^ 60 : Nat) : Int) := by exact_mod_cast gb
      exact Int.lt_of_lt_of_le this (by decide +kernel))⟩, _, _, rfl, rfl, .inl ⟨by omega, by omega⟩, _, _, rfl, rfl, q⟩
theorem ok_frame_look (T : Tx K mg) : Good P w K mg base "frame_look" 1 ["receiver", "start", "place"] [] (fun vs H Q _ => ∃ (b : Addr) (r : Rc) (t : Int) (j : Nat), vs = [.ref b, .int t, .int (j : Nat)] ∧ SqT K H b r.vs ∧ r.Ok ∧ Q (.int (r.look t j)) H) := by
  refine mkGood T.f_frame_look T.g_frame_look sc_frame_look (fun _ _ _ _ _ _ us hl => match us, hl with | [_, _, _], _ => rfl) (fun vs H Q E h => by obtain ⟨_, _, _, _, rfl, _⟩ := h; rfl) (fun cdv A outer s H vs Q E hr h => ?_)
  obtain ⟨b, r, t, j, rfl, hs, ok, q⟩ := h
  have gb := ok.big
  have sb := ok.bs
  refine ⟨_, (pss_one (ps_ret (pe_op op_add (pv 1) (pe_op op_mul (pe_ix ix_tup (pv 0) pe_int (fun _ _ => rfl)) (pe_op op_add (pe_ix ix_tup (pv 0) pe_int (fun _ _ => rfl)) (pe_op op_mul (pe_ix ix_tup (pv 0) pe_int (fun _ _ => rfl)) (pv 2))))))), ?_⟩
  refine ⟨_, rfl, _, rfl, _, _, _, _, rfl, rfl, hs, rfl, _, rfl, _, _, _, _, rfl, rfl, hs, rfl, _, rfl, _, _, _, _, rfl, rfl, hs, rfl, _, rfl, _, _, rfl, rfl, .inl ⟨by omega, by omega⟩, _, _, rfl, rfl, _, _, rfl, rfl, .inl ⟨by omega, by omega⟩, _, _, rfl, rfl, ?_⟩
  exact q
theorem ok_seen_index (T : Tx K mg) : Good P w K mg base "seen_index" 2 ["changes", "look", "noted"] [] (fun vs H Q _ => ∃ (a : Addr) (ch : List Int) (t : Int), vs = [.ref a, .int t, .non] ∧ SqL K H a (zv ch) ∧ Inc ch ∧ Q (.int ((cnt ch t : Nat) - 1)) H) := by
  refine mkGood T.f_seen_index T.g_seen_index sc_seen_index (fun _ _ _ _ _ _ us hl => match us, hl with | [_, _, _], _ => rfl) (fun vs H Q E h => by obtain ⟨_, _, _, rfl, _⟩ := h; rfl) (fun cdv A outer s H vs Q E hr h => ?_)
  obtain ⟨a, ch, t, rfl, hs, hi, q⟩ := h
  refine ⟨_, (pss_cons (ps_set (i := 3) sc_seen_index.nd rfl (by first | exact .inl rfl | exact .inr rfl) (pe_go (ok_last_change T) hr (pa_cons (pv 0) (pa_cons (pv 1) pa_nil))))
    (pss_cons (ps_if (PW.pt (pw_and (pt_cmpR op_notN (pv 2) pe_non (nomark _)) (pw_and1 pt_nev)))
    (pss_one (ps_expr (pe_bm PySem.F.plainAttrs_list PySem.F.slot_list_append PySem.F.type_list_append mt_append (pv 2) (pa_cons (pe_tup (pa_cons (pv 1) (pa_cons (pv 3) pa_nil))) pa_nil)))) pss_nil)
    (pss_one (ps_ret (pv 3))))), ?_⟩
  refine ⟨_, rfl, _, rfl, a, ch, t, rfl, hs, hi, _, rfl, rfl, false, rfl, iteF (iteF ⟨_, rfl, q⟩)⟩
def parV (h : Sh) (N : Nat) : V := if h.p = 0 then .non else .int (plv h N : Nat)
theorem ok_word_of (T : Tx K mg) : Good P w K mg base "word_of" 2 ["shape", "number", "parity"] [] (fun vs H Q _ => ∃ (a : Addr) (h : Sh) (N : Nat), vs = [.ref a, .int (N : Nat), parV h N] ∧ SqT K H a h.vs ∧ h.Ok ∧ ∀ H', Same H H' → Q (.str "good") H') := by
  refine mkGood T.f_word_of T.g_word_of sc_word_of (fun _ _ _ _ _ _ us hl => match us, hl with | [_, _, _], _ => rfl) (fun vs H Q E h => by obtain ⟨_, _, _, rfl, _⟩ := h; rfl) (fun cdv A outer s H vs Q E hr h => ?_)
  obtain ⟨a, h, N, rfl, hs, ok, q⟩ := h
  refine ⟨_, (pss_cons (ps_if (pt_cmpR op_eq (pv 2) (pe_go (ok_parity_level T) hr (pa_cons (pv 0) (pa_cons (pv 1) pa_nil))) (nomark _))
    (pss_one (ps_ret pe_str)) pss_nil)
    (pss_one (ps_ret pe_str))), ?_⟩
  refine ⟨_, rfl, _, rfl, _, rfl, a, h, N, rfl, hs, ok, fun H' sm => ?_⟩
  refine ⟨?_, _, rfl, ?_⟩
  · unfold parV
    by_cases e : h.p = 0
    · rw [if_pos e]
      rfl
    · rw [if_neg e]
      rfl
  · rw [decide_eq_true (show parV h N = (if h.p = 0 then V.non else V.int (plv h N : Nat)) from rfl)]
    exact iteT (q H' sm)
end
end K89

set_option maxRecDepth 100000
set_option maxHeartbeats 2000000
namespace K89
open PySem PySem.Spec PyProof.Rows L2
theorem sc_read_frame : FnScope ["shape", "receiver", "start", "changes", "end", "noted", "number", "parity", "is_empty", "place", "look", "level"] ["shape", "receiver", "start", "changes", "end", "noted"] (defScope s_read_frame) := ⟨rfl, rfl, rfl, by decide +kernel, rfl, by decide +kernel, by decide +kernel⟩
/-- the number read ahead of place i -/
def numAt (h : Sh) (N i : Nat) : Nat := N % 2 ^ (min (i - 1) h.d)
def parAt (h : Sh) (N i : Nat) : V := if h.p = 0 ∨ i ≤ h.d + 1 then .non else .int (plv h N : Nat)
theorem bit_step (N j : Nat) : N % 2 ^ j + bit N j * 2 ^ j = N % 2 ^ (j + 1) := by
  unfold bit
  rw [Nat.pow_succ, Nat.mod_mul]
  rw [Nat.mul_comm]
theorem rAnd1 {n m : Nat} {H : Hp} {Q : VK} (e : (n + 1) % 2 = m) (h : Q (.int (m : Nat)) H) : rI0 (fun i j => .int (Builtin.bitAnd i j)) (.int ((n : Nat) - 1)) (.int 1) H Q := by
  refine ⟨_, _, rfl, rfl, ?_⟩
  show Q (.int (Builtin.bitAnd ((n : Nat) - 1) 1)) H
  rw [and_cnt, e]
  exact h
theorem ifEq {e : Bool} {σ : L2.St} {H : Hp} {Q : VK} {i : Nat} {m k : Int} (hv : σ[i]? = some (some (.int m))) (hQ : ∀ c, Q (.bl c) H) : if e = true then tOp rEq (tVar i) (tC (.int k)) σ H Q else Q (.bl false) H :=
  ite2 (fun _ => ⟨_, hv, rfl, hQ _⟩) fun _ => hQ _
theorem bit_lt (N j : Nat) : bit N j < 2 := Nat.mod_lt _ (by decide)
section
variable {P : Program} {w : World} {K : PySem.W.Frag} {mg : PySem.Str → Option Value} {base : Heap}
def sp_read_frame (K : PySem.W.Frag) : Sp := fun vs H Q _ => ∃ (a b c : Addr) (h : Sh) (r : Rc) (look : Int) (ch : List Int) (N : Nat), vs = [.ref a, .ref b, .int look, .ref c, .non, .non] ∧ SqT K H a h.vs ∧ h.Ok ∧ SqT K H b r.vs ∧ r.Ok ∧ SqL K H c (zv ch) ∧ Inc ch ∧
  N < 2 ^ h.d ∧ (∀ j, j < h.n → (cnt ch (r.look look j) + 1) % 2 = fl h N j) ∧ ∀ H' p t, Same H H' → SqT K H' p [.str "idle", .int (r.look look (h.n - 1)), .ref t] → SqT K H' t [.int look, .str "good", .int (N : Nat)] → Q (.ref p) H'
theorem ok_read_frame (T : Tx K mg) : Good P w K mg base "read_frame" 3 ["shape", "receiver", "start", "changes", "end", "noted"] [] (sp_read_frame K) := by
  refine mkGood T.f_read_frame T.g_read_frame sc_read_frame (fun _ _ _ _ _ _ us hl => match us, hl with | [_, _, _, _, _, _], _ => rfl) (fun vs H Q E h => by obtain ⟨_, _, _, _, _, _, _, _, rfl, _⟩ := h; rfl) (fun cdv A outer s H vs Q E hr h => ?_)
  obtain ⟨a, b, c, h, r, look, ch, N, rfl, hs, ok, hrc, rok, hc, hi, hN, hl, q⟩ := h
  refine ⟨_, (pss_cons (ps_asg (pe_tup (pa_cons pe_int (pa_cons pe_non (pa_cons pe_bl pa_nil)))) (pg_tup rfl (pgs_cons (pg_name (i := 6) sc_read_frame.nd rfl (by first | exact .inl rfl | exact .inr rfl)) (pgs_cons (pg_name (i := 7) sc_read_frame.nd rfl (by first | exact .inl rfl | exact .inr rfl)) (pgs_cons (pg_name (i := 8) sc_read_frame.nd rfl (by first | exact .inl rfl | exact .inr rfl)) pgs_nil)))))
    (pss_cons (ps_for PassesOwn.never rfl (pi_range1 (by rfl) T.n_range (pa_cons (pe_go (ok_frame_size T) hr (pa_cons (pv 0) pa_nil)) pa_nil)) (pg_name (i := 9) sc_read_frame.nd rfl (by first | exact .inl rfl | exact .inr rfl))
    (pss_cons (ps_set (i := 10) sc_read_frame.nd rfl (by first | exact .inl rfl | exact .inr rfl) (pe_go (ok_frame_look T) hr (pa_cons (pv 1) (pa_cons (pv 2) (pa_cons (pv 9) pa_nil)))))
    (pss_cons (ps_if (PW.pt (pw_and (pt_cmpR op_notN (pv 4) pe_non (nomark _)) (pw_and1 (pt_cmpR op_ge (pv 10) (pv 4) (nomark _)))))
    (pss_one (ps_ret (pe_tup (pa_cons pe_str (pa_cons (pv 10) (pa_cons pe_non pa_nil)))))) pss_nil)
    (pss_cons (ps_set (i := 11) sc_read_frame.nd rfl (by first | exact .inl rfl | exact .inr rfl) (pe_op op_and (pe_go (ok_seen_index T) hr (pa_cons (pv 3) (pa_cons (pv 10) (pa_cons (pv 5) pa_nil)))) pe_int))
    (pss_cons (ps_set (i := 8) sc_read_frame.nd rfl (by first | exact .inl rfl | exact .inr rfl) (pe_and (pv 8) (pe_one (pe_cmpR op_eq (pv 11) pe_int (nomark _)))))
    (pss_one (ps_if (pt_cmpR op_eq (pv 9) pe_int (nomark _))
    (pss_one (ps_if (pt_cmpR op_eq (pv 11) pe_int (nomark _))
    (pss_one (ps_ret (pe_tup (pa_cons pe_str (pa_cons (pv 10) (pa_cons pe_non pa_nil)))))) pss_nil)) (pss_one (ps_if (pt_cmpR op_ge (pv 9) (pe_go (ok_first_stop T) hr (pa_cons (pv 0) pa_nil)) (nomark _))
    (pss_one (ps_if (pt_cmpR op_eq (pv 11) pe_int (nomark _))
    (pss_one (ps_ret (pe_tup (pa_cons pe_str (pa_cons (pv 10) (pa_cons (pe_tup (pa_cons (pv 2) (pa_cons (pe_ifExp (pt_val (pv 8)) pe_str pe_str) (pa_cons (pv 6) pa_nil)))) pa_nil)))))) pss_nil)) (pss_one (ps_if (pt_cmpR op_le (pv 9) (pe_ix ix_tup (pv 0) pe_int (fun _ _ => rfl)) (nomark _))
    (pss_one (ps_aug (i := 6) sc_read_frame.nd rfl (by first | exact .inl rfl | exact .inr rfl) (pe_op op_shl (pv 11) (pe_op op_sub (pv 9) pe_int)) ip_add)) (pss_one (ps_set (i := 7) sc_read_frame.nd rfl (by first | exact .inl rfl | exact .inr rfl) (pv 11))))))))))))))
    (pss_one (ps_ret (pe_tup (pa_cons pe_str (pa_cons (pv 10) (pa_cons (pe_tup (pa_cons (pv 2) (pa_cons (pe_go (ok_word_of T) hr (pa_cons (pv 0) (pa_cons (pv 6) (pa_cons (pv 7) pa_nil)))) (pa_cons (pv 6) pa_nil)))) pa_nil)))))))), ?_⟩
  have d1 := ok.d1
  have d9 := ok.d9
  have s1 := ok.s1
  have s2 := ok.s2
  have hq : h.q ≤ 1 := by unfold Sh.q; split <;> omega
  have hn : h.n = 1 + h.d + h.q + h.s := rfl
  have hst : h.stop = 1 + h.d + h.q := rfl
  refine ⟨by decide, fun t nt => ⟨t, _, rfl, SqT.new, rfl, _, _, rfl, _, _, rfl, _, _, rfl, rfl, ?_⟩⟩
  have sm0 : Same H (upd H t (.tup [.int 0, .non, .bl true])) := Same.up nt
  refine ⟨_, rfl, a, h, rfl, sm0.seqT hs, ok, (h.n : Int), rfl, by omega, by omega, ?_⟩
  refine for_range (fun i σ H' => ∃ (e : Bool) (x9 x10 x11 : Option V), σ = [some (.ref a), some (.ref b), some (.int look), some (.ref c), some .non, some .non, some (.int (numAt h N i : Nat)), some (parAt h N i), some (.bl e), x9, x10, x11] ∧ Same H H' ∧ (0 < i → x10 = some (.int (r.look look (i - 1)))))
    ⟨true, none, none, none, ?_, sm0, fun z => absurd z (Nat.lt_irrefl _)⟩ (fun i σ H' hin hp => ?_) (fun σ H' hp => ?_)
  · have e1 : numAt h N 0 = 0 := by
      unfold numAt
      rw [Nat.zero_sub, Nat.zero_min]
      exact Nat.mod_one _
    have e2 : parAt h N 0 = .non := if_pos (.inr (Nat.zero_le _))
    rw [e1, e2] <;> rfl
  · obtain ⟨e, x9, x10, x11, rfl, sm, _⟩ := hp
    rw [Int.toNat_natCast] at hin
    have zi : (0 : Int) + (i : Nat) = (i : Nat) := Int.zero_add _
    have lv := hl i hin
    rw [zi]
    refine ⟨_, rfl, _, rfl, _, rfl, b, r, look, i, rfl, sm.seqT hrc, rok, ?_⟩
    refine ⟨_, rfl, rfl, false, rfl, iteF (iteF ?_)⟩
    refine ⟨_, rfl, _, rfl, _, rfl, c, ch, _, rfl, sm.seq hc, hi, _, _, rfl, rfl, ?_⟩
    have elv : Builtin.bitAnd ((cnt ch (r.look look i) : Nat) - 1 : Int) 1 = ((fl h N i : Nat) : Int) := by rw [and_cnt, lv]
    simp only [elv]
    refine ⟨_, rfl, e, rfl, ifEq rfl fun e' => ?_⟩
    refine ⟨_, rfl, rfl, _, rfl, ite2 (fun e0 => ?_) (fun e0 => ?_)⟩
    · have e1 : i = 0 := by have := V.int.inj (of_decide_eq_true e0); omega
      subst e1
      have f0 : fl h N 0 = 0 := rfl
      refine ⟨_, rfl, rfl, _, rfl, ite2 (fun z => ?_) (fun _ => ?_)⟩
      · have := V.int.inj (of_decide_eq_true z)
        rw [f0] at this
        omega
      · refine ⟨e', some (.int (0 : Nat)), some (.int (r.look look 0)), some (.int (fl h N 0 : Nat)), ?_, sm, fun _ => rfl⟩
        have e3 : numAt h N (0 + 1) = numAt h N 0 := rfl
        have e4 : parAt h N (0 + 1) = parAt h N 0 := by
          unfold parAt
          rw [if_pos (.inr (by omega)), if_pos (.inr (by omega))]
        rw [e3, e4] <;> rfl
    · have i0 : i ≠ 0 := fun z => e0 (decide_eq_true (by rw [z] <;> rfl))
      refine ⟨_, rfl, _, rfl, a, h, rfl, sm.seqT hs, ok, _, _, rfl, rfl, _, rfl, ite2 (fun e2 => ?_) (fun e2 => ?_)⟩
      · have e3 : h.stop ≤ i := by have := of_decide_eq_true e2; omega
        have f1 : fl h N i = 1 := by
          unfold fl
          rw [if_neg i0, if_neg (by omega), if_neg (by omega)]
        refine ⟨_, rfl, rfl, _, rfl, ite2 (fun z => ?_) (fun _ => ?_)⟩
        · have := V.int.inj (of_decide_eq_true z)
          rw [f1] at this
          omega
        · refine ⟨e', some (.int (i : Nat)), some (.int (r.look look i)), some (.int (fl h N i : Nat)), ?_, sm, fun _ => rfl⟩
          have e5 : numAt h N (i + 1) = numAt h N i := by
            unfold numAt
            rw [show min (i + 1 - 1) h.d = min (i - 1) h.d by omega]
          have e6 : parAt h N (i + 1) = parAt h N i := by
            unfold parAt
            by_cases p0 : h.p = 0
            · rw [if_pos (.inl p0), if_pos (.inl p0)]
            · have : h.q = 1 := if_neg p0
              rw [if_neg (by omega), if_neg (by omega)]
          rw [e5, e6] <;> rfl
      · have e3 : i < h.stop := by
          have : ¬ ((h.stop : Nat) : Int) ≤ (i : Nat) := fun z => e2 (decide_eq_true z)
          omega
        refine ⟨_, rfl, _, rfl, _, _, _, _, rfl, rfl, sm.seqT hs, rfl, _, _, rfl, rfl, _, rfl, ite2 (fun e4 => ?_) (fun e4 => ?_)⟩
        · have e5 : i ≤ h.d := by have := of_decide_eq_true e4; omega
          have f1 : fl h N i = bit N (i - 1) := by
            unfold fl
            rw [if_neg i0, if_pos e5]
          refine ⟨_, rfl, _, rfl, _, rfl, _, _, rfl, rfl, _, _, rfl, rfl, ⟨by omega, by omega, ?_⟩, _, _, rfl, rfl, ?_⟩
          · rw [f1]
            have := bit_lt N (i - 1)
            omega
          · refine ⟨e', some (.int (i : Nat)), some (.int (r.look look i)), some (.int (fl h N i : Nat)), ?_, sm, fun _ => rfl⟩
            have e6 : parAt h N (i + 1) = parAt h N i := by
              unfold parAt
              rw [if_pos (.inr (by omega)), if_pos (.inr (by omega))]
            have e7 : ((numAt h N i : Nat) : Int) + ((fl h N i : Nat) : Int) * 2 ^ (((i : Nat) : Int) - 1).toNat = ((numAt h N (i + 1) : Nat) : Int) := by
              have t1 : (((i : Nat) : Int) - 1).toNat = i - 1 := by omega
              rw [t1, f1]
              unfold numAt
              rw [show min (i - 1) h.d = i - 1 by omega, show min (i + 1 - 1) h.d = (i - 1) + 1 by omega, ← bit_step]
              push_cast
              rfl
            rw [e6, ← e7] <;> rfl
        · have e5 : i = h.d + 1 := by
            have : ¬ ((i : Nat) : Int) ≤ (h.d : Nat) := fun z => e4 (decide_eq_true z)
            omega
          have q1 : h.q = 1 := by omega
          have p0 : h.p ≠ 0 := fun z => by
            have : h.q = 0 := if_pos z
            omega
          have f1 : fl h N i = plv h N := by
            unfold fl
            rw [if_neg i0, if_neg (by omega), if_pos e3]
          refine ⟨_, rfl, ?_⟩
          refine ⟨e', some (.int (i : Nat)), some (.int (r.look look i)), some (.int (fl h N i : Nat)), ?_, sm, fun _ => rfl⟩
          have e6 : parAt h N (i + 1) = .int (fl h N i : Nat) := by
            unfold parAt
            rw [if_neg (by omega), f1]
          have e7 : numAt h N (i + 1) = numAt h N i := by
            unfold numAt
            rw [show min (i + 1 - 1) h.d = min (i - 1) h.d by omega]
          rw [e6, e7] <;> rfl
  · obtain ⟨e, x9, x10, x11, rfl, sm, hx⟩ := hp
    rw [Int.toNat_natCast] at hx ⊢
    have ex := hx (by omega)
    subst ex
    have e1 : numAt h N h.n = N := by
      unfold numAt
      rw [show min (h.n - 1) h.d = h.d by omega]
      exact Nat.mod_eq_of_lt hN
    have e2 : parAt h N h.n = parV h N := by
      unfold parAt parV
      by_cases p0 : h.p = 0
      · rw [if_pos (.inl p0), if_pos p0]
      · have : h.q = 1 := if_neg p0
        rw [if_neg (by omega), if_neg p0]
    rw [e1, e2]
    refine ⟨_, rfl, _, rfl, _, rfl, _, rfl, _, rfl, a, h, N, rfl, sm.seqT hs, ok, fun H2 sm2 => ⟨_, rfl, (by decide : 3 ≤ sizeLine), fun t2 n2 => ⟨(by decide : 3 ≤ sizeLine), fun p np => ?_⟩⟩⟩
    refine q _ p t2 ((sm.trans sm2).trans ((Same.up n2).trans (Same.up np))) SqT.new (SqT.up SqT.new np)
end
end K89

set_option maxRecDepth 100000
set_option maxHeartbeats 2000000
namespace K89
open PySem PySem.Spec PyProof.Rows L2
theorem sc_walk_to : FnScope ["shape", "receiver", "phase", "changes", "end", "noted", "found", "word", "look", "index", "level", "reading"] ["shape", "receiver", "phase", "changes", "end", "noted"] (defScope s_walk_to) := ⟨rfl, rfl, rfl, by decide +kernel, rfl, by decide +kernel, by decide +kernel⟩
theorem sc_walk : FnScope ["shape", "receiver", "phase", "changes", "noted"] ["shape", "receiver", "phase", "changes", "noted"] (defScope s_walk) := ⟨rfl, rfl, rfl, by decide +kernel, rfl, by decide +kernel, by decide +kernel⟩
theorem sc_require_reading : FnScope ["shape", "receiver", "phase", "signal"] ["shape", "receiver", "phase", "signal"] (defScope s_require_reading) := ⟨rfl, rfl, rfl, by decide +kernel, rfl, by decide +kernel, by decide +kernel⟩
theorem sc_readings : FnScope ["shape", "receiver", "phase", "signal"] ["shape", "receiver", "phase", "signal"] (defScope s_readings) := ⟨rfl, rfl, rfl, by decide +kernel, rfl, by decide +kernel, by decide +kernel⟩
/-- the readings -/
abbrev RdL (K : PySem.W.Frag) (H : Hp) : List V → List Nat → Prop := Paired fun x N => ∃ (a : Addr) (s : Int), x = .ref a ∧ SqT K H a [.int s, .str "good", .int (N : Nat)]
theorem RdL.same {K : PySem.W.Frag} {H H' : Hp} (s : Same H H') : ∀ {xs : List V} {ns : List Nat}, RdL K H xs ns → RdL K H' xs ns := fun {xs ns} h => Paired.mapP h fun _ _ ⟨a, t, e, q⟩ => ⟨a, t, e, s.seqT q⟩
theorem Paired.snoc {α β : Type} {F : α → β → Prop} : ∀ {l : List α} {m : List β} {x : α} {y : β}, Paired F l m → F x y → Paired F (l ++ [x]) (m ++ [y])
  | _, _, _, _, .nil, h => .cons h .nil
  | _, _, _, _, .cons r t, h => .cons r (Paired.snoc t h)
theorem Paired.getl {α β : Type} {F : α → β → Prop} : ∀ {l : List α} {m : List β} {i : Nat} {x : α}, Paired F l m → l[i]? = some x → ∃ y, m[i]? = some y ∧ F x y
  | _, _, _, _, .nil, e => by simp at e
  | _, _, 0, _, .cons r _, e => by simp at e; subst e; exact ⟨_, rfl, r⟩
  | _, _, i + 1, x, .cons _ t, e => by
    obtain ⟨u, h1, h2⟩ := Paired.getl (i := i) (x := x) t (by simpa using e)
    exact ⟨u, by simpa using h1, h2⟩
section
variable {P : Program} {w : World} {K : PySem.W.Frag} {mg : PySem.Str → Option Value} {base : Heap}
def rd_res (K : PySem.W.Frag) (H : Hp) (Q : VK) (ns : List Nat) : Prop := ∀ H' p l u xs, Same H H' → SqT K H' p [.ref l, u] → SqL K H' l xs → RdL K H' xs ns → Q (.ref p) H'
def sp_walk_to (K : PySem.W.Frag) : Sp := fun vs H Q _ => ∃ (a b c : Addr) (h : Sh) (r : Rc) (ph : Int) (ch : List Int) (m : Nat) (ns : List Nat), vs = [.ref a, .ref b, .int ph, .ref c, .non, .non] ∧ SqT K H a h.vs ∧ h.Ok ∧ SqT K H b r.vs ∧ r.Ok ∧ SqL K H c (zv ch) ∧ Inc ch ∧
  ns.length ≤ 1000 ∧ Rdg h r ch ph m ph ns ∧ rd_res K H Q ns
theorem ok_walk_to (T : Tx K mg) : Good P w K mg base "walk_to" 4 ["shape", "receiver", "phase", "changes", "end", "noted"] [] (sp_walk_to K) := by
  refine mkGood T.f_walk_to T.g_walk_to sc_walk_to (fun _ _ _ _ _ _ us hl => match us, hl with | [_, _, _, _, _, _], _ => rfl) (fun vs H Q E h => by obtain ⟨_, _, _, _, _, _, _, _, _, rfl, _⟩ := h; rfl) (fun cdv A outer s H vs Q E hr h => ?_)
  obtain ⟨a, b, c, h, r, ph, ch, m0, ns, rfl, hs, ok, hrc, rok, hc, hi, hns, rd, q⟩ := h
  refine ⟨_, (pss_cons (ps_set (i := 6) sc_walk_to.nd rfl (by first | exact .inl rfl | exact .inr rfl) (pe_lst pa_nil))
    (pss_cons (ps_par (i := 7) (j := 8) rfl sc_walk_to.nd rfl rfl (by decide) rfl rfl (pa_cons pe_str (pa_cons (pv 2) pa_nil)) (by rfl))
    (pss_cons (ps_while PassesOwn.never (PW.pt (pw_or (pt_cmpR op_isN (pv 4) pe_non (nomark _)) (pw_or1 (pt_cmpR op_lt (pv 8) (pv 4) (nomark _)))))
    (pss_cons (ps_set (i := 9) sc_walk_to.nd rfl (by first | exact .inl rfl | exact .inr rfl) (pe_go (ok_seen_index T) hr (pa_cons (pv 3) (pa_cons (pv 8) (pa_cons (pv 5) pa_nil)))))
    (pss_cons (ps_set (i := 10) sc_walk_to.nd rfl (by first | exact .inl rfl | exact .inr rfl) (pe_op op_and (pv 9) pe_int))
    (pss_one (ps_if (PW.pt (pw_and (pt_cmpR op_eq (pv 7) pe_str (nomark _)) (pw_and1 (pt_cmpR op_eq (pv 10) pe_int (nomark _)))))
    (pss_cons (ps_asg (pe_go (ok_read_frame T) hr (pa_cons (pv 0) (pa_cons (pv 1) (pa_cons (pv 8) (pa_cons (pv 3) (pa_cons (pv 4) (pa_cons (pv 5) pa_nil))))))) (pg_tup rfl (pgs_cons (pg_name (i := 7) sc_walk_to.nd rfl (by first | exact .inl rfl | exact .inr rfl)) (pgs_cons (pg_name (i := 8) sc_walk_to.nd rfl (by first | exact .inl rfl | exact .inr rfl)) (pgs_cons (pg_name (i := 11) sc_walk_to.nd rfl (by first | exact .inl rfl | exact .inr rfl)) pgs_nil)))))
    (pss_cons (ps_if (pt_cmpR op_eq (pv 7) pe_str (nomark _))
    (pss_one (ps_ret (pe_tup (pa_cons (pv 6) (pa_cons (pe_tup (pa_cons pe_str (pa_cons (pv 8) pa_nil))) pa_nil))))) pss_nil)
    (pss_cons (ps_if (pt_cmpR op_notN (pv 11) pe_non (nomark _))
    (pss_one (ps_expr (pe_bm PySem.F.plainAttrs_list PySem.F.slot_list_append PySem.F.type_list_append mt_append (pv 6) (pa_cons (pv 11) pa_nil)))) pss_nil)
    (pss_one (ps_aug (i := 8) sc_walk_to.nd rfl (by first | exact .inl rfl | exact .inr rfl) (pe_ix ix_tup (pv 1) pe_int (fun _ _ => rfl)) ip_add))))) (pss_one (ps_if (PW.pt (pw_and (pt_cmpR op_eq (pv 7) pe_str (nomark _)) (pw_and1 (pt_cmpR op_eq (pv 10) pe_int (nomark _)))))
    (pss_cons (ps_set (i := 7) sc_walk_to.nd rfl (by first | exact .inl rfl | exact .inr rfl) pe_str)
    (pss_one (ps_aug (i := 8) sc_walk_to.nd rfl (by first | exact .inl rfl | exact .inr rfl) (pe_ix ix_tup (pv 1) pe_int (fun _ _ => rfl)) ip_add))) (pss_one (ps_if (pt_cmpR op_eq (pe_op op_add (pv 9) pe_int) (pe_callB call_len_seq (by rfl) T.n_len bt_len (pa_cons (pv 3) pa_nil)) (nomark _))
    (pss_one (ps_ret (pe_tup (pa_cons (pv 6) (pa_cons (pe_tup (pa_cons (pv 7) (pa_cons pe_non pa_nil))) pa_nil))))) (pss_one (ps_set (i := 8) sc_walk_to.nd rfl (by first | exact .inl rfl | exact .inr rfl) (pe_go (ok_look_from T) hr (pa_cons (pv 1) (pa_cons (pv 2) (pa_cons (pe_ix ix_list (pv 3) (pe_op op_add (pv 9) pe_int) (fun _ _ => rfl)) pa_nil)))))))))))))))
    (pss_one (ps_ret (pe_tup (pa_cons (pv 6) (pa_cons (pe_tup (pa_cons (pv 7) (pa_cons pe_non pa_nil))) pa_nil)))))))), ?_⟩
  refine ⟨by decide, fun l nl => ⟨_, rfl, _, _, rfl, ?_⟩⟩
  refine while_w (fun m σ H' => ∃ (look : Int) (done rest : List Nat) (xs : List V) (x9 x10 x11 : Option V), σ = [some (.ref a), some (.ref b), some (.int ph), some (.ref c), some .non, some .non, some (.ref l), some (.str "idle"), some (.int look), x9, x10, x11] ∧
      Same H H' ∧ H' l = some (.lst xs) ∧ RdL K H' xs done ∧ ns = done ++ rest ∧ Rdg h r ch ph m look rest) m0 ⟨ph, [], ns, [], none, none, none, rfl, Same.up nl, upd_same, .nil, rfl, rd⟩ (fun m σ H' hw => ?_)
  obtain ⟨look, done, rest, xs, x9, x10, x11, rfl, sm, hl, hx, ens, rd⟩ := hw
  refine ⟨_, rfl, rfl, true, rfl, iteT (iteT ⟨_, fun σ' H' hn => hn, ?_⟩)⟩
  have hc' := sm.seq hc
  refine ⟨_, rfl, _, rfl, _, rfl, c, ch, look, rfl, hc', hi, _, rfl, _, _, rfl, rfl, ?_⟩
  simp only [and_cnt]
  cases rd with
  | stop hcnt hev =>
    refine ⟨_, rfl, rfl, true, rfl, iteT ⟨_, rfl, rfl, _, rfl, ?_⟩⟩
    have e1 : (cnt ch look + 1) % 2 = 1 := by omega
    rw [e1]
    refine iteF ⟨_, rfl, rfl, false, rfl, iteF (iteF ?_)⟩
    refine ⟨_, rfl, _, _, rfl, rfl, _, rfl, _, _, rfl, .inl hc', rfl, _, rfl, ite2 (fun _ => ?_) (fun z => ?_)⟩
    · refine ⟨_, rfl, _, rfl, (by decide : 2 ≤ sizeLine), fun t nt => ⟨(by decide : 2 ≤ sizeLine), fun p np => ?_⟩⟩
      have s2 : Same H' (upd (upd H' t (.tup [.str "idle", .non])) p (.tup [.ref l, .ref t])) := (Same.up nt).trans (Same.up np)
      have e2 : ns = done := by rw [ens, List.append_nil]
      rw [e2] at q
      exact q _ p l (.ref t) xs (sm.trans s2) SqT.new (s2.seq (.inl (.inl hl))) (hx.same s2)
    · refine absurd (decide_eq_true ?_) z
      show V.int (((cnt ch look : Nat) : Int) - 1 + 1) = V.int ((zv ch).length : Nat)
      rw [List.length_map, hcnt, Int.sub_add_cancel]
  | @skip m look t ns' hev ht rd' =>
    refine ⟨_, rfl, rfl, true, rfl, iteT ⟨_, rfl, rfl, _, rfl, ?_⟩⟩
    have e1 : (cnt ch look + 1) % 2 = 1 := by omega
    rw [e1]
    refine iteF ⟨_, rfl, rfl, false, rfl, iteF (iteF ?_)⟩
    have hlt := (List.getElem?_eq_some_iff.mp ht).1
    refine ⟨_, rfl, _, _, rfl, rfl, _, rfl, _, _, rfl, .inl hc', rfl, _, rfl, ite2 (fun z => ?_) (fun z => ?_)⟩
    · have := V.int.inj (of_decide_eq_true z)
      rw [List.length_map] at this
      omega
    · refine ⟨_, rfl, _, rfl, _, rfl, _, rfl, _, _, rfl, rfl, _, _, _, _, rfl, rfl, hc', at_of (j := cnt ch look) (by omega) (toZ ht), b, r, ph, t, rfl, sm.seqT hrc, rok, ?_⟩
      exact ⟨m, Nat.lt_succ_self m, lookFrom r ph t, done, rest, xs, _, _, _, rfl, sm, hl, hx, ens, rd'⟩
  | @frame m look N ns' hN hod hlv rd' =>
    refine ⟨_, rfl, rfl, true, rfl, iteT ⟨_, rfl, rfl, _, rfl, ?_⟩⟩
    have e1 : (cnt ch look + 1) % 2 = 0 := by omega
    rw [e1]
    refine iteT ?_
    refine ⟨_, rfl, _, rfl, _, rfl, _, rfl, _, rfl, _, rfl, a, b, c, h, r, look, ch, N, rfl, sm.seqT hs, ok, sm.seqT hrc, rok, hc', hi, hN, hlv, fun H2 p t sm2 hp ht => ?_⟩
    refine ⟨p, _, rfl, hp, rfl, _, _, rfl, _, _, rfl, _, _, rfl, rfl, ?_⟩
    refine ⟨_, rfl, rfl, false, rfl, iteF ⟨_, rfl, rfl, true, rfl, iteT ?_⟩⟩
    have hl2 := sm2 _ _ hl
    have lenx : xs.length = done.length := Paired.length hx
    refine ⟨_, rfl, .inl ⟨rfl, _, .inl (.inl hl2)⟩, _, rfl, l, xs, _, rfl, rfl, hl2, small_len (n := 1000) (by rw [lenx]; rw [ens, List.length_append] at hns; omega), ?_⟩
    have nlb : ∀ x o, H x = some o → x ≠ l := fun x o e => ne_of_none e nl
    have sm3 : Same H (upd H2 l (.lst (xs ++ [.ref t]))) := fun x o e => by
      rw [upd_ne (nlb x o e)]
      exact sm2 _ _ (sm _ _ e)
    -- the readings stand, whatever becomes of the list itself
    have keepT : ∀ {x : Addr} {ys : List V}, SqT K H2 x ys → SqT K (upd H2 l (.lst (xs ++ [.ref t]))) x ys := fun {x ys} hx => by
      rcases hx with (hx | ⟨o, hx⟩) | hx
      · exact .inl (.inl (by rw [upd_ne (ne_of hx hl2 (fun z => nomatch z))]; exact hx))
      · exact .inl (.inr ⟨o, by rw [upd_ne (ne_of hx hl2 (fun z => nomatch z))]; exact hx⟩)
      · exact .inr hx
    refine ⟨_, rfl, _, rfl, _, _, _, _, rfl, rfl, sm3.seqT hrc, rfl, _, _, rfl, rfl, ?_⟩
    refine ⟨m, Nat.lt_succ_self m, r.look look (h.n - 1) + r.g, done ++ [N], ns', xs ++ [.ref t], _, _, _, rfl, sm3, upd_same, ?_, by rw [ens, List.append_assoc] <;> rfl, rd'⟩
    refine Paired.snoc (Paired.mapP (hx.same sm2) fun _ _ ⟨x, s, e, hq⟩ => ⟨x, s, e, keepT hq⟩) ⟨t, look, rfl, keepT ht⟩
def sp_walk (K : PySem.W.Frag) : Sp := fun vs H Q _ => ∃ (a b c : Addr) (h : Sh) (r : Rc) (ph : Int) (ch : List Int) (m : Nat) (ns : List Nat), vs = [.ref a, .ref b, .int ph, .ref c, .non] ∧ SqT K H a h.vs ∧ h.Ok ∧ SqT K H b r.vs ∧ r.Ok ∧ SqL K H c (zv ch) ∧ Inc ch ∧
  ns.length ≤ 1000 ∧ Rdg h r ch ph m ph ns ∧ rd_res K H Q ns
theorem ok_walk (T : Tx K mg) : Good P w K mg base "walk" 5 ["shape", "receiver", "phase", "changes", "noted"] [] (sp_walk K) := by
  refine mkGood T.f_walk T.g_walk sc_walk (fun _ _ _ _ _ _ us hl => match us, hl with | [_, _, _, _, _], _ => rfl) (fun vs H Q E h => by obtain ⟨_, _, _, _, _, _, _, _, _, rfl, _⟩ := h; rfl) (fun cdv A outer s H vs Q E hr h => ?_)
  obtain ⟨a, b, c, h, r, ph, ch, m0, ns, rfl, hs, ok, hrc, rok, hc, hi, hns, rd, q⟩ := h
  refine ⟨_, (pss_one (ps_ret (pe_go (ok_walk_to T) hr (pa_cons (pv 0) (pa_cons (pv 1) (pa_cons (pv 2) (pa_cons (pv 3) (pa_cons pe_non (pa_cons (pv 4) pa_nil))))))))), ?_⟩
  exact ⟨_, rfl, _, rfl, _, rfl, _, rfl, _, rfl, a, b, c, h, r, ph, ch, m0, ns, rfl, hs, ok, hrc, rok, hc, hi, hns, rd, q⟩
/-- what a reading wants -/
structure RdArg (K : PySem.W.Frag) (H : Hp) (a b c : Addr) (h : Sh) (r : Rc) (ch : List Int) : Prop where
  hs : SqT K H a h.vs
  ok : h.Ok
  hr : SqT K H b r.vs
  rok : r.Ok
  hc : SqL K H c (zv ch)
  inc : Inc ch
  len : ch.length ≤ 800
theorem RdArg.same {K : PySem.W.Frag} {H H' : Hp} {a b c : Addr} {h : Sh} {r : Rc} {ch : List Int} (x : RdArg K H a b c h r ch) (s : Same H H') : RdArg K H' a b c h r ch := ⟨s.seqT x.hs, x.ok, s.seqT x.hr, x.rok, s.seq x.hc, x.inc, x.len⟩
theorem ok_require_reading (T : Tx K mg) : Good P w K mg base "require_reading" 5 ["shape", "receiver", "phase", "signal"] [] (fun vs H Q _ => ∃ (a b c : Addr) (h : Sh) (r : Rc) (ph : Int) (ch : List Int), vs = [.ref a, .ref b, .int ph, .ref c] ∧ RdArg K H a b c h r ch ∧ ∀ H', Same H H' → Q .non H') := by
  refine mkGood T.f_require_reading T.g_require_reading sc_require_reading (fun _ _ _ _ _ _ us hl => match us, hl with | [_, _, _, _], _ => rfl) (fun vs H Q E h => by obtain ⟨_, _, _, _, _, _, _, rfl, _⟩ := h; rfl) (fun cdv A outer s H vs Q E hr h => ?_)
  obtain ⟨a, b, c, h, r, ph, ch, rfl, ra, q⟩ := h
  refine ⟨_, (pss_cons (ps_expr (pe_go (ok_require_shape T) hr (pa_cons (pv 0) pa_nil)))
    (pss_cons (ps_expr (pe_go (ok_require_receiver T) hr (pa_cons (pv 1) pa_nil)))
    (pss_cons (ps_expr (pe_go (ok_require_any_phase T) hr (pa_cons (pv 2) pa_nil)))
    (pss_one (ps_expr (pe_go (ok_require_signal1 T) hr (pa_cons (pv 3) pa_nil))))))), ?_⟩
  refine ⟨_, rfl, a, h, rfl, ra.hs, ra.ok, fun H1 s1 => ?_⟩
  refine ⟨_, rfl, b, r, rfl, s1.seqT ra.hr, ra.rok, fun H2 s2 => ?_⟩
  refine ⟨_, rfl, ph, rfl, ?_⟩
  exact ⟨_, rfl, c, ch, 800, rfl, s2.seq (s1.seq ra.hc), ra.inc, ra.len, fun H3 s3 => q _ ((s1.trans s2).trans s3)⟩
theorem ok_readings (T : Tx K mg) : Good P w K mg base "readings" 6 ["shape", "receiver", "phase", "signal"] [] (fun vs H Q _ => ∃ (a b c : Addr) (h : Sh) (r : Rc) (ph : Int) (ch : List Int) (m : Nat) (ns : List Nat), vs = [.ref a, .ref b, .int ph, .ref c] ∧ RdArg K H a b c h r ch ∧
    ns.length ≤ 1000 ∧ Rdg h r ch ph m ph ns ∧ ∀ H' l xs, Same H H' → SqL K H' l xs → RdL K H' xs ns → Q (.ref l) H') := by
  refine mkGood T.f_readings T.g_readings sc_readings (fun _ _ _ _ _ _ us hl => match us, hl with | [_, _, _, _], _ => rfl) (fun vs H Q E h => by obtain ⟨_, _, _, _, _, _, _, _, _, rfl, _⟩ := h; rfl) (fun cdv A outer s H vs Q E hr h => ?_)
  obtain ⟨a, b, c, h, r, ph, ch, m, ns, rfl, ra, hns, rd, q⟩ := h
  refine ⟨_, (pss_cons (ps_expr (pe_go (ok_require_reading T) hr (pa_cons (pv 0) (pa_cons (pv 1) (pa_cons (pv 2) (pa_cons (pv 3) pa_nil))))))
    (pss_one (ps_ret (pe_ix ix_tup (pe_go (ok_walk T) hr (pa_cons (pv 0) (pa_cons (pv 1) (pa_cons (pv 2) (pa_cons (pv 3) (pa_cons pe_non pa_nil)))))) pe_int (fun _ _ => rfl))))), ?_⟩
  refine ⟨_, rfl, _, rfl, _, rfl, _, rfl, a, b, c, h, r, ph, ch, rfl, ra, fun H1 s1 => ?_⟩
  have ra1 := ra.same s1
  refine ⟨_, rfl, _, rfl, _, rfl, _, rfl, a, b, c, h, r, ph, ch, m, ns, rfl, ra1.hs, ra1.ok, ra1.hr, ra1.rok, ra1.hc, ra1.inc, hns, rd, fun H2 p l u xs s2 hp hl hx => ?_⟩
  exact ⟨_, _, _, _, rfl, rfl, hp, rfl, q _ l xs (s1.trans s2) hl hx⟩
end
end K89

set_option maxRecDepth 100000
set_option maxHeartbeats 2000000
namespace K89
open PySem PySem.Spec PyProof.Rows L2
theorem sc_reads_as : FnScope ["found", "numbers", "start", "word", "number"] ["found", "numbers"] (defScope s_reads_as) := ⟨rfl, rfl, rfl, by decide +kernel, rfl, by decide +kernel, by decide +kernel⟩
theorem sc_is_read_right : FnScope ["shape", "receiver", "phase", "signal", "numbers"] ["shape", "receiver", "phase", "signal", "numbers"] (defScope s_is_read_right) := ⟨rfl, rfl, rfl, by decide +kernel, rfl, by decide +kernel, by decide +kernel⟩
/-- data of so small a depth -/
def Shp (d : PyData) (n : Nat) : Prop := d.canLay0 = true ∧ d.depth ≤ n
theorem Shp.int {i : Int} {n : Nat} : Shp (.int i) n := ⟨rfl, Nat.zero_le _⟩
theorem Shp.non {n : Nat} : Shp .none n := ⟨rfl, Nat.zero_le _⟩
theorem shp_all {n : Nat} : ∀ {ds : List PyData}, (∀ d ∈ ds, Shp d n) → PyData.canLayAll0 ds = true ∧ PyData.depthAll ds ≤ n
  | [], _ => ⟨rfl, Nat.zero_le _⟩
  | d :: r, h => by
    obtain ⟨h1, h2⟩ := h d List.mem_cons_self
    obtain ⟨h3, h4⟩ := shp_all (ds := r) fun x m => h x (List.mem_cons_of_mem _ m)
    refine ⟨?_, ?_⟩
    · rw [PyData.canLayAll0, h1, h3] <;> rfl
    · rw [PyData.depthAll]
      exact Nat.max_le.mpr ⟨h2, h4⟩
theorem Shp.list {ds : List PyData} {n : Nat} (h : ∀ d ∈ ds, Shp d n) : Shp (.list ds) (n + 1) := by
  obtain ⟨h1, h2⟩ := shp_all h
  refine ⟨?_, ?_⟩
  · rw [PyData.canLay0]
    exact h1
  · rw [PyData.depth]
    exact Nat.succ_le_succ h2
theorem Shp.tuple {ds : List PyData} {n : Nat} (h : ∀ d ∈ ds, Shp d n) : Shp (.tuple ds) (n + 1) := by
  obtain ⟨h1, h2⟩ := shp_all h
  refine ⟨?_, ?_⟩
  · rw [PyData.canLay0]
    exact h1
  · rw [PyData.depth]
    exact Nat.succ_le_succ h2
theorem Shp.ok {d : PyData} {n : Nat} (h : Shp d n) (hn : n ≤ 64 := by decide) : SeqAt.shaped d = true := by
  unfold SeqAt.shaped
  rw [h.1, decide_eq_true (Nat.le_trans h.2 hn)] <;> rfl
section
variable {K : PySem.W.Frag} {H : Hp} {Q : VK} {x y : V} {d : PyData} {n : Nat}
theorem eq_self (h1 : Dp K H x d) (h2 : Dp K H y d) (s : Shp d n) (q : Q (.bl true) H) (hn : n ≤ 64 := by decide) : rEqD K x y H Q := by
  refine ⟨d, d, h1, h2, s.ok hn, s.ok hn, ?_⟩
  rw [PySem.SeqAt.eqv_refl d s.1]
  exact q
theorem ne_self (h1 : Dp K H x d) (h2 : Dp K H y d) (s : Shp d n) (q : Q (.bl false) H) (hn : n ≤ 64 := by decide) : rNeD K x y H Q := by
  refine ⟨d, d, h1, h2, s.ok hn, s.ok hn, ?_⟩
  rw [PySem.SeqAt.eqv_refl d s.1]
  exact q
theorem ne_nil {a : Addr} {ds : List PyData} (h1 : Dp K H x (.list ds)) (h2 : SqL K H a []) (s : Shp (.list ds) n) (q : Q (.bl (!ds.isEmpty)) H) (hn : n ≤ 64 := by decide) : rNeD K x (.ref a) H Q := by
  refine ⟨.list ds, .list [], h1, .lst h2 .nil, s.ok hn, rfl, ?_⟩
  cases ds <;> exact q
theorem eq_nil {a : Addr} {ds : List PyData} (h1 : Dp K H x (.list ds)) (h2 : SqL K H a []) (s : Shp (.list ds) n) (q : Q (.bl ds.isEmpty) H) (hn : n ≤ 64 := by decide) : rEqD K x (.ref a) H Q := by
  refine ⟨.list ds, .list [], h1, .lst h2 .nil, s.ok hn, rfl, ?_⟩
  cases ds <;> exact q
end
theorem dp_ints {K : PySem.W.Frag} {H : Hp} : ∀ ns : List Nat, DpAll K H (iv ns) (ns.map fun N => .int (N : Nat))
  | [] => .nil
  | N :: r => .cons (.int _) (dp_ints r)
theorem dp_iv {K : PySem.W.Frag} {H : Hp} {a : Addr} {ns : List Nat} (h : SqL K H a (iv ns)) : Dp K H (.ref a) (.list (ns.map fun N => .int (N : Nat))) := .lst h (dp_ints ns)
theorem shp_iv (ns : List Nat) : Shp (.list (ns.map fun N => .int (N : Nat))) 1 := Shp.list fun d hd => by
  obtain ⟨N, _, rfl⟩ := List.mem_map.mp hd
  exact .int
/-- ('good', number), one for each number -/
abbrev GdL (K : PySem.W.Frag) (H : Hp) : List V → List Nat → Prop := Paired fun x N => ∃ a : Addr, x = .ref a ∧ SqT K H a [.str "good", .int (N : Nat)]
def gdD (ns : List Nat) : List PyData := ns.map fun N => .tuple [.str "good", .int (N : Nat)]
theorem GdL.dp {K : PySem.W.Frag} {H : Hp} : ∀ {xs : List V} {ns : List Nat}, GdL K H xs ns → DpAll K H xs (gdD ns)
  | _, _, .nil => .nil
  | _, _, .cons ⟨a, e, h⟩ t => by
    rw [e]
    exact .cons (.tup h (.cons (.str _) (.cons (.int _) .nil))) (GdL.dp t)
theorem shp_gd (ns : List Nat) : Shp (.list (gdD ns)) 2 := Shp.list fun d hd => by
  obtain ⟨N, _, rfl⟩ := List.mem_map.mp hd
  refine Shp.tuple fun d hd => ?_
  rcases List.mem_cons.mp hd with rfl | hd
  · exact ⟨by decide +kernel, Nat.zero_le _⟩
  · rcases List.mem_cons.mp hd with rfl | hd
    · exact .int
    · cases hd
theorem GdL.same {K : PySem.W.Frag} {H H' : Hp} (s : Same H H') {xs : List V} {ns : List Nat} (h : GdL K H xs ns) : GdL K H' xs ns := Paired.mapP h fun _ _ ⟨a, e, q⟩ => ⟨a, e, s.seqT q⟩
theorem take_snoc {α : Type} {l : List α} {i : Nat} {x : α} (h : l[i]? = some x) : l.take (i + 1) = l.take i ++ [x] := by rw [List.take_add_one, h] <;> rfl
/-- what a list gained: the tuples stand -/
theorem SqT.onL {K : PySem.W.Frag} {H : Hp} {l x : Addr} {xs ys zs : List V} (hl : H l = some (.lst xs)) (hx : SqT K H x ys) : SqT K (upd H l (.lst zs)) x ys := by
  rcases hx with (hx | ⟨o, hx⟩) | hx
  · exact .inl (.inl (by rw [upd_ne (ne_of hx hl (fun z => nomatch z))]; exact hx))
  · exact .inl (.inr ⟨o, by rw [upd_ne (ne_of hx hl (fun z => nomatch z))]; exact hx⟩)
  · exact .inr hx
/-- as the heap ahead, but for a list made since -/
theorem Same.onL {H H' : Hp} {l : Addr} {o : HO} (nl : H l = none) (s : Same H H') : Same H (upd H' l o) := fun x u e => by
  rw [upd_ne (ne_of_none e nl)]
  exact s _ _ e
section
variable {P : Program} {w : World} {K : PySem.W.Frag} {mg : PySem.Str → Option Value} {base : Heap}
theorem ok_reads_as (T : Tx K mg) : Good P w K mg base "reads_as" 1 ["found", "numbers"] [] (fun vs H Q _ => ∃ (l b : Addr) (xs : List V) (ns : List Nat), vs = [.ref l, .ref b] ∧ SqL K H l xs ∧ RdL K H xs ns ∧ SqL K H b (iv ns) ∧ ns.length ≤ 1000 ∧ ∀ H', Same H H' → Q (.bl true) H') := by
  refine mkGood T.f_reads_as T.g_reads_as sc_reads_as (fun _ _ _ _ _ _ us hl => match us, hl with | [_, _], _ => rfl) (fun vs H Q E h => by obtain ⟨_, _, _, _, rfl, _⟩ := h; rfl) (fun cdv A outer s H vs Q E hr h => ?_)
  obtain ⟨l, b, xs, ns, rfl, hl, hx, hb, hns, q⟩ := h
  refine ⟨_, (pss_one (ps_ret (pe_cmpR (op_eqD hr.units) (pe_lc rfl sc_reads_as.nd (pi_list (pv 0)) (show BlkOk ["found", "numbers", "start", "word", "number"] (defScope s_reads_as) _ [("start", 2), ("word", 3), ("number", 4)] from blkOk_by (by decide +kernel)) (fun _ _ _ _ _ => (pgT (K := K) (n := 3) rfl rfl (pgs_cons (pg_name (i := 2) sc_reads_as.nd rfl (by first | exact .inl rfl | exact .inr rfl)) (pgs_cons (pg_name (i := 3) sc_reads_as.nd rfl (by first | exact .inl rfl | exact .inr rfl)) (pgs_cons (pg_name (i := 4) sc_reads_as.nd rfl (by first | exact .inl rfl | exact .inr rfl)) pgs_nil))))) (fun _ _ _ _ _ => pts_nil) (fun _ _ _ _ _ => (pe_tup (pa_cons (pv 3) (pa_cons (pv 4) pa_nil))))) (pe_lc rfl sc_reads_as.nd (pi_list (pv 1)) (show BlkOk ["found", "numbers", "start", "word", "number"] (defScope s_reads_as) _ [("number", 4)] from blkOk_by (by decide +kernel)) (fun _ _ _ _ _ => (pg_name (i := 4) sc_reads_as.nd rfl (by first | exact .inl rfl | exact .inr rfl))) (fun _ _ _ _ _ => pts_nil) (fun _ _ _ _ _ => (pe_tup (pa_cons pe_str (pa_cons (pv 4) pa_nil))))) (nomark _)))), ?_⟩
  have len : xs.length = ns.length := Paired.length hx
  refine ⟨_, rfl, l, rfl, ⟨xs, hl⟩, fun D nD => ?_⟩
  refine cw_list (xs := xs) (fun i H' => Same H H' ∧ ∃ ys, H' D = some (.lst ys) ∧ GdL K H' ys (ns.take i)) ⟨Same.up nD, [], upd_same, .nil⟩ (fun i H' _ hp => hp.1.seq hl) (fun i x H' ex hp => ?_) (fun H1 hp => ?_)
  · obtain ⟨sm, ys, hD, hg⟩ := hp
    obtain ⟨N, eN, a, st, rfl, ha⟩ := Paired.getl hx ex
    refine ⟨_, _, rfl, sm.seqT ha, rfl, _, _, rfl, _, _, rfl, _, _, rfl, rfl, rfl, ?_⟩
    refine ⟨_, rfl, _, rfl, (by decide : 2 ≤ sizeLine), fun p np => ?_⟩
    refine ⟨ys, by rw [upd_ne (ne_of_none hD np)]; exact hD, small_len (n := 1000) (by rw [Paired.length hg, List.length_take]; omega), ?_⟩
    have hD' : (upd H' p (.tup [.str "good", .int (N : Nat)])) D = some (.lst ys) := by rw [upd_ne (ne_of_none hD np)]; exact hD
    refine ⟨Same.onL nD (sm.trans (Same.up np)), _, upd_same, ?_⟩
    rw [take_snoc eN]
    refine Paired.snoc (Paired.mapP (hg.same (Same.up np)) fun _ _ ⟨a, e, z⟩ => ⟨a, e, SqT.onL hD' z⟩) ⟨p, rfl, SqT.onL hD' SqT.new⟩
  · obtain ⟨sm, ys, hD, hg⟩ := hp
    rw [len, List.take_length] at hg
    refine ⟨_, rfl, b, rfl, ⟨_, sm.seq hb⟩, fun D2 n2 => ?_⟩
    have nD2 : D2 ≠ D := (ne_of_none hD n2).symm
    refine cw_list (xs := iv ns) (fun i H' => Same H1 H' ∧ ∃ zs, H' D2 = some (.lst zs) ∧ GdL K H' zs (ns.take i)) ⟨Same.up n2, [], upd_same, .nil⟩ (fun i H' _ hp => hp.1.seq (sm.seq hb)) (fun i x H' ex hp => ?_) (fun H2 hp => ?_)
    · obtain ⟨sm2, zs, hD2, hg2⟩ := hp
      obtain ⟨N, rfl, eN⟩ := atN ex
      refine ⟨rfl, _, rfl, (by decide : 2 ≤ sizeLine), fun p np => ?_⟩
      have hD' : (upd H' p (.tup [.str "good", .int (N : Nat)])) D2 = some (.lst zs) := by rw [upd_ne (ne_of_none hD2 np)]; exact hD2
      refine ⟨zs, hD', small_len (n := 1000) (by rw [Paired.length hg2, List.length_take]; omega), ?_⟩
      refine ⟨Same.onL n2 (sm2.trans (Same.up np)), _, upd_same, ?_⟩
      rw [take_snoc eN]
      refine Paired.snoc (Paired.mapP (hg2.same (Same.up np)) fun _ _ ⟨a, e, z⟩ => ⟨a, e, SqT.onL hD' z⟩) ⟨p, rfl, SqT.onL hD' SqT.new⟩
    · obtain ⟨sm2, zs, hD2, hg2⟩ := hp
      have lz : (iv ns).length = ns.length := List.length_map _
      rw [lz, List.take_length] at hg2
      refine eq_self (d := .list (gdD ns)) (.lst (sm2.seq (.inl (.inl hD))) (hg.same sm2).dp) (.lst (.inl (.inl hD2)) hg2.dp) (shp_gd ns) (q _ (sm.trans sm2))
theorem ok_is_read_right (T : Tx K mg) : Good P w K mg base "is_read_right" 6 ["shape", "receiver", "phase", "signal", "numbers"] [] (fun vs H Q _ => ∃ (a b c e : Addr) (h : Sh) (r : Rc) (ph : Int) (ch : List Int) (m : Nat) (ns : List Nat), vs = [.ref a, .ref b, .int ph, .ref c, .ref e] ∧ RdArg K H a b c h r ch ∧
    SqL K H e (iv ns) ∧ (∀ N ∈ ns, N < 2 ^ h.d) ∧ ns.length ≤ 60 ∧ Rdg h r ch ph m ph ns ∧ ∀ H', Same H H' → Q (.bl true) H') := by
  refine mkGood T.f_is_read_right T.g_is_read_right sc_is_read_right (fun _ _ _ _ _ _ us hl => match us, hl with | [_, _, _, _, _], _ => rfl) (fun vs H Q E h => by obtain ⟨_, _, _, _, _, _, _, _, _, _, rfl, _⟩ := h; rfl) (fun cdv A outer s H vs Q E hr h => ?_)
  obtain ⟨a, b, c, e, h, r, ph, ch, m, ns, rfl, ra, he, hN, hns, rd, q⟩ := h
  refine ⟨_, (pss_cons (ps_expr (pe_go (ok_require_reading T) hr (pa_cons (pv 0) (pa_cons (pv 1) (pa_cons (pv 2) (pa_cons (pv 3) pa_nil))))))
    (pss_cons (ps_expr (pe_go (ok_require_text2 T) hr (pa_cons (pv 0) (pa_cons (pv 4) pa_nil))))
    (pss_one (ps_ret (pe_go (ok_reads_as T) hr (pa_cons (pe_ix ix_tup (pe_go (ok_walk T) hr (pa_cons (pv 0) (pa_cons (pv 1) (pa_cons (pv 2) (pa_cons (pv 3) (pa_cons pe_non pa_nil)))))) pe_int (fun _ _ => rfl)) (pa_cons (pv 4) pa_nil))))))), ?_⟩
  refine ⟨_, rfl, _, rfl, _, rfl, _, rfl, a, b, c, h, r, ph, ch, rfl, ra, fun H1 s1 => ?_⟩
  have ra1 := ra.same s1
  refine ⟨_, rfl, _, rfl, a, e, h, ns, 0, 60, rfl, ra1.hs, ra1.ok, s1.seq he, hN, Nat.zero_le _, hns, fun H2 s2 => ?_⟩
  have ra2 := ra1.same s2
  refine ⟨_, rfl, _, rfl, _, rfl, _, rfl, a, b, c, h, r, ph, ch, m, ns, rfl, ra2.hs, ra2.ok, ra2.hr, ra2.rok, ra2.hc, ra2.inc, by omega, rd, fun H3 p l u xs s3 hp hl hx => ?_⟩
  refine ⟨_, _, _, _, rfl, rfl, hp, rfl, _, rfl, l, e, xs, ns, rfl, hl, hx, s3.seq (s2.seq (s1.seq he)), by omega, fun H4 s4 => q _ (((s1.trans s2).trans s3).trans s4)⟩
end
end K89

set_option maxRecDepth 100000
set_option maxHeartbeats 2000000
/-! the record's parts, in plain words -/
namespace K89
open PySem L2
abbrev Run := Nat × Option Nat
def rnOf : List Int → List Run
  | a :: b :: r => ((b - a).toNat, r.head?.map fun c => (c - b).toNat) :: rnOf r
  | _ => []
def oV : Option Nat → V
  | none => .non
  | some o => .int (o : Nat)
def runV (r : Run) : List V := [.int (r.1 : Nat), oV r.2]
def prV (p : Nat × Nat) : List V := [.int (p.1 : Nat), .int (p.2 : Nat)]
/-- references to tuples -/
abbrev PL (K : PySem.W.Frag) (H : Hp) : List V → List (List V) → Prop := Paired fun x t => ∃ a : Addr, x = .ref a ∧ SqT K H a t
structure Sn where
  lo : Nat
  hi : Nat
structure Sn.Ok (s : Sn) : Prop where
  l1 : 1 ≤ s.lo
  le : s.lo ≤ s.hi
  big : s.hi < 2 ^ 7000
def Sn.vs (s : Sn) : List V := [.int (s.lo : Nat), .int (s.hi : Nat)]
def cntA (s : Sn) (z : Nat) : Nat := (z + s.hi - 1) / s.hi
def cntB (s : Sn) (z : Nat) (most : Int) : Int := if ((z / s.lo : Nat) : Int) < most then ((z / s.lo : Nat) : Int) else most
def cnts (s : Sn) (z : Nat) (most : Int) : List Nat := (List.range (cntB s z most + 1 - (cntA s z : Nat)).toNat).map fun i => cntA s z + i
def canEnd (h : Sh) (s : Sn) (b : Nat) : Option Nat → Bool
  | none => true
  | some o => decide ((h.n - b) * s.lo ≤ o)
def inner (h : Sh) (s : Sn) (b : Nat) : Option Nat → List Nat
  | none => []
  | some o => cnts s o ((h.stop : Nat) - (b : Nat) - 1)
def canPar (h : Sh) (odd b : Nat) : Bool := decide (h.p = 0 ∨ (odd + h.stop - b) % 2 = h.po)
def mvs (h : Sh) (s : Sn) (r : Run) (st : Nat × Nat) : List (Nat × Nat) :=
  (cnts s r.1 ((h.stop : Nat) - (st.1 : Nat))).flatMap fun many =>
    (if (canEnd h s (st.1 + many) r.2 && canPar h st.2 (st.1 + many)) = true then [(0, 0)] else []) ++ (inner h s (st.1 + many) r.2).map fun more => (st.1 + many + more, (st.2 + more) % 2)
def onesFrom (place many : Nat) : Nat := ((List.range many).map fun t => 2 ^ (place + t - 1)).sum
def ended (h : Sh) (place num : Nat) : Option Nat :=
  if h.p ≠ 0 ∧ plv h (num + onesFrom place (h.d + 1 - place)) ≠ (if place ≤ h.d + 1 then 1 else 0) then none else some (num + onesFrom place (h.d + 1 - place))
/-- the frames that may stand from a place on: the number, the run that follows -/
def lvs (h : Sh) (s : Sn) : List Run → Nat → Nat → Nat → List (Nat × Nat)
  | [], _, _, _ => []
  | r :: rs, p, num, ix => (cnts s r.1 ((h.stop : Nat) - (p : Nat))).flatMap fun many =>
      (if canEnd h s (p + many) r.2 = true then (match ended h (p + many) num with
        | some e => [(e, ix + 1)]
        | none => []) else []) ++ (inner h s (p + many) r.2).flatMap fun more => lvs h s rs (p + many + more) (num + onesFrom (p + many) more) (ix + 1)
/-- the runs are small against the span -/
structure RunOk (s : Sn) (r : Run) : Prop where
  z : r.1 ≤ 2 ^ 60 * s.hi
  z1 : 1 ≤ r.1
  o : ∀ o, r.2 = some o → o ≤ 2 ^ 60 * s.hi ∧ 1 ≤ o
theorem mem_cnts {s : Sn} (ok : s.Ok) {z k : Nat} {most : Int} (hz : 1 ≤ z) : k ∈ cnts s z most ↔ (1 ≤ k ∧ k * s.lo ≤ z ∧ z ≤ k * s.hi ∧ (k : Int) ≤ most) := by
  have l1 := ok.l1
  have h1 : 1 ≤ s.hi := Nat.le_trans l1 ok.le
  have a1 : 1 ≤ cntA s z := by
    unfold cntA
    exact (Nat.le_div_iff_mul_le h1).mpr (by omega)
  have ea : ∀ k, cntA s z ≤ k ↔ z ≤ k * s.hi := fun k => by
    unfold cntA
    rw [Nat.div_le_iff_le_mul_add_pred h1, Nat.mul_comm]
    omega
  have eb : ∀ k : Nat, k ≤ z / s.lo ↔ k * s.lo ≤ z := fun k => Nat.le_div_iff_mul_le l1
  unfold cnts
  rw [List.mem_map]
  constructor
  · rintro ⟨i, hi, rfl⟩
    rw [List.mem_range] at hi
    have hb : ((cntA s z + i : Nat) : Int) ≤ cntB s z most := by omega
    unfold cntB at hb
    have h2 : cntA s z + i ≤ z / s.lo := by split at hb <;> omega
    have h3 : ((cntA s z + i : Nat) : Int) ≤ most := by split at hb <;> omega
    exact ⟨by omega, (eb _).mp h2, (ea _).mp (by omega), h3⟩
  · rintro ⟨h0, h2, h3, h4⟩
    have h5 := (ea k).mpr h3
    have h6 := (eb k).mpr h2
    refine ⟨k - cntA s z, ?_, by omega⟩
    rw [List.mem_range]
    unfold cntB
    split <;> omega
theorem cnts_len {s : Sn} {z : Nat} {most : Int} {M : Nat} (h : most ≤ M) : (cnts s z most).length ≤ M + 1 := by
  unfold cnts
  rw [List.length_map, List.length_range]
  unfold cntB
  split <;> omega
theorem rn_len : ∀ ch : List Int, (rnOf ch).length = ch.length / 2
  | [] => rfl
  | [_] => by
    unfold rnOf
    simp
  | a :: b :: r => by
    show (rnOf r).length + 1 = (r.length + 1 + 1) / 2
    rw [rn_len r]
    omega
theorem rn_at : ∀ {ch : List Int} {i : Nat} {a b : Int}, ch[2 * i]? = some a → ch[2 * i + 1]? = some b → (rnOf ch)[i]? = some ((b - a).toNat, (ch[2 * i + 2]?).map fun c => (c - b).toNat)
  | [], _, _, _, h, _ => by simp at h
  | [_], 0, _, _, _, h => by simp at h
  | [_], i + 1, _, _, h, _ => by simp [Nat.mul_add] at h
  | x :: y :: r, 0, a, b, h1, h2 => by
    have e1 : x = a := by simpa using h1
    have e2 : y = b := by simpa using h2
    subst e1 e2
    show some ((y - x).toNat, r.head?.map fun c => (c - y).toNat) = _
    cases r <;> rfl
  | x :: y :: r, i + 1, a, b, h1, h2 => by
    have e1 : r[2 * i]? = some a := by simpa [Nat.mul_add] using h1
    have e2 : r[2 * i + 1]? = some b := by
      have : 2 * (i + 1) + 1 = 2 * i + 1 + 1 + 1 := by omega
      rw [this] at h2
      simpa using h2
    have ih := rn_at e1 e2
    show (rnOf r)[i]? = _
    rw [ih]
    have : 2 * (i + 1) + 2 = 2 * i + 2 + 1 + 1 := by omega
    rw [this] <;> simp
end K89

set_option maxRecDepth 100000
set_option maxHeartbeats 2000000
namespace K89
open PySem PySem.Spec PyProof.Rows L2
theorem sc_runs_of : FnScope ["changes", "found", "index", "begin", "end"] ["changes"] (defScope s_runs_of) := ⟨rfl, rfl, rfl, by decide +kernel, rfl, by decide +kernel, by decide +kernel⟩
theorem PL.same {K : PySem.W.Frag} {H H' : Hp} (s : Same H H') {xs : List V} {ts : List (List V)} (h : PL K H xs ts) : PL K H' xs ts := Paired.mapP h fun _ _ ⟨a, e, q⟩ => ⟨a, e, s.seqT q⟩
theorem PL.onL {K : PySem.W.Frag} {H : Hp} {l : Addr} {xs ys zs : List V} {ts : List (List V)} (hl : H l = some (.lst ys)) (h : PL K H xs ts) : PL K (upd H l (.lst zs)) xs ts := Paired.mapP h fun _ _ ⟨a, e, q⟩ => ⟨a, e, SqT.onL hl q⟩
theorem cut_two {ch : List Int} {i : Nat} {a b : Int} (h1 : ch[2 * i]? = some a) (h2 : ch[2 * i + 1]? = some b) : cutV (zv ch) (some ((2 * i : Nat) : Int)) (some ((2 * i + 2 : Nat) : Int)) = [.int a, .int b] := by
  have l1 := (List.getElem?_eq_some_iff.mp h1).1
  have l2 := (List.getElem?_eq_some_iff.mp h2).1
  have lz : (zv ch).length = ch.length := List.length_map _
  unfold cutV
  rw [HT.sIx_nat, HT.sIx_nat, lz, Nat.min_eq_left (by omega), Nat.min_eq_left (by omega), show 2 * i + 2 - 2 * i = 2 by omega]
  apply List.ext_getElem?
  intro j
  rw [List.getElem?_take, List.getElem?_drop]
  match j with
  | 0 => rw [if_pos (by decide), Nat.add_zero, toZ h1] <;> rfl
  | 1 => rw [if_pos (by decide), toZ h2] <;> rfl
  | j + 2 => rw [if_neg (by omega)] <;> rfl
theorem rgs2 (n : Nat) : Builtin.Range.rangeSize 0 ((2 * n : Nat) : Int) 2 = (n : Nat) := by
  unfold Builtin.Range.rangeSize
  rw [if_pos (by decide)]
  split <;> omega
theorem RgC2 (n : Nat) (h : n ≤ 1000) : RgC 0 ((2 * n : Nat) : Int) 2 n := by
  refine ⟨by decide, by decide, ?_, rgs2 n⟩
  have f : ∀ i : Int, -10000 ≤ i → i ≤ 10000 → Builtin.Range.rangeFitsLong i = true := by
    intro i h1 h2
    unfold Builtin.Range.rangeFitsLong
    rw [Bool.and_eq_true, decide_eq_true_eq, decide_eq_true_eq]
    constructor <;> omega
  unfold Builtin.Range.small
  rw [rgs2, f 0 (by decide) (by decide), f ((2 * n : Nat) : Int) (by omega) (by omega), f 2 (by decide) (by decide), f (n : Nat) (by omega) (by omega), if_pos (by decide), f _ (by omega) (by omega)]
  simp
section
variable {P : Program} {w : World} {K : PySem.W.Frag} {mg : PySem.Str → Option Value} {base : Heap}
theorem ok_runs_of (T : Tx K mg) : Good P w K mg base "runs_of" 1 ["changes"] [] (fun vs H Q _ => ∃ (a : Addr) (ch : List Int) (n : Nat), vs = [.ref a] ∧ SqL K H a (zv ch) ∧ Inc ch ∧ ch.length = 2 * n ∧ n ≤ 1000 ∧
    ∀ H' p xs, Same H H' → H p = none → H' p = some (.lst xs) → PL K H' xs ((rnOf ch).map runV) → Q (.ref p) H') := by
  refine mkGood T.f_runs_of T.g_runs_of sc_runs_of (fun _ _ _ _ _ _ us hl => match us, hl with | [_], _ => rfl) (fun vs H Q E h => by obtain ⟨_, _, _, rfl, _⟩ := h; rfl) (fun cdv A outer s H vs Q E hr h => ?_)
  obtain ⟨a, ch, n, rfl, ha, hi, hlen, hn, q⟩ := h
  refine ⟨_, (pss_cons (ps_set (i := 1) sc_runs_of.nd rfl (by first | exact .inl rfl | exact .inr rfl) (pe_lst pa_nil))
    (pss_cons (ps_for PassesOwn.never rfl (pi_range3 (by rfl) T.n_range (pa_cons pe_int (pa_cons (pe_callB call_len_seq (by rfl) T.n_len bt_len (pa_cons (pv 0) pa_nil)) (pa_cons pe_int pa_nil)))) (pg_name (i := 2) sc_runs_of.nd rfl (by first | exact .inl rfl | exact .inr rfl))
    (pss_cons (ps_asg (pe_slice sl_list (pv 0) (po_some (pv 2)) (po_some (pe_op op_add (pv 2) pe_int))) (pg_unl rfl (pgs_cons (pg_name (i := 3) sc_runs_of.nd rfl (by first | exact .inl rfl | exact .inr rfl)) (pgs_cons (pg_name (i := 4) sc_runs_of.nd rfl (by first | exact .inl rfl | exact .inr rfl)) pgs_nil))))
    (pss_one (ps_expr (pe_bm PySem.F.plainAttrs_list PySem.F.slot_list_append PySem.F.type_list_append mt_append (pv 1) (pa_cons (pe_tup (pa_cons (pe_op op_sub (pv 4) (pv 3)) (pa_cons (pe_ifExp (pt_cmpR op_lt (pe_op op_add (pv 2) pe_int) (pe_callB call_len_seq (by rfl) T.n_len bt_len (pa_cons (pv 0) pa_nil)) (nomark _)) (pe_op op_sub (pe_ix ix_list (pv 0) (pe_op op_add (pv 2) pe_int) (fun _ _ => rfl)) (pv 4)) pe_non) pa_nil))) pa_nil))))))
    (pss_one (ps_ret (pv 1))))), ?_⟩
  refine ⟨by decide, fun l nl => ?_⟩
  have lz : (zv ch).length = ch.length := List.length_map _
  refine ⟨_, rfl, _, _, rfl, .inl (ha.up nl), 0, ((2 * n : Nat) : Int), 2, n, by rw [lz, hlen], RgC2 n hn, ?_⟩
  refine for_rangeC (fun i σ H' => ∃ x2 x3 x4 xs, σ = [some (.ref a), some (.ref l), x2, x3, x4] ∧ Same H H' ∧ H' l = some (.lst xs) ∧ PL K H' xs (((rnOf ch).map runV).take i)) ⟨none, none, none, [], rfl, Same.up nl, upd_same, .nil⟩ (fun i σ H' hin hp => ?_) (fun σ H' hp => ?_)
  · obtain ⟨x2, x3, x4, xs, rfl, sm, hl, hx⟩ := hp
    have l1 : 2 * i < ch.length := by omega
    have l2 : 2 * i + 1 < ch.length := by omega
    have e1 : ch[2 * i]? = some ch[2 * i] := List.getElem?_eq_getElem l1
    have e2 : ch[2 * i + 1]? = some ch[2 * i + 1] := List.getElem?_eq_getElem l2
    have inc := inc_at hi e1 e2 (by omega)
    have zi : (0 : Int) + (i : Nat) * 2 = ((2 * i : Nat) : Int) := by omega
    rw [zi]
    have zi2 : ((2 * i : Nat) : Int) + 2 = ((2 * i + 2 : Nat) : Int) := by omega
    refine ⟨_, rfl, _, rfl, _, rfl, _, rfl, _, _, rfl, rfl, _, rfl, a, _, rfl, sm.seq ha, fun c nc => ?_⟩
    have hl2 : (upd H' c (.lst (cutV (zv ch) (some ((2 * i : Nat) : Int)) (some (((2 * i : Nat) : Int) + 2))))) l = some (.lst xs) := by
      rw [upd_ne (ne_of_none hl nc)]
      exact hl
    have sm2 := sm.trans (Same.up (o := .lst (cutV (zv ch) (some ((2 * i : Nat) : Int)) (some (((2 * i : Nat) : Int) + 2)))) nc)
    have hx2 := hx.same (Same.up (o := .lst (cutV (zv ch) (some ((2 * i : Nat) : Int)) (some (((2 * i : Nat) : Int) + 2)))) nc)
    refine ⟨c, [.int ch[2 * i], .int ch[2 * i + 1]], rfl, ?_, rfl, _, _, rfl, _, _, rfl, rfl, ?_⟩
    · rw [zi2, cut_two e1 e2]
      exact SqL.new
    generalize upd H' c (.lst (cutV (zv ch) (some ((2 * i : Nat) : Int)) (some (((2 * i : Nat) : Int) + 2)))) = H2 at hl2 sm2 hx2 ⊢
    have step : ∀ (o : Option Nat) (p : Addr), H2 p = none → (ch[2 * i + 2]?.map fun c => (c - ch[2 * i + 1]).toNat) = o → ∃ x2 x3 x4 xs', [some (V.ref a), some (V.ref l), some (.int ((2 * i : Nat) : Int)), some (.int ch[2 * i]), some (.int ch[2 * i + 1])] = [some (.ref a), some (.ref l), x2, x3, x4] ∧
        Same H (upd (upd H2 p (.tup [.int (ch[2 * i + 1] - ch[2 * i]), oV o])) l (.lst (xs ++ [.ref p]))) ∧ (upd (upd H2 p (.tup [.int (ch[2 * i + 1] - ch[2 * i]), oV o])) l (.lst (xs ++ [.ref p]))) l = some (.lst xs') ∧ PL K (upd (upd H2 p (.tup [.int (ch[2 * i + 1] - ch[2 * i]), oV o])) l (.lst (xs ++ [.ref p]))) xs' (((rnOf ch).map runV).take (i + 1)) := by
      intro o p np eo
      have hl3 : (upd H2 p (.tup [.int (ch[2 * i + 1] - ch[2 * i]), oV o])) l = some (.lst xs) := by
        rw [upd_ne (ne_of_none hl2 np)]
        exact hl2
      refine ⟨_, _, _, _, rfl, Same.onL nl (sm2.trans (Same.up np)), upd_same, ?_⟩
      have er := rn_at e1 e2
      rw [eo] at er
      have er2 : ((rnOf ch).map runV)[i]? = some (runV ((ch[2 * i + 1] - ch[2 * i]).toNat, o)) := by rw [List.getElem?_map, er] <;> rfl
      rw [take_snoc er2]
      refine Paired.snoc ((hx2.same (Same.up np)).onL hl3) ⟨p, rfl, SqT.onL hl3 ?_⟩
      have : runV ((ch[2 * i + 1] - ch[2 * i]).toNat, o) = [.int (ch[2 * i + 1] - ch[2 * i]), oV o] := by
        unfold runV
        rw [Int.toNat_of_nonneg (by omega)]
      rw [this]
      exact SqT.new
    have lenx : xs.length ≤ 1000 := by
      rw [Paired.length hx, List.length_take, List.length_map]
      omega
    refine ⟨_, rfl, .inl ⟨rfl, _, .inl (.inl hl2)⟩, ?_⟩
    refine ⟨_, rfl, _, rfl, _, _, rfl, rfl, _, rfl, _, _, rfl, rfl, _, rfl, _, _, rfl, .inl (sm2.seq ha), _, _, rfl, rfl, _, rfl, ite2 (fun e => ?_) (fun e => ?_)⟩
    · have e0 := of_decide_eq_true e
      rw [lz] at e0
      have l3 : 2 * i + 2 < ch.length := by omega
      have e3 : ch[2 * i + 2]? = some ch[2 * i + 2] := List.getElem?_eq_getElem l3
      have inc2 := inc_at hi e2 e3 (by omega)
      refine ⟨_, rfl, _, rfl, _, _, rfl, rfl, _, _, _, _, rfl, rfl, sm2.seq ha, at_of zi2 (toZ e3), _, rfl, _, _, rfl, rfl, (by decide : 2 ≤ sizeLine), fun p np => ?_⟩
      have ev : V.int (ch[2 * i + 2] - ch[2 * i + 1]) = oV (some (ch[2 * i + 2] - ch[2 * i + 1]).toNat) := by
        show _ = V.int _
        rw [Int.toNat_of_nonneg (by omega)]
      refine ⟨l, xs, _, rfl, rfl, by rw [upd_ne (ne_of_none hl2 np)]; exact hl2, small_len lenx, ?_⟩
      simp only [ev]
      exact step _ p np (by rw [e3] <;> rfl)
    · have e0 : ¬ (((2 * i : Nat) : Int) + 2 < (ch.length : Int)) := fun z => e (decide_eq_true (by rw [lz]; exact z))
      refine ⟨(by decide : 2 ≤ sizeLine), fun p np => ?_⟩
      refine ⟨l, xs, _, rfl, rfl, by rw [upd_ne (ne_of_none hl2 np)]; exact hl2, small_len lenx, ?_⟩
      exact step none p np (by rw [List.getElem?_eq_none (by omega)] <;> rfl)
  · obtain ⟨x2, x3, x4, xs, rfl, sm, hl, hx⟩ := hp
    have : ((rnOf ch).map runV).take n = (rnOf ch).map runV := List.take_of_length_le (by rw [List.length_map, rn_len]; omega)
    rw [this] at hx
    exact ⟨_, rfl, q _ l xs sm nl hl hx⟩
end
end K89

set_option maxRecDepth 100000
set_option maxHeartbeats 2000000
namespace K89
open PySem PySem.Spec PyProof.Rows L2
theorem sc_counts_of : FnScope ["ticks", "span", "most"] ["ticks", "span", "most"] (defScope s_counts_of) := ⟨rfl, rfl, rfl, by decide +kernel, rfl, by decide +kernel, by decide +kernel⟩
theorem sc_frame_can_end : FnScope ["shape", "span", "place", "ticks"] ["shape", "span", "place", "ticks"] (defScope s_frame_can_end) := ⟨rfl, rfl, rfl, by decide +kernel, rfl, by decide +kernel, by decide +kernel⟩
theorem sc_inner_counts : FnScope ["shape", "span", "place", "ticks"] ["shape", "span", "place", "ticks"] (defScope s_inner_counts) := ⟨rfl, rfl, rfl, by decide +kernel, rfl, by decide +kernel, by decide +kernel⟩
theorem sc_ones_from : FnScope ["place", "many", "turn"] ["place", "many"] (defScope s_ones_from) := ⟨rfl, rfl, rfl, by decide +kernel, rfl, by decide +kernel, by decide +kernel⟩
theorem sc_ended_number : FnScope ["shape", "place", "number", "found"] ["shape", "place", "number"] (defScope s_ended_number) := ⟨rfl, rfl, rfl, by decide +kernel, rfl, by decide +kernel, by decide +kernel⟩
theorem big_log {i : Nat} (h : i < 2 ^ 7000) : ((i : Nat) : Int).natAbs.log2 < 9000 := by
  rw [Int.natAbs_natCast]
  by_cases e : i = 0
  · rw [e]
    decide
  · exact Nat.lt_trans ((Nat.log2_lt e).mpr h) (by decide)
theorem cntB_le (s : Sn) (z : Nat) (most : Int) : cntB s z most ≤ most := by
  unfold cntB
  split <;> omega
theorem rg_cnts (s : Sn) (z : Nat) (most : Int) : rgV (cntA s z : Nat) (cntB s z most + 1) = iv (cnts s z most) := by
  unfold rgV cnts iv
  rw [List.map_map]
  rfl
section
variable {P : Program} {w : World} {K : PySem.W.Frag} {mg : PySem.Str → Option Value} {base : Heap}
def sp_list (Qf : List Nat) (H : Hp) (Q : VK) : Prop := ∀ H' p, Same H H' → H p = none → H' p = some (.lst (iv Qf)) → Q (.ref p) H'
theorem ok_counts_of (T : Tx K mg) : Good P w K mg base "counts_of" 1 ["ticks", "span", "most"] [] (fun vs H Q _ => ∃ (sp : Addr) (s : Sn) (z : Nat) (most : Int), vs = [.int (z : Nat), .ref sp, .int most] ∧ SqT K H sp s.vs ∧ s.Ok ∧ z ≤ 2 ^ 60 * s.hi ∧ -1000 ≤ most ∧ most ≤ 1000 ∧ sp_list (cnts s z most) H Q) := by
  refine mkGood T.f_counts_of T.g_counts_of sc_counts_of (fun _ _ _ _ _ _ us hl => match us, hl with | [_, _, _], _ => rfl) (fun vs H Q E h => by obtain ⟨_, _, _, _, rfl, _⟩ := h; rfl) (fun cdv A outer s H vs Q E hr h => ?_)
  obtain ⟨sp, s, z, most, rfl, hs, ok, hz, hm0, hm, q⟩ := h
  refine ⟨_, (pss_one (ps_ret (pe_listRg rfl (by rfl) T.n_list (prg_2 (by rfl) T.n_range (pe_op op_fdivW (pe_op op_sub (pe_op op_add (pv 0) (pe_ix ix_tup (pv 1) pe_int (fun _ _ => rfl))) pe_int) (pe_ix ix_tup (pv 1) pe_int (fun _ _ => rfl))) (pe_op op_add (pe_callB (call_min2 rfl) (by rfl) T.n_min bt_min (pa_cons (pv 2) (pa_cons (pe_op op_fdivW (pv 0) (pe_ix ix_tup (pv 1) pe_int (fun _ _ => rfl))) pa_nil))) pe_int))))), ?_⟩
  have l1 := ok.l1
  have le := ok.le
  have big := ok.big
  have h1 : 1 ≤ s.hi := Nat.le_trans l1 le
  have ez : ((z : Nat) : Int) + (s.hi : Nat) - 1 = ((z + s.hi - 1 : Nat) : Int) := by omega
  have eA : (((z : Nat) : Int) + (s.hi : Nat) - 1) / (s.hi : Nat) = ((cntA s z : Nat) : Int) := by
    rw [ez]
    unfold cntA
    rw [Int.natCast_ediv]
  have eB : ((z : Nat) : Int) / (s.lo : Nat) = ((z / s.lo : Nat) : Int) := by rw [Int.natCast_ediv]
  have bA : cntA s z ≤ 2 ^ 60 + 1 := by
    unfold cntA
    rw [Nat.div_le_iff_le_mul_add_pred h1, Nat.mul_comm]
    have : (2 ^ 60 + 1) * s.hi = 2 ^ 60 * s.hi + s.hi := by rw [Nat.add_mul, Nat.one_mul]
    omega
  refine ⟨_, rfl, _, rfl, _, _, _, _, rfl, rfl, hs, rfl, _, _, rfl, rfl, _, _, rfl, rfl, _, rfl, _, _, _, _, rfl, rfl, hs, rfl, _, _, rfl, rfl, ⟨by omega, big_log big⟩, ?_⟩
  refine ⟨_, rfl, _, rfl, _, rfl, _, _, _, _, rfl, rfl, hs, rfl, _, _, rfl, rfl, ⟨by omega, big_log (by omega)⟩, most, _, rfl, _, _, rfl, rfl, _, _, rfl, rfl, ?_⟩
  have eB2 : (if ((z : Nat) : Int) / (s.lo : Nat) < most then ((z : Nat) : Int) / (s.lo : Nat) else most) = cntB s z most := by
    rw [eB]
    rfl
  rw [eA, eB2]
  have b1 := cntB_le s z most
  have b2 : -1000 ≤ cntB s z most := by
    unfold cntB
    generalize z / s.lo = k
    split <;> omega
  refine ⟨⟨by omega, by omega, by omega, by omega, by omega⟩, fun p np => ?_⟩
  refine q _ p (Same.up np) np ?_
  rw [upd_same, rg_cnts]
theorem ok_frame_can_end (T : Tx K mg) : Good P w K mg base "frame_can_end" 2 ["shape", "span", "place", "ticks"] [] (fun vs H Q _ => ∃ (a sp : Addr) (h : Sh) (s : Sn) (b : Nat) (o : Option Nat), vs = [.ref a, .ref sp, .int (b : Nat), oV o] ∧ SqT K H a h.vs ∧ h.Ok ∧ SqT K H sp s.vs ∧ b ≤ h.n ∧ Q (.bl (canEnd h s b o)) H) := by
  refine mkGood T.f_frame_can_end T.g_frame_can_end sc_frame_can_end (fun _ _ _ _ _ _ us hl => match us, hl with | [_, _, _, _], _ => rfl) (fun vs H Q E h => by obtain ⟨_, _, _, _, _, _, rfl, _⟩ := h; rfl) (fun cdv A outer s H vs Q E hr h => ?_)
  obtain ⟨a, sp, h, s, b, o, rfl, hs, ok, hp, hb, q⟩ := h
  refine ⟨_, (pss_one (ps_ret (pe_or (pe_cmpR op_isN (pv 3) pe_non (nomark _)) (pe_one (pe_cmpR op_ge (pv 3) (pe_op op_mul (pe_op op_sub (pe_go (ok_frame_size T) hr (pa_cons (pv 0) pa_nil)) (pv 2)) (pe_ix ix_tup (pv 1) pe_int (fun _ _ => rfl))) (nomark _)))))), ?_⟩
  have hn : h.n ≤ 13 := by
    have := ok.d9
    have := ok.s2
    have : h.q ≤ 1 := by unfold Sh.q; split <;> omega
    unfold Sh.n
    omega
  cases o with
  | none => exact ⟨_, rfl, rfl, true, rfl, iteT q⟩
  | some o =>
    refine ⟨_, rfl, rfl, false, rfl, iteF ⟨_, rfl, _, rfl, a, h, rfl, hs, ok, _, rfl, _, _, rfl, rfl, _, rfl, _, _, _, _, rfl, rfl, hp, rfl, _, _, rfl, rfl, .inl ⟨by omega, by omega⟩, _, _, rfl, rfl, ?_⟩⟩
    have e : decide ((((h.n : Nat) : Int) - (b : Nat)) * (s.lo : Nat) ≤ (o : Nat)) = canEnd h s b (some o) := by
      show _ = decide ((h.n - b) * s.lo ≤ o)
      have e1 : (((h.n : Nat) : Int) - (b : Nat)) * (s.lo : Nat) = (((h.n - b) * s.lo : Nat) : Int) := by
        rw [Int.natCast_mul, Int.natCast_sub hb]
      rw [e1]
      by_cases e2 : (h.n - b) * s.lo ≤ o
      · rw [decide_eq_true e2, decide_eq_true (by omega)]
      · rw [decide_eq_false e2, decide_eq_false (by omega)]
    show Q (.bl (decide ((((h.n : Nat) : Int) - (b : Nat)) * (s.lo : Nat) ≤ (o : Nat)))) H
    rw [e]
    exact q
theorem ok_inner_counts (T : Tx K mg) : Good P w K mg base "inner_counts" 3 ["shape", "span", "place", "ticks"] [] (fun vs H Q _ => ∃ (a sp : Addr) (h : Sh) (s : Sn) (b : Nat) (o : Option Nat), vs = [.ref a, .ref sp, .int (b : Nat), oV o] ∧ SqT K H a h.vs ∧ h.Ok ∧ SqT K H sp s.vs ∧ s.Ok ∧ b ≤ h.stop ∧
    (∀ x, o = some x → x ≤ 2 ^ 60 * s.hi) ∧ sp_list (inner h s b o) H Q) := by
  refine mkGood T.f_inner_counts T.g_inner_counts sc_inner_counts (fun _ _ _ _ _ _ us hl => match us, hl with | [_, _, _, _], _ => rfl) (fun vs H Q E h => by obtain ⟨_, _, _, _, _, _, rfl, _⟩ := h; rfl) (fun cdv A outer s H vs Q E hr h => ?_)
  obtain ⟨a, sp, h, s, b, o, rfl, hs, ok, hp, sok, hb, ho, q⟩ := h
  refine ⟨_, (pss_one (ps_ret (pe_ifExp (pt_cmpR op_isN (pv 3) pe_non (nomark _)) (pe_lst pa_nil) (pe_go (ok_counts_of T) hr (pa_cons (pv 3) (pa_cons (pv 1) (pa_cons (pe_op op_sub (pe_op op_sub (pe_go (ok_first_stop T) hr (pa_cons (pv 0) pa_nil)) (pv 2)) pe_int) pa_nil))))))), ?_⟩
  have hn : h.stop ≤ 11 := by
    have := ok.d9
    have : h.q ≤ 1 := by unfold Sh.q; split <;> omega
    unfold Sh.stop
    omega
  cases o with
  | none =>
    refine ⟨_, rfl, rfl, true, rfl, iteT ⟨by decide, fun p np => q _ p (Same.up np) np upd_same⟩⟩
  | some o =>
    refine ⟨_, rfl, rfl, false, rfl, iteF ⟨_, rfl, _, rfl, _, rfl, a, h, rfl, hs, ok, _, rfl, _, _, rfl, rfl, _, _, rfl, rfl, sp, s, o, _, rfl, hp, sok, ho o rfl, by omega, by omega, q⟩⟩
theorem ok_ones_from (T : Tx K mg) : Good P w K mg base "ones_from" 1 ["place", "many"] [] (fun vs H Q _ => ∃ (p m : Nat), vs = [.int (p : Nat), .int (m : Nat)] ∧ 1 ≤ p ∧ p ≤ 100 ∧ m ≤ 100 ∧ ∀ H', Same H H' → Q (.int (onesFrom p m : Nat)) H') := by
  refine mkGood T.f_ones_from T.g_ones_from sc_ones_from (fun _ _ _ _ _ _ us hl => match us, hl with | [_, _], _ => rfl) (fun vs H Q E h => by obtain ⟨_, _, rfl, _⟩ := h; rfl) (fun cdv A outer s H vs Q E hr h => ?_)
  obtain ⟨p, m, rfl, hp, hp2, hm, q⟩ := h
  refine ⟨_, (pss_one (ps_ret (pe_callB (cr_sum rfl) (by rfl) T.n_sum bt_sum (pa_cons (pe_lc rfl sc_ones_from.nd (pi_range1 (by rfl) T.n_range (pa_cons (pv 1) pa_nil)) (show BlkOk ["place", "many", "turn"] (defScope s_ones_from) _ [("turn", 2)] from blkOk_by (by decide +kernel)) (fun _ _ _ _ _ => (pg_name (i := 2) sc_ones_from.nd rfl (by first | exact .inl rfl | exact .inr rfl))) (fun _ _ _ _ _ => pts_nil) (fun _ _ _ _ _ => (pe_op op_shl pe_int (pe_op op_sub (pe_op op_add (pv 0) (pv 2)) pe_int)))) pa_nil)))), ?_⟩
  refine ⟨_, rfl, _, rfl, by omega, by omega, fun D nD => ?_⟩
  refine cw_range (fun i H' => Same H H' ∧ H' D = some (.lst (iv ((List.range i).map fun t => 2 ^ (p + t - 1))))) ⟨Same.up nD, upd_same⟩ (fun i H' hin hx => ?_) (fun H' hx => ?_)
  · obtain ⟨sm, hD⟩ := hx
    have zi : (0 : Int) + (i : Nat) = (i : Nat) := Int.zero_add _
    rw [zi]
    refine ⟨rfl, _, rfl, _, rfl, _, _, rfl, rfl, _, _, rfl, rfl, _, _, rfl, rfl, ⟨by omega, by omega, by decide⟩, _, hD, small_len (n := 100) (by simp; omega), ?_⟩
    refine ⟨Same.onL nD sm, ?_⟩
    rw [upd_same, List.range_succ, List.map_append]
    unfold iv
    rw [List.map_append]
    congr 4
    show V.int (1 * 2 ^ (((p : Nat) : Int) + (i : Nat) - 1).toNat) = V.int ((2 ^ (p + i - 1) : Nat) : Int)
    rw [Int.one_mul, show (((p : Nat) : Int) + (i : Nat) - 1).toNat = p + i - 1 by omega, Int.natCast_pow]
    rfl
  · obtain ⟨sm, hD⟩ := hx
    rw [Int.toNat_natCast] at hD
    refine ⟨D, ((List.range m).map fun t => 2 ^ (p + t - 1)).map fun N : Nat => ((N : Nat) : Int), rfl, .inl (.inl (by rw [hD, List.map_map] <;> rfl)), ?_⟩
    have e : ∀ l : List Nat, (l.map fun N : Nat => ((N : Nat) : Int)).sum = ((l.sum : Nat) : Int) := by
      intro l
      induction l with
      | nil => rfl
      | cons x r ih => simp [ih]
    rw [e]
    exact q H' sm
theorem onesFrom_zero (p : Nat) : onesFrom p 0 = 0 := rfl
theorem ok_ended_number (T : Tx K mg) : Good P w K mg base "ended_number" 2 ["shape", "place", "number"] [] (fun vs H Q _ => ∃ (a : Addr) (h : Sh) (p num : Nat), vs = [.ref a, .int (p : Nat), .int (num : Nat)] ∧ SqT K H a h.vs ∧ h.Ok ∧ 1 ≤ p ∧ p ≤ 100 ∧ ∀ H', Same H H' → Q (oV (ended h p num)) H') := by
  refine mkGood T.f_ended_number T.g_ended_number sc_ended_number (fun _ _ _ _ _ _ us hl => match us, hl with | [_, _, _], _ => rfl) (fun vs H Q E h => by obtain ⟨_, _, _, _, rfl, _⟩ := h; rfl) (fun cdv A outer s H vs Q E hr h => ?_)
  obtain ⟨a, h, p, num, rfl, hs, ok, hp, hp2, q⟩ := h
  refine ⟨_, (pss_cons (ps_set (i := 3) sc_ended_number.nd rfl (by first | exact .inl rfl | exact .inr rfl) (pe_op op_add (pv 2) (pe_go (ok_ones_from T) hr (pa_cons (pv 1) (pa_cons (pe_callB (call_max2 rfl) (by rfl) T.n_max bt_max (pa_cons pe_int (pa_cons (pe_op op_sub (pe_op op_add (pe_ix ix_tup (pv 0) pe_int (fun _ _ => rfl)) pe_int) (pv 1)) pa_nil))) pa_nil)))))
    (pss_cons (ps_if (PW.pt (pw_and (pt_cmpR op_ne (pe_ix ix_tup (pv 0) pe_int (fun _ _ => rfl)) pe_str (nomark _)) (pw_and1 (pt_cmpR op_ne (pe_go (ok_parity_level T) hr (pa_cons (pv 0) (pa_cons (pv 3) pa_nil))) (pe_callTy call_int1 (by rfl) T.n_int bt_int (pa_cons (pe_cmpR op_le (pv 1) (pe_op op_add (pe_ix ix_tup (pv 0) pe_int (fun _ _ => rfl)) pe_int) (nomark _)) pa_nil)) (nomark _)))))
    (pss_one (ps_ret pe_non)) pss_nil)
    (pss_one (ps_ret (pv 3))))), ?_⟩
  have d9 := ok.d9
  have em : (if ((h.d : Nat) : Int) + 1 - (p : Nat) > 0 then ((h.d : Nat) : Int) + 1 - (p : Nat) else 0) = ((h.d + 1 - p : Nat) : Int) := by
    split <;> omega
  refine ⟨_, rfl, _, rfl, _, rfl, _, _, _, _, rfl, rfl, hs, rfl, _, _, rfl, rfl, _, rfl, _, _, rfl, rfl, 0, _, rfl, p, h.d + 1 - p, by rw [← em] <;> rfl, hp, hp2, by omega, fun H1 s1 => ⟨_, _, rfl, rfl, ?_⟩⟩
  have ef : ((num : Nat) : Int) + ((onesFrom p (h.d + 1 - p) : Nat) : Int) = ((num + onesFrom p (h.d + 1 - p) : Nat) : Int) := by omega
  simp only [ef]
  generalize eF : num + onesFrom p (h.d + 1 - p) = F at q ⊢
  have hq : ended h p num = if h.p ≠ 0 ∧ plv h F ≠ (if p ≤ h.d + 1 then 1 else 0) then none else some F := by
    unfold ended
    rw [eF]
  rw [hq] at q
  have hs1 := s1.seqT hs
  refine ⟨_, rfl, _, _, _, _, rfl, rfl, hs1, rfl, rfl, _, rfl, ?_⟩
  rw [pst_none ok.p2]
  by_cases p0 : h.p = 0
  · rw [decide_eq_true p0]
    refine iteF (iteF ⟨_, rfl, ?_⟩)
    rw [if_neg (fun z => z.1 p0)] at q
    exact q H1 s1
  · rw [decide_eq_false p0]
    refine iteT ⟨_, rfl, _, rfl, a, h, F, rfl, hs1, ok, fun H2 s2 => ?_⟩
    rw [if_neg p0]
    refine ⟨_, rfl, _, rfl, _, _, _, _, rfl, rfl, s2.seqT hs1, rfl, _, _, rfl, rfl, _, _, rfl, rfl, .inr ⟨_, rfl, rfl, _, rfl, ?_⟩⟩
    have eb : (if decide (((p : Nat) : Int) ≤ ((h.d : Nat) : Int) + 1) = true then (1 : Int) else 0) = (((if p ≤ h.d + 1 then 1 else 0) : Nat) : Int) := by
      by_cases e : p ≤ h.d + 1
      · rw [decide_eq_true (by omega), if_pos rfl, if_pos e] <;> rfl
      · rw [decide_eq_false (by omega), if_neg (by decide), if_neg e] <;> rfl
    rw [eb]
    by_cases e : plv h F = (if p ≤ h.d + 1 then 1 else 0)
    · rw [if_neg (fun z => z.2 e)] at q
      rw [decide_eq_true (by rw [e])]
      exact iteF ⟨_, rfl, q _ (s1.trans s2)⟩
    · rw [if_pos ⟨p0, e⟩] at q
      rw [decide_eq_false (fun z => e (by have := V.int.inj z; omega))]
      exact iteT (q _ (s1.trans s2))
end
end K89

set_option maxRecDepth 100000
set_option maxHeartbeats 2000000
namespace K89
open PySem PySem.Spec PyProof.Rows L2
theorem sc_moves_from : FnScope ["shape", "span", "run", "state", "zeros", "ones", "place", "odd", "found", "many", "behind", "even", "more"] ["shape", "span", "run", "state"] (defScope s_moves_from) := ⟨rfl, rfl, rfl, by decide +kernel, rfl, by decide +kernel, by decide +kernel⟩
/-- all but the object at l -/
def hid (H : Hp) (l : Addr) : Hp := fun x => if x = l then none else H x
theorem hid_self {H : Hp} {l : Addr} : hid H l l = none := if_pos rfl
theorem hid_ne {H : Hp} {l x : Addr} (h : x ≠ l) : hid H l x = H x := if_neg h
theorem hid_same (H : Hp) (l : Addr) : Same (hid H l) H := fun x o e => by
  unfold hid at e
  split at e
  · cases e
  · exact e
theorem same_hid {H H' : Hp} {l : Addr} (n : H l = none) (s : Same H H') : Same H (hid H' l) := fun x o e => by
  rw [hid_ne (ne_of_none e n)]
  exact s x o e
theorem seq_hid {K : PySem.W.Frag} {H : Hp} {l c : Addr} {xs : List V} (h : SqL K H c xs) (ne : c ≠ l) : SqL K (hid H l) c xs := by
  rcases h with (h | ⟨o, h⟩) | h
  · exact .inl (.inl (by rw [hid_ne ne]; exact h))
  · exact .inl (.inr ⟨o, by rw [hid_ne ne]; exact h⟩)
  · exact .inr h
theorem seqT_hid {K : PySem.W.Frag} {H : Hp} {l c : Addr} {xs ys : List V} (h : SqT K H c xs) (hl : H l = some (.lst ys)) : SqT K (hid H l) c xs := by
  rcases h with (h | ⟨o, h⟩) | h
  · exact .inl (.inl (by rw [hid_ne (ne_of h hl (fun z => nomatch z))]; exact h))
  · exact .inl (.inr ⟨o, by rw [hid_ne (ne_of h hl (fun z => nomatch z))]; exact h⟩)
  · exact .inr h
theorem fm_take {α β : Type} {l : List α} {f : α → List β} {i : Nat} {x : α} (h : l[i]? = some x) : (l.take (i + 1)).flatMap f = (l.take i).flatMap f ++ f x := by
  rw [take_snoc h, List.flatMap_append]
  simp
theorem Paired.app {α β : Type} {F : α → β → Prop} : ∀ {l l' : List α} {m m' : List β}, Paired F l m → Paired F l' m' → Paired F (l ++ l') (m ++ m')
  | _, _, _, _, .nil, h => h
  | _, _, _, _, .cons r t, h => .cons r (Paired.app t h)
theorem sh_small {h : Sh} (ok : h.Ok) : h.stop ≤ 11 ∧ h.n ≤ 13 ∧ h.stop < h.n ∧ h.stop = 1 + h.d + h.q ∧ h.n = h.stop + h.s := by
  have := ok.d9
  have := ok.s2
  have := ok.s1
  have : h.q ≤ 1 := by unfold Sh.q; split <;> omega
  unfold Sh.stop Sh.n
  omega
theorem inner_len {h : Sh} (ok : h.Ok) (s : Sn) (b : Nat) (o : Option Nat) : (inner h s b o).length ≤ 12 := by
  have := (sh_small ok).1
  cases o with
  | none => exact Nat.zero_le _
  | some o => exact cnts_len (M := 11) (by omega)
theorem mvs_part {h : Sh} (ok : h.Ok) (s : Sn) (r : Run) (st : Nat × Nat) : ∀ l : List Nat, (l.flatMap fun many =>
    (if (canEnd h s (st.1 + many) r.2 && canPar h st.2 (st.1 + many)) = true then [((0, 0) : Nat × Nat)] else []) ++ (inner h s (st.1 + many) r.2).map fun more => (st.1 + many + more, (st.2 + more) % 2)).length ≤ 13 * l.length
  | [] => Nat.le_refl _
  | m :: l => by
    have ih := mvs_part ok s r st l
    have il := inner_len ok s (st.1 + m) r.2
    rw [List.flatMap_cons, List.length_append, List.length_append, List.length_map, List.length_cons]
    split
    · rw [List.length_singleton]
      omega
    · rw [List.length_nil]
      omega
section
variable {P : Program} {w : World} {K : PySem.W.Frag} {mg : PySem.Str → Option Value} {base : Heap}
theorem ok_moves_from (T : Tx K mg) : Good P w K mg base "moves_from" 4 ["shape", "span", "run", "state"] [] (fun vs H Q _ => ∃ (a sp ru sa : Addr) (h : Sh) (s : Sn) (r : Run) (st : Nat × Nat), vs = [.ref a, .ref sp, .ref ru, .ref sa] ∧ SqT K H a h.vs ∧ h.Ok ∧ SqT K H sp s.vs ∧ s.Ok ∧ SqT K H ru (runV r) ∧ RunOk s r ∧
    SqT K H sa (prV st) ∧ st.1 ≤ h.stop ∧ ∀ H' l xs, Same H H' → H l = none → H' l = some (.lst xs) → PL K H' xs ((mvs h s r st).map prV) → Q (.ref l) H') := by
  refine mkGood T.f_moves_from T.g_moves_from sc_moves_from (fun _ _ _ _ _ _ us hl => match us, hl with | [_, _, _, _], _ => rfl) (fun vs H Q E h => by obtain ⟨_, _, _, _, _, _, _, _, rfl, _⟩ := h; rfl) (fun cdv A outer s H vs Q E hr h => ?_)
  obtain ⟨a, sp, ru, sa, h, s, r, st, rfl, hs, ok, hp, sok, hru, rok, hst, hle, q⟩ := h
  refine ⟨_, (pss_cons (ps_asg (pv 2) (pg_tup rfl (pgs_cons (pg_name (i := 4) sc_moves_from.nd rfl (by first | exact .inl rfl | exact .inr rfl)) (pgs_cons (pg_name (i := 5) sc_moves_from.nd rfl (by first | exact .inl rfl | exact .inr rfl)) pgs_nil))))
    (pss_cons (ps_asg (pv 3) (pg_tup rfl (pgs_cons (pg_name (i := 6) sc_moves_from.nd rfl (by first | exact .inl rfl | exact .inr rfl)) (pgs_cons (pg_name (i := 7) sc_moves_from.nd rfl (by first | exact .inl rfl | exact .inr rfl)) pgs_nil))))
    (pss_cons (ps_set (i := 8) sc_moves_from.nd rfl (by first | exact .inl rfl | exact .inr rfl) (pe_lst pa_nil))
    (pss_cons (ps_for PassesOwn.never rfl (pi_list (pe_go (ok_counts_of T) hr (pa_cons (pv 4) (pa_cons (pv 1) (pa_cons (pe_op op_sub (pe_go (ok_first_stop T) hr (pa_cons (pv 0) pa_nil)) (pv 6)) pa_nil))))) (pg_name (i := 9) sc_moves_from.nd rfl (by first | exact .inl rfl | exact .inr rfl))
    (pss_cons (ps_set (i := 10) sc_moves_from.nd rfl (by first | exact .inl rfl | exact .inr rfl) (pe_op op_add (pv 6) (pv 9)))
    (pss_cons (ps_set (i := 11) sc_moves_from.nd rfl (by first | exact .inl rfl | exact .inr rfl) (pe_op op_mod (pe_op op_sub (pe_op op_add (pv 7) (pe_go (ok_first_stop T) hr (pa_cons (pv 0) pa_nil))) (pv 10)) pe_int))
    (pss_cons (ps_if (PW.pt (pw_and (pt_val (pe_go (ok_frame_can_end T) hr (pa_cons (pv 0) (pa_cons (pv 1) (pa_cons (pv 10) (pa_cons (pv 5) pa_nil)))))) (pw_and1 (PW.pt (pw_or (pt_cmpR op_eq (pe_ix ix_tup (pv 0) pe_int (fun _ _ => rfl)) pe_str (nomark _)) (pw_or1 (pt_cmpR op_eq (pv 11) (pe_callTy call_int1 (by rfl) T.n_int bt_int (pa_cons (pe_cmpR op_eq (pe_ix ix_tup (pv 0) pe_int (fun _ _ => rfl)) pe_str (nomark _)) pa_nil)) (nomark _))))))))
    (pss_one (ps_expr (pe_bm PySem.F.plainAttrs_list PySem.F.slot_list_append PySem.F.type_list_append mt_append (pv 8) (pa_cons (pe_tup (pa_cons pe_int (pa_cons pe_int pa_nil))) pa_nil)))) pss_nil)
    (pss_one (ps_for PassesOwn.never rfl (pi_list (pe_go (ok_inner_counts T) hr (pa_cons (pv 0) (pa_cons (pv 1) (pa_cons (pv 10) (pa_cons (pv 5) pa_nil)))))) (pg_name (i := 12) sc_moves_from.nd rfl (by first | exact .inl rfl | exact .inr rfl))
    (pss_one (ps_expr (pe_bm PySem.F.plainAttrs_list PySem.F.slot_list_append PySem.F.type_list_append mt_append (pv 8) (pa_cons (pe_tup (pa_cons (pe_op op_add (pv 10) (pv 12)) (pa_cons (pe_op op_mod (pe_op op_add (pv 7) (pv 12)) pe_int) pa_nil))) pa_nil))))))))))
    (pss_one (ps_ret (pv 8))))))), ?_⟩
  obtain ⟨b1, b2, b3, b4, b5⟩ := sh_small ok
  obtain ⟨z, o⟩ := r
  obtain ⟨p, odd⟩ := st
  have hle : p ≤ h.stop := hle
  refine ⟨_, rfl, ru, _, rfl, hru, rfl, _, _, rfl, _, _, rfl, rfl, ?_⟩
  refine ⟨_, rfl, sa, _, rfl, hst, rfl, _, _, rfl, _, _, rfl, rfl, ?_⟩
  refine ⟨by decide, fun l nl => ?_⟩
  have s0 : Same H (upd H l (.lst [])) := Same.up nl
  refine ⟨_, rfl, _, rfl, _, rfl, a, h, rfl, s0.seqT hs, ok, _, rfl, _, _, rfl, rfl, sp, s, z, _, rfl, s0.seqT hp, sok, rok.z, by omega, by omega, fun H1 c s1 nc hc => ?_⟩
  have hl1 : H1 l = some (.lst []) := s1 _ _ upd_same
  have ncl : c ≠ l := fun e => by
    rw [e, upd_same] at nc
    cases nc
  generalize eL : cnts s z ((h.stop : Nat) - (p : Nat)) = L at hc
  have lL : L.length ≤ 12 := by
    rw [← eL]
    exact cnts_len (M := 11) (by omega)
  -- what a turn adds
  generalize eF : (fun many : Nat => (if (canEnd h s (p + many) o && canPar h odd (p + many)) = true then [((0, 0) : Nat × Nat)] else []) ++ (inner h s (p + many) o).map fun more => (p + many + more, (odd + more) % 2)) = F
  have eM : mvs h s (z, o) (p, odd) = L.flatMap F := by
    rw [← eL, ← eF]
    rfl
  have lenF : ∀ i, ((L.take i).flatMap F).length ≤ 200 := fun i => by
    rw [← eF]
    have := mvs_part ok s (z, o) (p, odd) (L.take i)
    have l2 : (L.take i).length ≤ 12 := by
      rw [List.length_take]
      omega
    exact Nat.le_trans this (by omega)
  have kB : Same H (hid H1 l) := same_hid nl (s0.trans s1)
  have cB : SqL K (hid H1 l) c (iv L) := seq_hid (.inl (.inl hc)) ncl
  refine ⟨c, rfl, ⟨_, .inl (.inl hc)⟩, ?_⟩
  refine for_list (xs := iv L) (fun i σ H' => ∃ x9 x10 x11 x12 xs, σ = [some (.ref a), some (.ref sp), some (.ref ru), some (.ref sa), some (.int (z : Nat)), some (oV o), some (.int (p : Nat)), some (.int (odd : Nat)), some (.ref l), x9, x10, x11, x12] ∧
      Same (hid H1 l) H' ∧ H' l = some (.lst xs) ∧ PL K H' xs (((L.take i).flatMap F).map prV)) ⟨none, none, none, none, [], rfl, hid_same _ _, hl1, .nil⟩ (fun i σ H' _ hx => ?_) (fun i x σ H' ex hx => ?_) (fun σ H' hx => ?_)
  · obtain ⟨_, _, _, _, _, _, sm, _, _⟩ := hx
    exact sm.seq cB
  · obtain ⟨x9, x10, x11, x12, xs, rfl, sm, hl, hxs⟩ := hx
    obtain ⟨many, rfl, em⟩ := atN ex
    have mm := (mem_cnts sok rok.z1).mp (eL ▸ List.mem_of_getElem? em)
    obtain ⟨m1, m2, m3, m4⟩ := mm
    have hb : p + many ≤ h.stop := by omega
    have sk := kB.trans sm
    have pb : ((p : Nat) : Int) + ((many : Nat) : Int) = ((p + many : Nat) : Int) := by omega
    refine ⟨_, rfl, _, rfl, _, _, rfl, rfl, ?_⟩
    simp only [pb]
    refine ⟨_, rfl, _, rfl, a, h, rfl, sk.seqT hs, ok, _, _, rfl, rfl, _, rfl, _, _, rfl, rfl, _, _, rfl, rfl, (by decide : (0 : Int) < 2), ?_⟩
    have ee : (((odd : Nat) : Int) + ((h.stop : Nat) : Int) - ((p + many : Nat) : Int)) % 2 = (((odd + h.stop - (p + many)) % 2 : Nat) : Int) := by omega
    simp only [ee]
    refine ⟨_, rfl, _, rfl, _, rfl, _, rfl, a, sp, h, s, p + many, o, rfl, sk.seqT hs, ok, sk.seqT hp, by omega, _, rfl, ?_⟩
    -- behind the test: whatever the answer, the list has grown by it
    have grown : ∀ (H2 : Hp) (ys : List V), Same (hid H1 l) H2 → H2 l = some (.lst ys) → PL K H2 ys ((((L.take i).flatMap F) ++ (if (canEnd h s (p + many) o && canPar h odd (p + many)) = true then [((0, 0) : Nat × Nat)] else [])).map prV) → ∀ (w12 : Option V) (D : Ends) (g : TG),
        (g = gName 12) → (∀ σ' H', (∃ x9 x10 x11 x12 xs, σ' = [some (.ref a), some (.ref sp), some (.ref ru), some (.ref sa), some (.int (z : Nat)), some (oV o), some (.int (p : Nat)), some (.int (odd : Nat)), some (.ref l), x9, x10, x11, x12] ∧
          Same (hid H1 l) H' ∧ H' l = some (.lst xs) ∧ PL K H' xs (((L.take (i + 1)).flatMap F).map prV)) → D.nx σ' H') →
        tFor (iList K (tCall (fun vs H Q _ => ∃ (a sp : Addr) (h : Sh) (s : Sn) (b : Nat) (o : Option Nat), vs = [.ref a, .ref sp, .int (b : Nat), oV o] ∧ SqT K H a h.vs ∧ h.Ok ∧ SqT K H sp s.vs ∧ s.Ok ∧ b ≤ h.stop ∧
            (∀ x, o = some x → x ≤ 2 ^ 60 * s.hi) ∧ sp_list (inner h s b o) H Q) [] E0 (tCons (tVar 0) (tCons (tVar 1) (tCons (tVar 10) (tCons (tVar 5) tNil)))))) g
          (tDrop (tBM K "list" rAppend (tVar 8) (tCons (tTup (tCons (tOp (rI0 fun i j => .int (i + j)) (tVar 10) (tVar 12)) (tCons (tOp (rI (fun _ j => 0 < j) fun i j => .int (i % j)) (tOp (rI0 fun i j => .int (i + j)) (tVar 7) (tVar 12)) (tC (.int 2))) tNil))) tNil))) D
          [some (.ref a), some (.ref sp), some (.ref ru), some (.ref sa), some (.int (z : Nat)), some (oV o), some (.int (p : Nat)), some (.int (odd : Nat)), some (.ref l), some (.int (many : Nat)), some (.int ((p + many : Nat) : Int)), some (.int (((odd + h.stop - (p + many)) % 2 : Nat) : Int)), w12] H2 := by
      intro H2 ys sB hl2 hys w12 D g eg hD
      subst eg
      have sk2 := kB.trans sB
      refine ⟨_, rfl, _, rfl, _, rfl, _, rfl, a, sp, h, s, p + many, o, rfl, sk2.seqT hs, ok, sk2.seqT hp, sok, hb, fun x ex => (rok.o x ex).1, fun H3 c2 s3 nc2 hc2 => ?_⟩
      have hl3 : H3 l = some (.lst ys) := s3 _ _ hl2
      have nc2l : c2 ≠ l := (ne_of_none hl2 nc2).symm
      have sB3 := sB.trans s3
      have kB3 : Same (hid H1 l) (hid H3 l) := same_hid hid_self sB3
      have cB2 : SqL K (hid H3 l) c2 (iv (inner h s (p + many) o)) := seq_hid (.inl (.inl hc2)) nc2l
      refine ⟨c2, rfl, ⟨_, .inl (.inl hc2)⟩, ?_⟩
      generalize eI : inner h s (p + many) o = I at cB2
      have lI : I.length ≤ 12 := by
        rw [← eI]
        exact inner_len ok s _ _
      refine for_list (xs := iv I) (fun j σ H' => ∃ x12 zs, σ = [some (.ref a), some (.ref sp), some (.ref ru), some (.ref sa), some (.int (z : Nat)), some (oV o), some (.int (p : Nat)), some (.int (odd : Nat)), some (.ref l), some (.int (many : Nat)), some (.int ((p + many : Nat) : Int)), some (.int (((odd + h.stop - (p + many)) % 2 : Nat) : Int)), x12] ∧
        Same (hid H3 l) H' ∧ H' l = some (.lst zs) ∧ PL K H' zs ((((L.take i).flatMap F) ++ (if (canEnd h s (p + many) o && canPar h odd (p + many)) = true then [((0, 0) : Nat × Nat)] else []) ++ (I.take j).map fun more => (p + many + more, (odd + more) % 2)).map prV)) ⟨w12, ys, rfl, hid_same _ _, hl3, ?_⟩ (fun j σ H' _ hx => ?_) (fun j x σ H' ex hx => ?_) (fun σ H' hx => ?_)
      · have := hys.same s3
        rw [List.take_zero, List.map_nil, List.append_nil]
        exact this
      · obtain ⟨_, _, _, sm', _, _⟩ := hx
        exact sm'.seq cB2
      · obtain ⟨x12, zs, rfl, sm', hl', hzs⟩ := hx
        obtain ⟨more, rfl, emo⟩ := atN ex
        refine ⟨_, rfl, .inl ⟨rfl, _, .inl (.inl hl')⟩, _, rfl, _, rfl, _, _, rfl, rfl, _, rfl, _, rfl, _, _, rfl, rfl, _, _, rfl, rfl, (by decide : (0 : Int) < 2), (by decide : 2 ≤ sizeLine), fun t nt => ?_⟩
        have hlt : (upd H' t (.tup [.int (((p + many : Nat) : Int) + ((more : Nat) : Int)), .int ((((odd : Nat) : Int) + ((more : Nat) : Int)) % 2)])) l = some (.lst zs) := by
          rw [upd_ne (ne_of_none hl' nt)]
          exact hl'
        have lz : zs.length ≤ 1000 := by
          rw [Paired.length hzs, List.length_map, List.length_append, List.length_append, List.length_map, List.length_take]
          have := lenF i
          split <;> (simp only [List.length_singleton, List.length_nil]; omega)
        refine ⟨l, zs, _, rfl, rfl, hlt, small_len lz, ?_⟩
        refine ⟨_, _, rfl, Same.onL hid_self (sm'.trans (Same.up nt)), upd_same, ?_⟩
        have e1 : (I.take (j + 1)).map (fun more => (p + many + more, (odd + more) % 2)) = (I.take j).map (fun more => (p + many + more, (odd + more) % 2)) ++ [(p + many + more, (odd + more) % 2)] := by
          rw [take_snoc emo, List.map_append] <;> rfl
        rw [e1, ← List.append_assoc, List.map_append]
        have e2 : prV (p + many + more, (odd + more) % 2) = [.int (((p + many : Nat) : Int) + ((more : Nat) : Int)), .int ((((odd : Nat) : Int) + ((more : Nat) : Int)) % 2)] := by
          unfold prV
          simp
        refine Paired.snoc ((hzs.same (Same.up nt)).onL hlt) ⟨t, rfl, SqT.onL hlt ?_⟩
        rw [e2]
        exact SqT.new
      · obtain ⟨x12, zs, rfl, sm', hl', hzs⟩ := hx
        refine hD _ _ ⟨_, _, _, _, zs, rfl, kB3.trans sm', hl', ?_⟩
        have li : (iv I).length = I.length := List.length_map _
        rw [li, List.take_length] at hzs
        rw [fm_take em]
        have eFm : F many = (if (canEnd h s (p + many) o && canPar h odd (p + many)) = true then [((0, 0) : Nat × Nat)] else []) ++ I.map fun more => (p + many + more, (odd + more) % 2) := by
          rw [← eF, ← eI]
        rw [eFm, ← List.append_assoc]
        exact hzs
    -- the two ways
    have yes : ∀ (D : L2.St → Hp → Prop) (x12 : Option V), (canEnd h s (p + many) o && canPar h odd (p + many)) = true → (∀ (H2 : Hp) (ys : List V), Same (hid H1 l) H2 → H2 l = some (.lst ys) → PL K H2 ys ((((L.take i).flatMap F) ++ (if (canEnd h s (p + many) o && canPar h odd (p + many)) = true then [((0, 0) : Nat × Nat)] else [])).map prV) → D [some (.ref a), some (.ref sp), some (.ref ru), some (.ref sa), some (.int (z : Nat)), some (oV o), some (.int (p : Nat)), some (.int (odd : Nat)), some (.ref l), some (.int (many : Nat)), some (.int ((p + many : Nat) : Int)), some (.int (((odd + h.stop - (p + many)) % 2 : Nat) : Int)), x12] H2) →
        ∀ t, H' t = none → ∃ (l0 : Addr) (xs0 : List V) (y : V), V.ref l = .ref l0 ∧ [V.ref t] = [y] ∧ (upd H' t (.tup [.int 0, .int 0])) l0 = some (.lst xs0) ∧ xs0.length < sizeLine ∧ D [some (.ref a), some (.ref sp), some (.ref ru), some (.ref sa), some (.int (z : Nat)), some (oV o), some (.int (p : Nat)), some (.int (odd : Nat)), some (.ref l), some (.int (many : Nat)), some (.int ((p + many : Nat) : Int)), some (.int (((odd + h.stop - (p + many)) % 2 : Nat) : Int)), x12] (upd (upd H' t (.tup [.int 0, .int 0])) l0 (.lst (xs0 ++ [y]))) := by
      intro D x12 ec hD t nt
      have hlt : (upd H' t (.tup [.int 0, .int 0])) l = some (.lst xs) := by
        rw [upd_ne (ne_of_none hl nt)]
        exact hl
      refine ⟨l, xs, _, rfl, rfl, hlt, small_len (n := 1000) (by rw [Paired.length hxs, List.length_map]; have := lenF i; omega), ?_⟩
      refine hD _ _ (Same.onL hid_self (sm.trans (Same.up nt))) upd_same ?_
      rw [if_pos ec, List.map_append]
      exact Paired.snoc ((hxs.same (Same.up nt)).onL hlt) ⟨t, rfl, SqT.onL hlt SqT.new⟩
    have no : ¬ (canEnd h s (p + many) o && canPar h odd (p + many)) = true → PL K H' xs ((((L.take i).flatMap F) ++ (if (canEnd h s (p + many) o && canPar h odd (p + many)) = true then [((0, 0) : Nat × Nat)] else [])).map prV) := fun ec => by
      rw [if_neg ec, List.append_nil]
      exact hxs
    have goOn : ∀ σ' H', (∃ x9 x10 x11 x12 xs, σ' = [some (.ref a), some (.ref sp), some (.ref ru), some (.ref sa), some (.int (z : Nat)), some (oV o), some (.int (p : Nat)), some (.int (odd : Nat)), some (.ref l), x9, x10, x11, x12] ∧
          Same (hid H1 l) H' ∧ H' l = some (.lst xs) ∧ PL K H' xs (((L.take (i + 1)).flatMap F).map prV)) → (∃ x9 x10 x11 x12 xs, σ' = [some (.ref a), some (.ref sp), some (.ref ru), some (.ref sa), some (.int (z : Nat)), some (oV o), some (.int (p : Nat)), some (.int (odd : Nat)), some (.ref l), x9, x10, x11, x12] ∧
          Same (hid H1 l) H' ∧ H' l = some (.lst xs) ∧ PL K H' xs (((L.take (i + 1)).flatMap F).map prV)) := fun _ _ z => z
    cases e1 : canEnd h s (p + many) o with
    | false =>
      refine iteF (iteF ?_)
      exact grown H' xs sm hl (no (by rw [e1, Bool.false_and]; decide)) _ _ _ rfl goOn
    | true =>
      refine iteT ⟨_, rfl, _, _, _, _, rfl, rfl, sk.seqT hs, rfl, rfl, _, rfl, ?_⟩
      rw [pst_none ok.p2]
      by_cases p0 : h.p = 0
      · have ec : (canEnd h s (p + many) o && canPar h odd (p + many)) = true := by
          rw [e1]
          exact decide_eq_true (.inl p0)
        rw [decide_eq_true p0]
        refine iteT (iteT ⟨_, rfl, .inl ⟨rfl, _, .inl (.inl hl)⟩, (by decide : 2 ≤ sizeLine), fun t nt => ?_⟩)
        exact yes _ _ ec (fun H2 ys sB hl2 hys => grown H2 ys sB hl2 hys _ _ _ rfl goOn) t nt
      · rw [decide_eq_false p0]
        refine iteF ⟨_, rfl, _, rfl, _, _, _, _, rfl, rfl, sk.seqT hs, rfl, rfl, .inr ⟨_, rfl, rfl, _, rfl, ?_⟩⟩
        rw [pst_odd ok.p2]
        have eb : (if decide (h.p = 2) = true then (1 : Int) else 0) = ((h.po : Nat) : Int) := by
          unfold Sh.po
          by_cases e : h.p = 2
          · rw [decide_eq_true e, if_pos rfl, if_pos e] <;> rfl
          · rw [decide_eq_false e, if_neg (by decide), if_neg e] <;> rfl
        rw [eb]
        by_cases e : (odd + h.stop - (p + many)) % 2 = h.po
        · have ec : (canEnd h s (p + many) o && canPar h odd (p + many)) = true := by
            rw [e1]
            exact decide_eq_true (.inr e)
          rw [decide_eq_true (by rw [e])]
          refine iteT ⟨_, rfl, .inl ⟨rfl, _, .inl (.inl hl)⟩, (by decide : 2 ≤ sizeLine), fun t nt => ?_⟩
          exact yes _ _ ec (fun H2 ys sB hl2 hys => grown H2 ys sB hl2 hys _ _ _ rfl goOn) t nt
        · have ec : ¬ (canEnd h s (p + many) o && canPar h odd (p + many)) = true := by
            rw [e1]
            unfold canPar
            rw [decide_eq_false (fun z => z.elim p0 e)]
            decide
          rw [decide_eq_false (fun z => e (by have := V.int.inj z; omega))]
          refine iteF ?_
          exact grown H' xs sm hl (no ec) _ _ _ rfl goOn
  · obtain ⟨x9, x10, x11, x12, xs, rfl, sm, hl, hxs⟩ := hx
    have lz : (iv L).length = L.length := List.length_map _
    rw [lz, List.take_length, ← eM] at hxs
    exact ⟨_, rfl, q _ l xs (kB.trans sm) nl hl hxs⟩
end
end K89

set_option maxRecDepth 100000
set_option maxHeartbeats 2000000
/-! sizes of the trees -/
namespace K89
open PySem L2
structure RunsOk (s : Sn) (rs : List Run) : Prop where
  all : ∀ r ∈ rs, RunOk s r
  nxt : ∀ i r o, rs[i]? = some r → r.2 = some o → i + 1 < rs.length
def tsz (h : Sh) (s : Sn) : List Run → Nat → Nat
  | [], _ => 1
  | r :: rs, p => 1 + ((cnts s r.1 ((h.stop : Nat) - (p : Nat))).map fun many => 1 + ((inner h s (p + many) r.2).map fun more => tsz h s rs (p + many + more)).sum).sum
theorem geo : ∀ (n e : Nat), n ≤ e + 1 → 3 * ((List.range n).map fun k => 4 ^ (e - k)).sum + 4 ^ (e + 1 - n) = 4 ^ (e + 1)
  | 0, e, _ => by simp
  | n + 1, e, h => by
    have ih := geo n e (by omega)
    rw [List.range_succ, List.map_append, List.sum_append]
    have e1 : e + 1 - n = (e - n) + 1 := by omega
    have e2 : e + 1 - (n + 1) = e - n := by omega
    rw [e1, Nat.pow_succ] at ih
    rw [e2]
    simp only [List.map_cons, List.map_nil, List.sum_cons, List.sum_nil]
    omega
theorem sum_le {α : Type} {f g : α → Nat} : ∀ {l : List α}, (∀ x ∈ l, f x ≤ g x) → (l.map f).sum ≤ (l.map g).sum
  | [], _ => Nat.le_refl _
  | x :: l, h => by
    have h1 := h x List.mem_cons_self
    have h2 := sum_le (l := l) fun y m => h y (List.mem_cons_of_mem _ m)
    simp only [List.map_cons, List.sum_cons]
    omega
theorem sum_mul {α : Type} {f : α → Nat} (c : Nat) : ∀ (l : List α), c * (l.map f).sum = (l.map fun x => c * f x).sum
  | [] => rfl
  | x :: l => by
    simp only [List.map_cons, List.sum_cons, Nat.mul_add, sum_mul c l]
theorem sum_add {α : Type} {f g : α → Nat} : ∀ (l : List α), (l.map fun x => f x + g x).sum = (l.map f).sum + (l.map g).sum
  | [] => rfl
  | x :: l => by
    simp only [List.map_cons, List.sum_cons, sum_add l]
    omega
theorem sum_one {α : Type} : ∀ (l : List α), (l.map fun _ => 1).sum = l.length
  | [] => rfl
  | x :: l => by
    simp only [List.map_cons, List.sum_cons, List.length_cons, sum_one l]
    omega
/-- over counts: a falling geometric sum -/
theorem cnts_geo {s : Sn} (ok : s.Ok) {z : Nat} {M : Nat} (hz : 1 ≤ z) : 3 * ((cnts s z (M : Nat)).map fun k => 4 ^ (M - k)).sum ≤ 4 ^ M := by
  by_cases e : cnts s z (M : Nat) = []
  · rw [e]
    exact Nat.zero_le _
  · have hb : ∀ k ∈ cnts s z (M : Nat), 1 ≤ k ∧ k ≤ M := fun k hk => by
      have := (mem_cnts ok hz).mp hk
      omega
    unfold cnts at hb e ⊢
    generalize (cntB s z (M : Nat) + 1 - (cntA s z : Nat)).toNat = n at hb e ⊢
    generalize cntA s z = A at hb e ⊢
    have n0 : n ≠ 0 := fun z => e (by rw [z] <;> rfl)
    have h1 := hb (A + 0) (List.mem_map.mpr ⟨0, List.mem_range.mpr (by omega), rfl⟩)
    have h2 := hb (A + (n - 1)) (List.mem_map.mpr ⟨n - 1, List.mem_range.mpr (by omega), rfl⟩)
    rw [List.map_map]
    have g := geo n (M - A) (by omega)
    have e1 : ((fun k => 4 ^ (M - k)) ∘ fun i => A + i) = fun k => 4 ^ (M - A - k) := by
      funext k
      show 4 ^ (M - (A + k)) = _
      rw [Nat.sub_add_eq]
    rw [e1]
    have : 4 ^ (M - A + 1) ≤ 4 ^ M := Nat.pow_le_pow_right (by decide) (by omega)
    exact Nat.le_trans (by rw [← g]; exact Nat.le_add_right _ _) this
theorem four_ge : ∀ k : Nat, 1 ≤ k → 9 * (1 + k) ≤ 8 * 4 ^ k
  | 0, h => absurd h (by decide)
  | 1, _ => by decide
  | k + 2, _ => by
    have ih := four_ge (k + 1) (by omega)
    rw [Nat.pow_succ]
    omega
theorem tsz_le {h : Sh} {s : Sn} (ok : s.Ok) : ∀ {rs : List Run} {p : Nat}, (∀ r ∈ rs, RunOk s r) → p ≤ h.stop → tsz h s rs p ≤ 4 ^ (h.stop - p)
  | [], p, _, _ => Nat.pow_pos (by decide)
  | r :: rs, p, hr, hp => by
    have r0 := hr r List.mem_cons_self
    have hs : ∀ r ∈ rs, RunOk s r := fun x m => hr x (List.mem_cons_of_mem _ m)
    unfold tsz
    have ek : ((h.stop : Nat) : Int) - (p : Nat) = ((h.stop - p : Nat) : Int) := by omega
    rw [ek]
    have g := cnts_geo (M := h.stop - p) ok r0.z1
    have hm : ∀ k ∈ cnts s r.1 ((h.stop - p : Nat) : Int), 1 ≤ k ∧ k ≤ h.stop - p := fun k hk => by
      have := (mem_cnts ok r0.z1).mp hk
      omega
    have one : ∀ many ∈ cnts s r.1 ((h.stop - p : Nat) : Int), 3 * ((inner h s (p + many) r.2).map fun more => tsz h s rs (p + many + more)).sum ≤ 4 ^ (h.stop - p - many) := fun many hk => by
      have hk2 := hm many hk
      cases eo : r.2 with
      | none => exact Nat.zero_le _
      | some o =>
        have o1 := (r0.o o eo).2
        show 3 * ((cnts s o ((h.stop : Nat) - ((p + many : Nat) : Int) - 1)).map fun more => tsz h s rs (p + many + more)).sum ≤ _
        by_cases e0 : p + many < h.stop
        · have e1 : ((h.stop : Nat) : Int) - ((p + many : Nat) : Int) - 1 = ((h.stop - (p + many) - 1 : Nat) : Int) := by omega
          rw [e1]
          have g2 := cnts_geo (M := h.stop - (p + many) - 1) (z := o) ok o1
          have le : ((cnts s o ((h.stop - (p + many) - 1 : Nat) : Int)).map fun more => tsz h s rs (p + many + more)).sum ≤ ((cnts s o ((h.stop - (p + many) - 1 : Nat) : Int)).map fun k => 4 * 4 ^ (h.stop - (p + many) - 1 - k)).sum := by
            refine sum_le fun k hk => ?_
            have := (mem_cnts ok o1).mp hk
            have ih := tsz_le (h := h) ok (p := p + many + k) hs (by omega)
            have e2 : h.stop - (p + many + k) = (h.stop - (p + many) - 1 - k) + 1 := by omega
            rw [e2, Nat.pow_succ, Nat.mul_comm] at ih
            exact ih
          rw [← sum_mul] at le
          have e3 : h.stop - p - many = (h.stop - (p + many) - 1) + 1 := by omega
          rw [e3, Nat.pow_succ]
          omega
        · have : cnts s o ((h.stop : Nat) - ((p + many : Nat) : Int) - 1) = [] := by
            apply List.eq_nil_iff_forall_not_mem.mpr
            intro k hk
            have := (mem_cnts ok o1).mp hk
            omega
          rw [this]
          exact Nat.zero_le _
    have le3 : 3 * ((cnts s r.1 ((h.stop - p : Nat) : Int)).map fun many => ((inner h s (p + many) r.2).map fun more => tsz h s rs (p + many + more)).sum).sum ≤ ((cnts s r.1 ((h.stop - p : Nat) : Int)).map fun k => 4 ^ (h.stop - p - k)).sum := by
      rw [sum_mul]
      exact sum_le one
    rw [sum_add, sum_one]
    have len : (cnts s r.1 ((h.stop - p : Nat) : Int)).length ≤ h.stop - p := by
      by_cases e : h.stop - p = 0
      · have : cnts s r.1 ((h.stop - p : Nat) : Int) = [] := by
          apply List.eq_nil_iff_forall_not_mem.mpr
          intro k hk
          have := hm k hk
          omega
        rw [this]
        exact Nat.zero_le _
      · unfold cnts at hm ⊢
        rw [List.length_map, List.length_range]
        generalize (cntB s r.1 ((h.stop - p : Nat) : Int) + 1 - (cntA s r.1 : Nat)).toNat = n at hm ⊢
        by_cases n0 : n = 0
        · omega
        · have h1 := hm (cntA s r.1 + 0) (List.mem_map.mpr ⟨0, List.mem_range.mpr (by omega), rfl⟩)
          have h2 := hm (cntA s r.1 + (n - 1)) (List.mem_map.mpr ⟨n - 1, List.mem_range.mpr (by omega), rfl⟩)
          omega
    by_cases e : h.stop - p = 0
    · rw [e] at le3 len g ⊢
      omega
    · have := four_ge (h.stop - p) (by omega)
      omega
end K89

set_option maxRecDepth 100000
set_option maxHeartbeats 2000000
namespace K89
open PySem PySem.Spec PyProof.Rows L2
theorem sc_steps_from : FnScope ["shape", "span", "runs", "index", "found", "waiting", "place", "number", "run", "zeros", "ones", "many", "behind", "ended", "more"] ["shape", "span", "runs", "index"] (defScope s_steps_from) := ⟨rfl, rfl, rfl, by decide +kernel, rfl, by decide +kernel, by decide +kernel⟩
def trV (t : Nat × Nat × Nat) : List V := [.int (t.1 : Nat), .int (t.2.1 : Nat), .int (t.2.2 : Nat)]
abbrev nodeL (h : Sh) (s : Sn) (rs : List Run) (t : Nat × Nat × Nat) : List (Nat × Nat) := lvs h s (rs.drop t.2.2) t.1 t.2.1 t.2.2
abbrev nodeZ (h : Sh) (s : Sn) (rs : List Run) (t : Nat × Nat × Nat) : Nat := tsz h s (rs.drop t.2.2) t.1
/-- references to tuples that are tracked -/
abbrev PT' (H : Hp) : List V → List (List V) → Prop := Paired fun x t => ∃ a : Addr, x = .ref a ∧ H a = some (.tup t)
theorem PT'.same {H H' : Hp} (s : Same H H') {xs : List V} {ts : List (List V)} (h : PT' H xs ts) : PT' H' xs ts := Paired.mapP h fun _ _ ⟨a, e, q⟩ => ⟨a, e, s _ _ q⟩
theorem PT'.onL {H : Hp} {l : Addr} {xs ys zs : List V} {ts : List (List V)} (hl : H l = some (.lst ys)) (h : PT' H xs ts) : PT' (upd H l (.lst zs)) xs ts := Paired.mapP h fun _ _ ⟨a, e, q⟩ => ⟨a, e, by
  rw [upd_ne (ne_of q hl (fun z => nomatch z))]
  exact q⟩
/-- rows of ints, as data -/
theorem pl_ints {K : PySem.W.Frag} {H : Hp} : ∀ {xs : List V} {ls : List (List Int)}, PL K H xs (ls.map fun l => l.map V.int) → DpAll K H xs (ls.map fun l => .tuple (l.map .int))
  | [], [], _ => .nil
  | [], _ :: _, h => by cases h
  | _ :: _, [], h => by cases h
  | x :: xs, l :: ls, h => by
    cases h with
    | cons h1 h2 =>
      obtain ⟨a, rfl, ha⟩ := h1
      refine .cons (.tup ha ?_) (pl_ints h2)
      clear ha h2
      induction l with
      | nil => exact .nil
      | cons i r ih => exact .cons (.int i) ih
theorem shp_rows (ls : List (List Int)) : Shp (.list (ls.map fun l => .tuple (l.map .int))) 2 := Shp.list fun d hd => by
  obtain ⟨l, _, rfl⟩ := List.mem_map.mp hd
  refine Shp.tuple fun d hd => ?_
  obtain ⟨i, _, rfl⟩ := List.mem_map.mp hd
  exact .int
theorem perm_two {α β γ : Type} (E : α → List γ) (Kd : α → List β) (N : β → List γ) : ∀ L : List α, (L.flatMap fun m => E m ++ (Kd m).flatMap N).Perm (L.flatMap E ++ (L.flatMap Kd).flatMap N)
  | [] => .nil
  | m :: L => by
    have ih := perm_two E Kd N L
    rw [List.flatMap_cons, List.flatMap_cons, List.flatMap_cons, List.flatMap_append]
    refine ((List.Perm.refl _).append ih).trans ?_
    rw [List.append_assoc, List.append_assoc]
    refine (List.Perm.refl _).append ?_
    rw [← List.append_assoc, ← List.append_assoc]
    exact List.perm_append_comm.append (List.Perm.refl _)
def endE (h : Sh) (s : Sn) (o : Option Nat) (t : Nat × Nat × Nat) (many : Nat) : List (Nat × Nat) := if canEnd h s (t.1 + many) o = true then (match ended h (t.1 + many) t.2.1 with
        | some e => [(e, t.2.2 + 1)]
        | none => []) else []
def kidE (h : Sh) (s : Sn) (o : Option Nat) (t : Nat × Nat × Nat) (many : Nat) : List (Nat × Nat × Nat) := (inner h s (t.1 + many) o).map fun more => (t.1 + many + more, t.2.1 + onesFrom (t.1 + many) more, t.2.2 + 1)
theorem node_eq {h : Sh} {s : Sn} {rs : List Run} {t : Nat × Nat × Nat} {r : Run} (e : rs[t.2.2]? = some r) : nodeL h s rs t = (cnts s r.1 ((h.stop : Nat) - (t.1 : Nat))).flatMap fun m => endE h s r.2 t m ++ (kidE h s r.2 t m).flatMap (nodeL h s rs) := by
  obtain ⟨hlt, er⟩ := List.getElem?_eq_some_iff.mp e
  unfold nodeL
  rw [List.drop_eq_getElem_cons hlt, er]
  show List.flatMap _ _ = _
  congr 1
  funext m
  unfold endE kidE
  rw [List.flatMap_map] <;> rfl
theorem nodeZ_eq {h : Sh} {s : Sn} {rs : List Run} {t : Nat × Nat × Nat} {r : Run} (e : rs[t.2.2]? = some r) : nodeZ h s rs t = 1 + ((cnts s r.1 ((h.stop : Nat) - (t.1 : Nat))).map fun m => 1 + ((kidE h s r.2 t m).map (nodeZ h s rs)).sum).sum := by
  obtain ⟨hlt, er⟩ := List.getElem?_eq_some_iff.mp e
  unfold nodeZ
  rw [List.drop_eq_getElem_cons hlt, er]
  show 1 + _ = _
  congr 2
  congr 1
  funext m
  unfold kidE
  rw [List.map_map]
  rfl
theorem tsz_pos (h : Sh) (s : Sn) (rs : List Run) (p : Nat) : 1 ≤ tsz h s rs p := by
  cases rs with
  | nil => exact Nat.le_refl _
  | cons r rs =>
    unfold tsz
    omega
theorem len_sum {α : Type} {f : α → Nat} (h : ∀ x, 1 ≤ f x) : ∀ l : List α, l.length ≤ (l.map f).sum
  | [] => Nat.zero_le _
  | x :: l => by
    have := len_sum h l
    have := h x
    simp only [List.map_cons, List.sum_cons, List.length_cons]
    omega
theorem fm_sum {α β : Type} (E : α → List β) (f : β → Nat) : ∀ l : List α, ((l.flatMap E).map f).sum = (l.map fun x => ((E x).map f).sum).sum
  | [] => rfl
  | x :: l => by
    rw [List.flatMap_cons, List.map_append, List.sum_append, fm_sum E f l]
    simp only [List.map_cons, List.sum_cons]
theorem endE_len (h : Sh) (s : Sn) (o : Option Nat) (t : Nat × Nat × Nat) (m : Nat) : (endE h s o t m).length ≤ 1 := by
  unfold endE
  split
  · split
    · exact Nat.le_refl _
    · exact Nat.zero_le _
  · exact Nat.zero_le _
theorem take_sum_le {α : Type} (f : α → Nat) : ∀ (l : List α) (i : Nat), ((l.take i).map f).sum ≤ (l.map f).sum
  | [], i => by
    rw [List.take_nil]
    exact Nat.le_refl _
  | x :: l, 0 => Nat.zero_le _
  | x :: l, i + 1 => by
    have := take_sum_le f l i
    simp only [List.take_succ_cons, List.map_cons, List.sum_cons]
    omega
/-- what the first turns of a node's loop have added, in number -/
theorem part_len {h : Sh} {s : Sn} {rs : List Run} {t : Nat × Nat × Nat} {r : Run} (e : rs[t.2.2]? = some r) (i : Nat) :
    (((cnts s r.1 ((h.stop : Nat) - (t.1 : Nat))).take i).flatMap (endE h s r.2 t)).length + ((((cnts s r.1 ((h.stop : Nat) - (t.1 : Nat))).take i).flatMap (kidE h s r.2 t)).map (nodeZ h s rs)).sum + 1 ≤ nodeZ h s rs t := by
  rw [nodeZ_eq e]
  generalize cnts s r.1 ((h.stop : Nat) - (t.1 : Nat)) = L
  have h1 := take_sum_le (fun m => 1 + ((kidE h s r.2 t m).map (nodeZ h s rs)).sum) L i
  rw [sum_add, sum_one] at h1
  rw [fm_sum]
  have h2 : ((L.take i).flatMap (endE h s r.2 t)).length ≤ (L.take i).length := by
    generalize L.take i = M
    induction M with
    | nil => exact Nat.le_refl _
    | cons x M ih =>
      have := endE_len h s r.2 t x
      rw [List.flatMap_cons, List.length_append, List.length_cons]
      omega
  omega
def kOf (H : Hp) : V → Int × Int
  | .ref a => match H a with
    | some (.tup [.int i, .int j]) => (i, j)
    | _ => (0, 0)
  | _ => (0, 0)
theorem kOf_pr {H : Hp} {a : Addr} {q : Nat × Nat} (h : H a = some (.tup (prV q))) : kOf H (.ref a) = (((q.1 : Nat) : Int), ((q.2 : Nat) : Int)) := by
  simp only [kOf, h]
  rfl
def kN (H : Hp) (x : V) : Nat × Nat := ((kOf H x).1.toNat, (kOf H x).2.toNat)
theorem pt_back {H : Hp} : ∀ {xs : List V} {fs : List (Nat × Nat)}, PT' H xs (fs.map prV) → xs.map (kN H) = fs ∧ ∀ x ∈ xs, ∃ a, x = .ref a ∧ H a = some (.tup (prV (kN H x)))
  | [], [], _ => ⟨rfl, fun _ h => by cases h⟩
  | [], _ :: _, h => by cases h
  | _ :: _, [], h => by cases h
  | x :: xs, q :: fs, h => by
    cases h with
    | cons h1 h2 =>
      obtain ⟨a, rfl, ha⟩ := h1
      obtain ⟨e1, e2⟩ := pt_back h2
      have ek : kN H (.ref a) = q := by
        unfold kN
        rw [kOf_pr ha]
        rfl
      refine ⟨by rw [List.map_cons, ek, e1], fun x m => ?_⟩
      rcases List.mem_cons.mp m with rfl | m
      · exact ⟨a, rfl, by rw [ek]; exact ha⟩
      · exact e2 x m
theorem pt_forth {K : PySem.W.Frag} {H : Hp} {f : V → Nat × Nat} : ∀ {xs : List V}, (∀ x ∈ xs, ∃ a, x = .ref a ∧ SqT K H a (prV (f x))) → PL K H xs ((xs.map f).map prV)
  | [], _ => .nil
  | x :: xs, h => .cons (h x List.mem_cons_self) (pt_forth fun y m => h y (List.mem_cons_of_mem _ m))
/-- sorted, by the numbers -/
abbrev SrtN (ps : List (Nat × Nat)) : Prop := ps.Pairwise fun a b => a.1 ≤ b.1
section
variable {P : Program} {w : World} {K : PySem.W.Frag} {mg : PySem.Str → Option Value} {base : Heap}
/-- what steps_from wants of its arguments -/
structure StArg (K : PySem.W.Frag) (H : Hp) (a sp rl : Addr) (h : Sh) (s : Sn) (rs : List Run) (rx : List V) : Prop where
  hs : SqT K H a h.vs
  ok : h.Ok
  hp : SqT K H sp s.vs
  sok : s.Ok
  hrl : SqL K H rl rx
  hrx : PL K H rx (rs.map runV)
  rok : RunsOk s rs
theorem StArg.same {H H' : Hp} {a sp rl : Addr} {h : Sh} {s : Sn} {rs : List Run} {rx : List V} (x : StArg K H a sp rl h s rs rx) (e : Same H H') : StArg K H' a sp rl h s rs rx :=
  ⟨e.seqT x.hs, x.ok, e.seqT x.hp, x.sok, e.seq x.hrl, x.hrx.same e, x.rok⟩
theorem ok_steps_from (T : Tx K mg) : Good P w K mg base "steps_from" 4 ["shape", "span", "runs", "index"] [] (fun vs H Q _ => ∃ (a sp rl : Addr) (h : Sh) (s : Sn) (rs : List Run) (rx : List V) (ix : Nat), vs = [.ref a, .ref sp, .ref rl, .int (ix : Nat)] ∧ StArg K H a sp rl h s rs rx ∧ ix < rs.length ∧
    ∀ H' l xs ps, Same H H' → H l = none → H' l = some (.lst xs) → PL K H' xs (ps.map prV) → ps.Perm (lvs h s (rs.drop ix) 0 0 ix) → SrtN ps → Q (.ref l) H') := by
  refine mkGood T.f_steps_from T.g_steps_from sc_steps_from (fun _ _ _ _ _ _ us hl => match us, hl with | [_, _, _, _], _ => rfl) (fun vs H Q E h => by obtain ⟨_, _, _, _, _, _, _, _, rfl, _⟩ := h; rfl) (fun cdv A outer s H vs Q E hr h => ?_)
  obtain ⟨a, sp, rl, h, s, rs, rx, ix, rfl, ar, hix, q⟩ := h
  refine ⟨_, (pss_cons (ps_par (i := 4) (j := 5) rfl sc_steps_from.nd rfl rfl (by decide) rfl rfl (pa_cons (pe_lst pa_nil) (pa_cons (pe_lst (pa_cons (pe_tup (pa_cons pe_int (pa_cons pe_int (pa_cons (pv 3) pa_nil)))) pa_nil)) pa_nil)) (by rfl))
    (pss_cons (ps_while PassesOwn.never (pt_cmpR (op_neD hr.units) (pv 5) (pe_lst pa_nil) (nomark _))
    (pss_cons (ps_asg (pe_bm0 PySem.F.plainAttrs_list PySem.F.slot_list_pop PySem.F.type_list_pop mt_pop (pv 5)) (pg_tup rfl (pgs_cons (pg_name (i := 6) sc_steps_from.nd rfl (by first | exact .inl rfl | exact .inr rfl)) (pgs_cons (pg_name (i := 7) sc_steps_from.nd rfl (by first | exact .inl rfl | exact .inr rfl)) (pgs_cons (pg_name (i := 8) sc_steps_from.nd rfl (by first | exact .inl rfl | exact .inr rfl)) pgs_nil)))))
    (pss_cons (ps_asg (pe_ix ix_list (pv 2) (pv 8) (fun _ _ => rfl)) (pg_tup rfl (pgs_cons (pg_name (i := 9) sc_steps_from.nd rfl (by first | exact .inl rfl | exact .inr rfl)) (pgs_cons (pg_name (i := 10) sc_steps_from.nd rfl (by first | exact .inl rfl | exact .inr rfl)) pgs_nil))))
    (pss_one (ps_for PassesOwn.never rfl (pi_list (pe_go (ok_counts_of T) hr (pa_cons (pv 9) (pa_cons (pv 1) (pa_cons (pe_op op_sub (pe_go (ok_first_stop T) hr (pa_cons (pv 0) pa_nil)) (pv 6)) pa_nil))))) (pg_name (i := 11) sc_steps_from.nd rfl (by first | exact .inl rfl | exact .inr rfl))
    (pss_cons (ps_set (i := 12) sc_steps_from.nd rfl (by first | exact .inl rfl | exact .inr rfl) (pe_op op_add (pv 6) (pv 11)))
    (pss_cons (ps_set (i := 13) sc_steps_from.nd rfl (by first | exact .inl rfl | exact .inr rfl) (pe_ifExp (pt_val (pe_go (ok_frame_can_end T) hr (pa_cons (pv 0) (pa_cons (pv 1) (pa_cons (pv 12) (pa_cons (pv 10) pa_nil)))))) (pe_go (ok_ended_number T) hr (pa_cons (pv 0) (pa_cons (pv 12) (pa_cons (pv 7) pa_nil)))) pe_non))
    (pss_cons (ps_if (pt_cmpR op_notN (pv 13) pe_non (nomark _))
    (pss_one (ps_expr (pe_bm PySem.F.plainAttrs_list PySem.F.slot_list_append PySem.F.type_list_append mt_append (pv 4) (pa_cons (pe_tup (pa_cons (pv 13) (pa_cons (pe_op op_add (pv 8) pe_int) pa_nil))) pa_nil)))) pss_nil)
    (pss_one (ps_for PassesOwn.never rfl (pi_list (pe_go (ok_inner_counts T) hr (pa_cons (pv 0) (pa_cons (pv 1) (pa_cons (pv 12) (pa_cons (pv 10) pa_nil)))))) (pg_name (i := 14) sc_steps_from.nd rfl (by first | exact .inl rfl | exact .inr rfl))
    (pss_one (ps_expr (pe_bm PySem.F.plainAttrs_list PySem.F.slot_list_append PySem.F.type_list_append mt_append (pv 5) (pa_cons (pe_tup (pa_cons (pe_op op_add (pv 12) (pv 14)) (pa_cons (pe_op op_add (pv 7) (pe_go (ok_ones_from T) hr (pa_cons (pv 12) (pa_cons (pv 14) pa_nil)))) (pa_cons (pe_op op_add (pv 8) pe_int) pa_nil)))) pa_nil))))))))))))))
    (pss_one (ps_ret (pe_callB cr_sortedPO (by rfl) T.n_sorted bt_sorted (pa_cons (pv 4) pa_nil)))))), ?_⟩
  have ok := ar.ok
  have sok := ar.sok
  obtain ⟨b1, b2, b3, b4, b5⟩ := sh_small ok
  have T0 : tsz h s (rs.drop ix) 0 ≤ 4194304 := by
    refine Nat.le_trans (tsz_le sok (fun r m => ar.rok.all r (List.mem_of_mem_drop m)) (Nat.zero_le _)) ?_
    exact Nat.le_trans (Nat.pow_le_pow_right (by decide) (show h.stop - 0 ≤ 11 by omega)) (by decide)
  refine ⟨by decide, fun lf nf => ⟨_, rfl, (by decide : 3 ≤ sizeLine), fun t0 nt0 => ⟨(by decide : 1 ≤ sizeLine), fun lw nw => ⟨_, _, rfl, ?_⟩⟩⟩⟩
  have s1 : Same H (upd (upd (upd H lf (.lst [])) t0 (.tup [.int 0, .int 0, .int (ix : Nat)])) lw (.lst [.ref t0])) := ((Same.up nf).trans (Same.up nt0)).trans (Same.up nw)
  have hf1 : (upd (upd (upd H lf (.lst [])) t0 (.tup [.int 0, .int 0, .int (ix : Nat)])) lw (.lst [.ref t0])) lf = some (.lst []) := (Same.up nw) _ _ ((Same.up nt0) _ _ upd_same)
  have nfw : lf ≠ lw := ne_of_none ((Same.up (o := .tup [.int 0, .int 0, .int (ix : Nat)]) nt0) _ _ (upd_same (H := H) (a := lf) (o := .lst []))) nw
  have nwH : H lw = none := by
    cases e : H lw with
    | none => rfl
    | some o =>
      have z := ((Same.up (o := .lst []) nf).trans (Same.up (o := .tup [.int 0, .int 0, .int (ix : Nat)]) nt0)) _ _ e
      rw [nw] at z
      cases z
  refine while_w (fun m σ H' => ∃ (fs : List (Nat × Nat)) (wk : List (Nat × Nat × Nat)) (xs ws : List V) (y6 y7 y8 y9 y10 y11 y12 y13 y14 : Option V), σ = [some (.ref a), some (.ref sp), some (.ref rl), some (.int (ix : Nat)), some (.ref lf), some (.ref lw), y6, y7, y8, y9, y10, y11, y12, y13, y14] ∧
      Same H H' ∧ H' lf = some (.lst xs) ∧ H' lw = some (.lst ws) ∧ PT' H' xs (fs.map prV) ∧ PL K H' ws (wk.map trV) ∧ (∀ t ∈ wk, t.1 < h.stop ∧ t.2.2 < rs.length) ∧
      (fs ++ wk.flatMap (nodeL h s rs)).Perm (lvs h s (rs.drop ix) 0 0 ix) ∧ fs.length + (wk.map (nodeZ h s rs)).sum ≤ 4194304 ∧ m = (wk.map (nodeZ h s rs)).sum) _
    ⟨[], [(0, 0, ix)], [], [.ref t0], none, none, none, none, none, none, none, none, none, rfl, s1, hf1, upd_same, .nil, .cons ⟨t0, rfl, SqT.up SqT.new nw⟩ .nil, fun t m => ?_, ?_, ?_, rfl⟩ (fun m σ H' hw => ?_)
  · have e : t = (0, 0, ix) := by simpa using m
    rw [e]
    exact ⟨by omega, hix⟩
  · rw [List.nil_append, List.flatMap_cons, List.flatMap_nil, List.append_nil]
  · simp only [List.map_cons, List.map_nil, List.sum_cons, List.sum_nil, List.length_nil]
    have : nodeZ h s rs (0, 0, ix) = tsz h s (rs.drop ix) 0 := rfl
    omega
  obtain ⟨fs, wk, xs, ws, y6, y7, y8, y9, y10, y11, y12, y13, y14, rfl, sm, hf, hw, hfs, hws, wok, perm, size, rfl⟩ := hw
  have lenW : ws.length = wk.length := by rw [Paired.length hws, List.length_map]
  refine ⟨_, rfl, by decide, fun e0 ne0 => ?_⟩
  have sE := Same.up (o := .lst []) ne0
  have dpw : Dp K (upd H' e0 (.lst [])) (.ref lw) (.list ((wk.map fun t => ([(t.1 : Int), (t.2.1 : Int), (t.2.2 : Int)] : List Int)).map fun l => .tuple (l.map .int))) := by
    refine .lst (.inl (.inl (sE _ _ hw))) (pl_ints ?_)
    rw [List.map_map]
    exact hws.same sE
  refine ne_nil dpw SqL.new (shp_rows _) ⟨_, rfl, ?_⟩
  have sm1 := sm.trans sE
  have hf' := sE _ _ hf
  have hw' := sE _ _ hw
  have hfs' := hfs.same sE
  have hws' := hws.same sE
  generalize upd H' e0 (.lst []) = H1 at sm1 hf' hw' hfs' hws'
  clear dpw sE hf hw hfs hws sm
  -- is a node left?
  rcases List.eq_nil_or_concat wk with ewk | ⟨wk0, t, ewk⟩
  · subst ewk
    refine iteF ⟨_, rfl, ?_⟩
    have eN := pt_back hfs'
    refine ⟨lf, xs, kOf H1, rfl, .inl (.inl hf'), fun x m => ?_, fun ys p srt stb np => ?_⟩
    · obtain ⟨b, e, hb⟩ := eN.2 x m
      refine ⟨b, e, ?_⟩
      have hk := kOf_pr hb
      rw [← e] at hk
      rw [hk]
      exact hb
    · have nfp : lf ≠ p := ne_of_none hf' np
      refine q _ p ys (ys.map (kN H1)) (sm1.trans (Same.up np)) (sm1.free np) upd_same ?_ ?_ ?_
      · refine pt_forth fun y m => ?_
        obtain ⟨b, e, hb⟩ := eN.2 y (stb.perm.mem_iff.mp m)
        exact ⟨b, e, .inl (.inl ((Same.up np) _ _ hb))⟩
      · have := stb.perm.map (kN H1)
        rw [eN.1] at this
        rw [List.flatMap_nil, List.append_nil] at perm
        exact this.trans perm
      · have srt' : ys.Pairwise fun x y => ltP (kOf H1) y x = false := srt
        refine List.pairwise_map.mpr (srt'.imp fun {x y} hxy => ?_)
        have := SrtO.lexB_no.mp hxy
        unfold kN
        omega
  · rw [List.concat_eq_append] at ewk
    subst ewk
    have ne : (!((((wk0 ++ [t]).map fun t => ([(t.1 : Int), (t.2.1 : Int), (t.2.2 : Int)] : List Int)).map fun l => PyData.tuple (l.map .int))).isEmpty) = true := by
      rw [List.map_map, List.map_append]
      simp
    rw [ne]
    refine iteT ⟨_, fun σ' H' hn => hn, ?_⟩
    obtain ⟨tp, tn, tr⟩ := t
    obtain ⟨tok1, tok2⟩ := wok (tp, tn, tr) (List.mem_append_right _ List.mem_cons_self)
    have tok1 : tp < h.stop := tok1
    have tok2 : tr < rs.length := tok2
    -- the last one
    have lst : ∃ ws0 b, ws = ws0 ++ [.ref b] ∧ PL K H1 ws0 (wk0.map trV) ∧ SqT K H1 b (trV (tp, tn, tr)) := by
      rw [List.map_append] at hws'
      rcases List.eq_nil_or_concat ws with e | ⟨ws0, x, e⟩
      · rw [e, List.length_nil, List.length_append, List.length_singleton] at lenW
        omega
      · rw [List.concat_eq_append] at e
        subst e
        have l0 : ws0.length = (wk0.map trV).length := by
          rw [List.length_map]
          rw [List.length_append, List.length_append, List.length_singleton, List.length_singleton] at lenW
          omega
        have split : ∀ {l : List V} {m : List (List V)} {x : V} {y : List V}, l.length = m.length → PL K H1 (l ++ [x]) (m ++ [y]) → PL K H1 l m ∧ ∃ a, x = .ref a ∧ SqT K H1 a y := by
          intro l
          induction l with
          | nil =>
            intro m x y hl hp
            cases m with
            | nil =>
              cases hp with
              | cons h1 h2 => exact ⟨.nil, h1⟩
            | cons _ _ => cases hl
          | cons u l ih =>
            intro m x y hl hp
            cases m with
            | nil => cases hl
            | cons v m =>
              cases hp with
              | cons h1 h2 =>
                obtain ⟨i1, i2⟩ := ih (Nat.succ.inj hl) h2
                exact ⟨.cons h1 i1, i2⟩
        obtain ⟨s1, b, rfl, hb⟩ := split l0 hws'
        exact ⟨ws0, b, rfl, s1, hb⟩
    obtain ⟨ws0, b, rfl, hws0, hb⟩ := lst
    have lastAt : (ws0 ++ [V.ref b])[(ws0 ++ [V.ref b]).length - 1]? = some (V.ref b) := by
      rw [List.length_append, List.length_singleton, Nat.add_sub_cancel, List.getElem?_append_right (Nat.le_refl _), Nat.sub_self]
      rfl
    refine ⟨_, rfl, .inl ⟨rfl, _, .inl (.inl hw')⟩, lw, _, _, rfl, rfl, hw', lastAt, ?_⟩
    rw [List.dropLast_concat]
    -- the heap with the shorter stack
    have sm2 : Same H (upd H1 lw (.lst ws0)) := Same.onL nwH sm1
    have hf2 : (upd H1 lw (.lst ws0)) lf = some (.lst xs) := by
      rw [upd_ne nfw]
      exact hf'
    have hfs2 : PT' (upd H1 lw (.lst ws0)) xs (fs.map prV) := hfs'.onL hw'
    have hws2 : PL K (upd H1 lw (.lst ws0)) ws0 (wk0.map trV) := hws0.onL hw'
    have hb2 : SqT K (upd H1 lw (.lst ws0)) b (trV (tp, tn, tr)) := SqT.onL hw' hb
    have hw2 : (upd H1 lw (.lst ws0)) lw = some (.lst ws0) := upd_same
    generalize upd H1 lw (.lst ws0) = H2 at sm2 hf2 hfs2 hws2 hb2 hw2
    clear hf' hw' hfs' hws' sm1 hws0 hb lastAt lenW
    refine ⟨b, _, rfl, hb2, rfl, _, _, rfl, _, _, rfl, _, _, rfl, rfl, ?_⟩
    have ar2 := ar.same sm2
    have er : rs[tr]? = some rs[tr] := List.getElem?_eq_getElem tok2
    generalize rs[tr] = r at er
    have rok := ar.rok.all r (List.mem_of_getElem? er)
    obtain ⟨rb, erx, hrb⟩ : ∃ rb, rx[tr]? = some (.ref rb) ∧ SqT K H2 rb (runV r) := by
      have hlt : tr < rx.length := by
        rw [Paired.length ar2.hrx, List.length_map]
        exact tok2
      have e1 : rx[tr]? = some rx[tr] := List.getElem?_eq_getElem hlt
      obtain ⟨y, e2, rb, e3, hy⟩ := Paired.getl ar2.hrx e1
      rw [List.getElem?_map, er] at e2
      have e4 : y = runV r := (Option.some.inj e2).symm
      rw [e4] at hy
      exact ⟨rb, by rw [e1, e3], hy⟩
    obtain ⟨z, o⟩ := r
    refine ⟨_, rfl, _, rfl, _, _, _, _, rfl, rfl, ar2.hrl, atI_nat erx, rb, _, rfl, hrb, rfl, _, _, rfl, _, _, rfl, rfl, ?_⟩
    refine ⟨_, rfl, _, rfl, _, rfl, a, h, rfl, ar2.hs, ok, _, rfl, _, _, rfl, rfl, sp, s, z, _, rfl, ar2.hp, sok, rok.z, by omega, by omega, fun H3 c s3 nc hc => ?_⟩
    have hf3 := s3 _ _ hf2
    have hw3 := s3 _ _ hw2
    have ncf : c ≠ lf := (ne_of_none hf2 nc).symm
    have ncw : c ≠ lw := (ne_of_none hw2 nc).symm
    have nod := node_eq (h := h) (s := s) (t := (tp, tn, tr)) er
    have pl := part_len (h := h) (s := s) (t := (tp, tn, tr)) er
    have nodm : ∀ many, many ∈ cnts s z ((h.stop : Nat) - (tp : Nat)) → tp + many ≤ h.stop ∧ 1 ≤ many := fun many hm => by
      have := (mem_cnts sok rok.z1).mp hm
      omega
    generalize eL : cnts s z ((h.stop : Nat) - (tp : Nat)) = L at hc nodm
    simp only [eL] at nod pl
    generalize eE : endE h s o (tp, tn, tr) = E at nod pl
    generalize eK : kidE h s o (tp, tn, tr) = Kd at nod pl
    have nextOk : ∀ x, o = some x → tr + 1 < rs.length := fun x ex => ar.rok.nxt tr _ x er ex
    have tot : fs.length + ((wk0.map (nodeZ h s rs)).sum + nodeZ h s rs (tp, tn, tr)) ≤ 4194304 := by
      rw [List.map_append, List.sum_append] at size
      simp only [List.map_cons, List.map_nil, List.sum_cons, List.sum_nil] at size
      omega
    -- the base: all but the two lists
    have Bw : (hid (hid H3 lf) lw) lw = none := hid_self
    have Bf : (hid (hid H3 lf) lw) lf = none := (hid_ne nfw).trans hid_self
    have sB : Same H (hid (hid H3 lf) lw) := same_hid nwH (same_hid nf (sm2.trans s3))
    have cB : SqL K (hid (hid H3 lf) lw) c (iv L) := seq_hid (seq_hid (.inl (.inl hc)) ncf) ncw
    have B3 : Same (hid (hid H3 lf) lw) H3 := (hid_same _ _).trans (hid_same _ _)
    have hfs3 := hfs2.same s3
    have hws3 := hws2.same s3
    generalize hid (hid H3 lf) lw = B at Bw Bf sB cB B3
    have lenE : ∀ i, ((L.take i).flatMap E).length + (((L.take i).flatMap Kd).map (nodeZ h s rs)).sum + 1 ≤ nodeZ h s rs (tp, tn, tr) := pl
    have kidLen : ∀ l : List (Nat × Nat × Nat), l.length ≤ (l.map (nodeZ h s rs)).sum := len_sum fun t => tsz_pos h s _ _
    refine ⟨c, rfl, ⟨_, .inl (.inl hc)⟩, ?_⟩
    refine for_list (xs := iv L) (fun i σ H' => ∃ (xs' ws' : List V) (y11 y12 y13 y14 : Option V), σ = [some (.ref a), some (.ref sp), some (.ref rl), some (.int (ix : Nat)), some (.ref lf), some (.ref lw), some (.int (tp : Nat)), some (.int (tn : Nat)), some (.int (tr : Nat)), some (.int (z : Nat)), some (oV o), y11, y12, y13, y14] ∧
      Same B H' ∧ H' lf = some (.lst xs') ∧ H' lw = some (.lst ws') ∧ PT' H' xs' ((fs ++ (L.take i).flatMap E).map prV) ∧ PL K H' ws' ((wk0 ++ (L.take i).flatMap Kd).map trV)) ⟨xs, ws0, _, _, _, _, rfl, B3, hf3, hw3, by rw [List.take_zero, List.flatMap_nil, List.append_nil]; exact hfs3, by rw [List.take_zero, List.flatMap_nil, List.append_nil]; exact hws3⟩
      (fun i σ H' _ hx => ?_) (fun i x σ H' ex hx => ?_) (fun σ H' hx => ?_)
    · obtain ⟨_, _, _, _, _, _, _, sm, _⟩ := hx
      exact sm.seq cB
    · obtain ⟨xs', ws', y11, y12, y13, y14, rfl, sm, hf, hw, hfs, hws⟩ := hx
      obtain ⟨many, rfl, em⟩ := atN ex
      obtain ⟨nb, n1⟩ := nodm many (List.mem_of_getElem? em)
      have pb : ((tp : Nat) : Int) + ((many : Nat) : Int) = ((tp + many : Nat) : Int) := by omega
      have sk := sB.trans sm
      refine ⟨_, rfl, _, rfl, _, _, rfl, rfl, ?_⟩
      simp only [pb]
      have ark := ar.same sk
      -- behind the answer
      have eEm : E many = match (if canEnd h s (tp + many) o = true then ended h (tp + many) tn else none) with
          | some e => [(e, tr + 1)]
          | none => [] := by
        rw [← eE]
        unfold endE
        by_cases ec : canEnd h s (tp + many) o = true
        · rw [if_pos ec, if_pos ec]
        · rw [if_neg ec, if_neg ec]
      have tr1 : ((tr : Nat) : Int) + 1 = ((tr + 1 : Nat) : Int) := by omega
      -- the stack's loop
      have inn : ∀ (H4 : Hp) (zs : List V), Same B H4 → H4 lf = some (.lst zs) → H4 lw = some (.lst ws') → PT' H4 zs ((fs ++ (L.take (i + 1)).flatMap E).map prV) → PL K H4 ws' ((wk0 ++ (L.take i).flatMap Kd).map trV) → ∀ (y13 w14 : Option V) (D : Ends) (g : TG), g = gName 14 →
          (∀ σ' H', (∃ (xs' ws' : List V) (y11 y12 y13 y14 : Option V), σ' = [some (.ref a), some (.ref sp), some (.ref rl), some (.int (ix : Nat)), some (.ref lf), some (.ref lw), some (.int (tp : Nat)), some (.int (tn : Nat)), some (.int (tr : Nat)), some (.int (z : Nat)), some (oV o), y11, y12, y13, y14] ∧
            Same B H' ∧ H' lf = some (.lst xs') ∧ H' lw = some (.lst ws') ∧ PT' H' xs' ((fs ++ (L.take (i + 1)).flatMap E).map prV) ∧ PL K H' ws' ((wk0 ++ (L.take (i + 1)).flatMap Kd).map trV)) → D.nx σ' H') →
          tFor (iList K (tCall (fun vs H Q _ => ∃ (a sp : Addr) (h : Sh) (s : Sn) (b : Nat) (o : Option Nat), vs = [.ref a, .ref sp, .int (b : Nat), oV o] ∧ SqT K H a h.vs ∧ h.Ok ∧ SqT K H sp s.vs ∧ s.Ok ∧ b ≤ h.stop ∧
              (∀ x, o = some x → x ≤ 2 ^ 60 * s.hi) ∧ sp_list (inner h s b o) H Q) [] E0 (tCons (tVar 0) (tCons (tVar 1) (tCons (tVar 12) (tCons (tVar 10) tNil)))))) g
            (tDrop (tBM K "list" rAppend (tVar 5) (tCons (tTup (tCons (tOp (rI0 fun i j => .int (i + j)) (tVar 12) (tVar 14)) (tCons (tOp (rI0 fun i j => .int (i + j)) (tVar 7) (tCall (fun vs H Q _ => ∃ (p m : Nat), vs = [.int (p : Nat), .int (m : Nat)] ∧ 1 ≤ p ∧ p ≤ 100 ∧ m ≤ 100 ∧ ∀ H', Same H H' → Q (.int (onesFrom p m : Nat)) H') [] E0 (tCons (tVar 12) (tCons (tVar 14) tNil))))
              (tCons (tOp (rI0 fun i j => .int (i + j)) (tVar 8) (tC (.int 1))) tNil)))) tNil))) D
            [some (.ref a), some (.ref sp), some (.ref rl), some (.int (ix : Nat)), some (.ref lf), some (.ref lw), some (.int (tp : Nat)), some (.int (tn : Nat)), some (.int (tr : Nat)), some (.int (z : Nat)), some (oV o), some (.int (many : Nat)), some (.int ((tp + many : Nat) : Int)), y13, w14] H4 := by
        intro H4 zs sm4 hf4 hw4 hfs4 hws4 y13 w14 D g eg hD
        subst eg
        have ark4 := ar.same (sB.trans sm4)
        refine ⟨_, rfl, _, rfl, _, rfl, _, rfl, a, sp, h, s, tp + many, o, rfl, ark4.hs, ok, ark4.hp, sok, nb, fun x ex => (rok.o x ex).1, fun H5 c2 s5 nc2 hc2 => ?_⟩
        have nc2f : c2 ≠ lf := (ne_of_none hf4 nc2).symm
        have nc2w : c2 ≠ lw := (ne_of_none hw4 nc2).symm
        have hf5 := s5 _ _ hf4
        have hw5 := s5 _ _ hw4
        have sm5 := sm4.trans s5
        have mI : ∀ m ∈ inner h s (tp + many) o, m ≤ 100 := fun m hm => by
          cases o with
          | none => cases hm
          | some o' =>
            have := (mem_cnts sok (rok.o o' rfl).2).mp hm
            omega
        generalize eI : inner h s (tp + many) o = I at hc2 mI
        have eKm : Kd many = I.map fun more => (tp + many + more, tn + onesFrom (tp + many) more, tr + 1) := by
          rw [← eK, ← eI]
          rfl
        have cB2 : SqL K (hid H5 lw) c2 (iv I) := seq_hid (.inl (.inl hc2)) nc2w
        have B5 : Same B (hid H5 lw) := same_hid Bw sm5
        refine ⟨c2, rfl, ⟨_, .inl (.inl hc2)⟩, ?_⟩
        refine for_list (xs := iv I) (fun j σ H' => ∃ (ws2 : List V) (y14 : Option V), σ = [some (.ref a), some (.ref sp), some (.ref rl), some (.int (ix : Nat)), some (.ref lf), some (.ref lw), some (.int (tp : Nat)), some (.int (tn : Nat)), some (.int (tr : Nat)), some (.int (z : Nat)), some (oV o), some (.int (many : Nat)), some (.int ((tp + many : Nat) : Int)), y13, y14] ∧
          Same (hid H5 lw) H' ∧ H' lw = some (.lst ws2) ∧ PL K H' ws2 ((wk0 ++ (L.take i).flatMap Kd ++ (I.take j).map fun more => (tp + many + more, tn + onesFrom (tp + many) more, tr + 1)).map trV)) ⟨ws', w14, rfl, hid_same _ _, hw5, ?_⟩ (fun j σ H' _ hx => ?_) (fun j x σ H' ex hx => ?_) (fun σ H' hx => ?_)
        · rw [List.take_zero, List.map_nil, List.append_nil]
          exact hws4.same s5
        · obtain ⟨_, _, _, sm6, _⟩ := hx
          exact sm6.seq cB2
        · obtain ⟨ws2, y14', rfl, sm6, hw6, hws6⟩ := hx
          obtain ⟨more, rfl, emo⟩ := atN ex
          have mo := mI more (List.mem_of_getElem? emo)
          refine ⟨_, rfl, .inl ⟨rfl, _, .inl (.inl hw6)⟩, _, rfl, _, rfl, _, _, rfl, rfl, _, rfl, _, rfl, _, rfl, tp + many, more, rfl, by omega, by omega, mo, fun H7 s7 => ⟨_, _, rfl, rfl, _, rfl, _, _, rfl, rfl, (by decide : 3 ≤ sizeLine), fun t nt => ?_⟩⟩
          have e1 : ((tp + many : Nat) : Int) + ((more : Nat) : Int) = ((tp + many + more : Nat) : Int) := by omega
          have e2 : ((tn : Nat) : Int) + ((onesFrom (tp + many) more : Nat) : Int) = ((tn + onesFrom (tp + many) more : Nat) : Int) := by omega
          simp only [e1, e2, tr1]
          have hw7 := s7 _ _ hw6
          have hw8 : (upd H7 t (.tup [.int ((tp + many + more : Nat) : Int), .int ((tn + onesFrom (tp + many) more : Nat) : Int), .int ((tr + 1 : Nat) : Int)])) lw = some (.lst ws2) := (Same.up nt) _ _ hw7
          have lenw : ws2.length ≤ 4194304 := by
            rw [Paired.length hws6, List.length_map, List.length_append]
            have h1 := lenE (i + 1)
            rw [fm_take (f := Kd) em, List.map_append, List.sum_append] at h1
            have h2 := kidLen (Kd many)
            have h3 := kidLen ((L.take i).flatMap Kd)
            have h4 := kidLen wk0
            have h5 : ((I.take j).map fun more => (tp + many + more, tn + onesFrom (tp + many) more, tr + 1)).length ≤ (Kd many).length := by
              rw [eKm, List.length_map, List.length_map, List.length_take]
              omega
            rw [List.length_append]
            omega
          refine ⟨lw, ws2, _, rfl, rfl, hw8, small_len lenw, ?_⟩
          refine ⟨_, _, rfl, Same.onL hid_self (sm6.trans (s7.trans (Same.up nt))), upd_same, ?_⟩
          have e3 : (I.take (j + 1)).map (fun more => (tp + many + more, tn + onesFrom (tp + many) more, tr + 1)) = (I.take j).map (fun more => (tp + many + more, tn + onesFrom (tp + many) more, tr + 1)) ++ [(tp + many + more, tn + onesFrom (tp + many) more, tr + 1)] := by
            rw [take_snoc emo, List.map_append] <;> rfl
          rw [e3, ← List.append_assoc, List.map_append]
          exact Paired.snoc ((hws6.same (s7.trans (Same.up nt))).onL hw8) ⟨t, rfl, SqT.onL hw8 SqT.new⟩
        · obtain ⟨ws2, y14', rfl, sm6, hw6, hws6⟩ := hx
          have hf6 : H' lf = some (.lst zs) := sm6 _ _ (by rw [hid_ne nfw]; exact hf5)
          refine hD _ _ ⟨zs, ws2, _, _, _, _, rfl, B5.trans sm6, hf6, hw6, ?_, ?_⟩
          · refine Paired.mapP hfs4 fun _ _ ⟨x, e, hx⟩ => ⟨x, e, sm6 _ _ ?_⟩
            rw [hid_ne (ne_of hx hw4 (fun z => nomatch z))]
            exact s5 _ _ hx
          · have li : (iv I).length = I.length := List.length_map _
            rw [li, List.take_length] at hws6
            rw [fm_take em, eKm, ← List.append_assoc]
            exact hws6
      have goOn : ∀ σ' H', (∃ (xs' ws' : List V) (y11 y12 y13 y14 : Option V), σ' = [some (.ref a), some (.ref sp), some (.ref rl), some (.int (ix : Nat)), some (.ref lf), some (.ref lw), some (.int (tp : Nat)), some (.int (tn : Nat)), some (.int (tr : Nat)), some (.int (z : Nat)), some (oV o), y11, y12, y13, y14] ∧
            Same B H' ∧ H' lf = some (.lst xs') ∧ H' lw = some (.lst ws') ∧ PT' H' xs' ((fs ++ (L.take (i + 1)).flatMap E).map prV) ∧ PL K H' ws' ((wk0 ++ (L.take (i + 1)).flatMap Kd).map trV)) → (∃ (xs' ws' : List V) (y11 y12 y13 y14 : Option V), σ' = [some (.ref a), some (.ref sp), some (.ref rl), some (.int (ix : Nat)), some (.ref lf), some (.ref lw), some (.int (tp : Nat)), some (.int (tn : Nat)), some (.int (tr : Nat)), some (.int (z : Nat)), some (oV o), y11, y12, y13, y14] ∧
            Same B H' ∧ H' lf = some (.lst xs') ∧ H' lw = some (.lst ws') ∧ PT' H' xs' ((fs ++ (L.take (i + 1)).flatMap E).map prV) ∧ PL K H' ws' ((wk0 ++ (L.take (i + 1)).flatMap Kd).map trV)) := fun _ _ z => z
      -- nothing ended here
      have none_way : (if canEnd h s (tp + many) o = true then ended h (tp + many) tn else none) = none → E many = [] := fun e => by rw [eEm, e]
      refine ⟨_, rfl, _, rfl, _, rfl, _, rfl, a, sp, h, s, tp + many, o, rfl, ark.hs, ok, ark.hp, by omega, _, rfl, ?_⟩
      cases ec : canEnd h s (tp + many) o with
      | false =>
        rw [ec, if_neg (by decide)] at none_way
        refine iteF ⟨_, rfl, rfl, false, rfl, iteF ?_⟩
        refine inn H' xs' sm hf hw ?_ hws _ _ _ _ rfl goOn
        rw [fm_take em, none_way rfl, List.append_nil]
        exact hfs
      | true =>
        rw [ec, if_pos rfl] at none_way eEm
        refine iteT ⟨_, rfl, _, rfl, _, rfl, a, h, tp + many, tn, rfl, ark.hs, ok, by omega, by omega, fun H4 s4 => ?_⟩
        cases ee : ended h (tp + many) tn with
        | none =>
          refine ⟨_, rfl, rfl, false, rfl, iteF ?_⟩
          refine inn H4 xs' (sm.trans s4) (s4 _ _ hf) (s4 _ _ hw) ?_ (hws.same s4) _ _ _ _ rfl goOn
          rw [fm_take em, none_way ee, List.append_nil]
          exact hfs.same s4
        | some ev =>
          rw [ee] at eEm
          refine ⟨_, rfl, rfl, true, rfl, iteT ?_⟩
          have hf4 := s4 _ _ hf
          refine ⟨_, rfl, .inl ⟨rfl, _, .inl (.inl hf4)⟩, _, rfl, _, rfl, _, _, rfl, rfl, (by decide : 2 ≤ sizeLine), fun t nt => ?_⟩
          simp only [tr1]
          have hf5 : (upd H4 t (.tup [.int (ev : Nat), .int ((tr + 1 : Nat) : Int)])) lf = some (.lst xs') := (Same.up nt) _ _ hf4
          have hw5 : (upd H4 t (.tup [.int (ev : Nat), .int ((tr + 1 : Nat) : Int)])) lw = some (.lst ws') := (Same.up nt) _ _ (s4 _ _ hw)
          refine ⟨lf, xs', _, rfl, rfl, hf5, small_len (n := 4194304) ?_, ?_⟩
          · rw [Paired.length hfs, List.length_map, List.length_append]
            have h1 := lenE i
            omega
          · refine inn _ _ (Same.onL Bf (sm.trans (s4.trans (Same.up nt)))) upd_same ?_ ?_ ?_ _ _ _ _ rfl goOn
            · rw [upd_ne nfw.symm]
              exact hw5
            · rw [fm_take em, eEm, ← List.append_assoc, List.map_append]
              refine Paired.snoc ((hfs.same (s4.trans (Same.up nt))).onL hf5) ⟨t, rfl, ?_⟩
              rw [upd_ne (ne_of (upd_same (H := H4) (a := t)) hf5 (fun z => nomatch z))]
              exact upd_same
            · exact (hws.same (s4.trans (Same.up nt))).onL hf5
    · obtain ⟨xs', ws', y11, y12, y13, y14, rfl, sm, hf, hw, hfs, hws⟩ := hx
      have lz : (iv L).length = L.length := List.length_map _
      rw [lz, List.take_length] at hfs hws
      have fin := lenE L.length
      rw [List.take_length] at fin
      refine ⟨_, ?_, fs ++ L.flatMap E, wk0 ++ L.flatMap Kd, xs', ws', _, _, _, _, _, _, _, _, _, rfl, sB.trans sm, hf, hw, hfs, hws, ?_, ?_, ?_, rfl⟩
      · rw [List.map_append, List.map_append, List.sum_append, List.sum_append]
        simp only [List.map_cons, List.map_nil, List.sum_cons, List.sum_nil]
        omega
      · intro t ht
        rcases List.mem_append.mp ht with m | m
        · exact wok t (List.mem_append_left _ m)
        · obtain ⟨many, m1, m2⟩ := List.mem_flatMap.mp m
          rw [← eK] at m2
          obtain ⟨more, m3, rfl⟩ := List.mem_map.mp m2
          obtain ⟨nb, n1⟩ := nodm many m1
          cases o with
          | none => cases m3
          | some o' =>
            have := (mem_cnts sok (rok.o o' rfl).2).mp m3
            have z := nextOk o' rfl
            refine ⟨?_, z⟩
            show tp + many + more < h.stop
            have e : ((tp, tn, tr) : Nat × Nat × Nat).1 = tp := rfl
            omega
      · refine List.Perm.trans ?_ perm
        rw [List.flatMap_append, List.flatMap_append, List.flatMap_cons, List.flatMap_nil, List.append_nil, nod, List.append_assoc]
        refine (List.Perm.refl _).append ?_
        have p2 := perm_two E Kd (nodeL h s rs) L
        refine List.Perm.trans ?_ ((List.Perm.refl _).append p2.symm)
        rw [← List.append_assoc, ← List.append_assoc]
        exact List.perm_append_comm.append (List.Perm.refl _)
      · rw [List.length_append, List.map_append, List.sum_append]
        omega
end
end K89

set_option maxRecDepth 100000
set_option maxHeartbeats 2000000
/-! states, rows -/
namespace K89
open PySem L2
abbrev Stt := Nat × Nat
def insK (l : List Stt) (x : Stt) : List Stt := if x ∈ l then l else l ++ [x]
def dd (l : List Stt) : List Stt := l.foldl insK []
theorem insK_mem {l : List Stt} {x y : Stt} : y ∈ insK l x ↔ y ∈ l ∨ y = x := by
  unfold insK
  split
  · exact ⟨.inl, fun h => h.elim id fun e => by rw [e]; assumption⟩
  · rw [List.mem_append, List.mem_singleton]
theorem insK_nd {l : List Stt} {x : Stt} (h : l.Nodup) : (insK l x).Nodup := by
  unfold insK
  split
  · exact h
  · rename_i hx
    exact List.nodup_append.mpr ⟨h, by simp, fun a ha b hb => by
      rw [List.mem_singleton] at hb
      rw [hb]
      exact fun e => hx (e ▸ ha)⟩
theorem dd_gen : ∀ (l acc : List Stt), acc.Nodup → (l.foldl insK acc).Nodup ∧ ∀ y, y ∈ l.foldl insK acc ↔ y ∈ acc ∨ y ∈ l
  | [], acc, h => ⟨h, fun y => by simp⟩
  | x :: l, acc, h => by
    obtain ⟨h1, h2⟩ := dd_gen l (insK acc x) (insK_nd h)
    refine ⟨h1, fun y => ?_⟩
    rw [List.foldl_cons, h2, insK_mem, List.mem_cons]
    exact or_assoc
theorem dd_nd (l : List Stt) : (dd l).Nodup := (dd_gen l [] List.nodup_nil).1
theorem dd_mem {l : List Stt} {y : Stt} : y ∈ dd l ↔ y ∈ l := by
  have := (dd_gen l [] List.nodup_nil).2 y
  unfold dd
  rw [this]
  simp
theorem dd_snoc (l : List Stt) (x : Stt) : dd (l ++ [x]) = insK (dd l) x := by
  unfold dd
  rw [List.foldl_append]
  rfl
def stA (h : Sh) (s : Sn) (rs : List Run) : Nat → List Stt
  | 0 => [(0, 0)]
  | i + 1 => match rs[i]? with
    | some r => dd ((stA h s rs i).flatMap (mvs h s r))
    | none => []
theorem stA_nd (h : Sh) (s : Sn) (rs : List Run) : ∀ i, (stA h s rs i).Nodup
  | 0 => by simp [stA]
  | i + 1 => by
    unfold stA
    split
    · exact dd_nd _
    · exact List.nodup_nil
theorem mvs_ok {h : Sh} {s : Sn} (ok : h.Ok) (sok : s.Ok) {r : Run} (rok : RunOk s r) {st x : Stt} (hx : x ∈ mvs h s r st) : x.1 < h.stop ∧ x.2 < 2 := by
  have b := sh_small ok
  obtain ⟨many, _, m⟩ := List.mem_flatMap.mp hx
  rcases List.mem_append.mp m with m | m
  · split at m
    · have e : x = (0, 0) := by simpa using m
      rw [e]
      exact ⟨by omega, by decide⟩
    · cases m
  · obtain ⟨more, m3, rfl⟩ := List.mem_map.mp m
    refine ⟨?_, Nat.mod_lt _ (by decide)⟩
    show st.1 + many + more < h.stop
    cases eo : r.2 with
    | none =>
      rw [eo] at m3
      cases m3
    | some o =>
      rw [eo] at m3
      have := (mem_cnts sok (rok.o o eo).2).mp m3
      omega
theorem stA_ok {h : Sh} {s : Sn} (ok : h.Ok) (sok : s.Ok) {rs : List Run} (rok : RunsOk s rs) : ∀ (i : Nat) {x : Stt}, x ∈ stA h s rs i → x.1 < h.stop ∧ x.2 < 2
  | 0, x, hx => by
    have b := sh_small ok
    have e : x = (0, 0) := by simpa [stA] using hx
    rw [e]
    exact ⟨by omega, by decide⟩
  | i + 1, x, hx => by
    unfold stA at hx
    split at hx
    · rename_i r er
      obtain ⟨st, _, m⟩ := List.mem_flatMap.mp (dd_mem.mp hx)
      exact mvs_ok ok sok (rok.all r (List.mem_of_getElem? er)) m
    · cases hx
/-- a list without doubles whose members are few -/
theorem nd_len {α : Type} [DecidableEq α] : ∀ {l m : List α}, l.Nodup → (∀ x ∈ l, x ∈ m) → l.length ≤ m.length
  | [], _, _, _ => Nat.zero_le _
  | x :: l, m, hn, hs => by
    obtain ⟨n1, n2⟩ := List.nodup_cons.mp hn
    have hx := hs x List.mem_cons_self
    have ih := nd_len (m := m.erase x) n2 fun y hy => (List.mem_erase_of_ne (fun e : y = x => n1 (by rw [← e]; exact hy))).mpr (hs y (List.mem_cons_of_mem _ hy))
    rw [List.length_erase_of_mem hx] at ih
    have := List.length_pos_of_mem hx
    rw [List.length_cons]
    omega
theorem st_few {h : Sh} (ok : h.Ok) {l : List Stt} (hn : l.Nodup) (hs : ∀ x ∈ l, x.1 < h.stop ∧ x.2 < 2) : l.length ≤ 100 := by
  have b := sh_small ok
  have := nd_len (m := (List.range 11).flatMap fun a => [(a, 0), (a, 1)]) hn fun x hx => by
    have h2 := hs x hx
    obtain ⟨a, c⟩ := x
    refine List.mem_flatMap.mpr ⟨a, List.mem_range.mpr (by have : a < h.stop := h2.1; omega), ?_⟩
    have h3 : c < 2 := h2.2
    have : c = 0 ∨ c = 1 := by omega
    rcases this with rfl | rfl <;> simp
  exact Nat.le_trans this (by decide)
theorem mvs_len {h : Sh} (ok : h.Ok) (s : Sn) (r : Run) (st : Stt) : (mvs h s r st).length ≤ 1000 := by
  have b := sh_small ok
  have := mvs_part ok s r st (cnts s r.1 ((h.stop : Nat) - (st.1 : Nat)))
  have l2 : (cnts s r.1 ((h.stop : Nat) - (st.1 : Nat))).length ≤ 12 := cnts_len (M := 11) (by omega)
  exact Nat.le_trans this (by omega)
def mnL : List Nat → Nat
  | [] => 0
  | [x] => x
  | x :: r => min x (mnL r)
def mxL : List Nat → Nat
  | [] => 0
  | x :: r => max x (mxL r)
theorem mnL_ok : ∀ {l : List Nat}, l ≠ [] → mnL l ∈ l ∧ ∀ y ∈ l, mnL l ≤ y
  | [], h => absurd rfl h
  | [x], _ => ⟨List.mem_cons_self, fun y m => by
    rw [List.mem_singleton] at m
    rw [m]
    exact Nat.le_refl _⟩
  | x :: z :: r, _ => by
    obtain ⟨h1, h2⟩ := mnL_ok (l := z :: r) (by simp)
    show min x (mnL (z :: r)) ∈ _ ∧ ∀ y ∈ x :: z :: r, min x (mnL (z :: r)) ≤ y
    constructor
    · by_cases h : x ≤ mnL (z :: r)
      · rw [Nat.min_eq_left h]
        exact List.mem_cons_self
      · rw [Nat.min_eq_right (by omega)]
        exact List.mem_cons_of_mem _ h1
    · intro y m
      rcases List.mem_cons.mp m with rfl | m
      · exact Nat.min_le_left _ _
      · exact Nat.le_trans (Nat.min_le_right _ _) (h2 y m)
theorem mxL_ok : ∀ {l : List Nat}, l ≠ [] → mxL l ∈ l ∧ ∀ y ∈ l, y ≤ mxL l
  | [], h => absurd rfl h
  | [x], _ => ⟨by simp [mxL], fun y m => by
    rw [List.mem_singleton] at m
    simp [m, mxL]⟩
  | x :: z :: r, _ => by
    obtain ⟨h1, h2⟩ := mxL_ok (l := z :: r) (by simp)
    show max x (mxL (z :: r)) ∈ _ ∧ ∀ y ∈ x :: z :: r, y ≤ max x (mxL (z :: r))
    constructor
    · by_cases h : x ≤ mxL (z :: r)
      · rw [Nat.max_eq_right h]
        exact List.mem_cons_of_mem _ h1
      · rw [Nat.max_eq_left (by omega)]
        exact List.mem_cons_self
    · intro y m
      rcases List.mem_cons.mp m with rfl | m
      · exact Nat.le_max_left _ _
      · exact Nat.le_trans (h2 y m) (Nat.le_max_right _ _)
abbrev Ms := Nat × Nat × Nat
def isAh (x : Stt) : Nat := if x = (0, 0) then 1 else 0
/-- what lies behind the moves -/
def soF (f : Stt → Option Ms) (l : List Stt) : List (Nat × Ms) := l.filterMap fun x => (f x).map fun t => (isAh x, t)
def msOf (so : List (Nat × Ms)) : Option Ms :=
  if so = [] then none else some ((so.map fun x => x.2.1).sum, mnL (so.map fun x => x.1 + x.2.2.1), mxL (so.map fun x => x.1 + x.2.2.2))
def comb (h : Sh) (s : Sn) (r : Run) (f : Stt → Option Ms) (st : Stt) : Option Ms := msOf (soF f (mvs h s r st))
def fin0 (st : Stt) : Option Ms := if st = (0, 0) then some (1, 0, 0) else none
def me (h : Sh) (s : Sn) : List Run → Stt → Option Ms
  | [], st => fin0 st
  | r :: rs, st => comb h s r (me h s rs) st
/-- the rows kept, k of them from the end on -/
def rowK (h : Sh) (s : Sn) (rs : List Run) : Nat → Stt → Option Ms
  | 0, st => fin0 st
  | k + 1, st => if st ∈ stA h s rs (rs.length - (k + 1)) then (match rs[rs.length - (k + 1)]? with
      | some r => comb h s r (rowK h s rs k) st
      | none => none) else none
theorem soF_congr {f g : Stt → Option Ms} : ∀ {l : List Stt}, (∀ x ∈ l, f x = g x) → soF f l = soF g l
  | [], _ => rfl
  | x :: l, h => by
    have h1 := h x List.mem_cons_self
    have h2 := soF_congr (l := l) fun y m => h y (List.mem_cons_of_mem _ m)
    unfold soF at h2 ⊢
    rw [List.filterMap_cons, List.filterMap_cons, h1, h2]
/-- on the states that are reached the rows are the measures -/
theorem rowK_me (h : Sh) (s : Sn) (rs : List Run) : ∀ (k : Nat), k ≤ rs.length → ∀ st, st ∈ stA h s rs (rs.length - k) ∨ k = 0 → rowK h s rs k st = me h s (rs.drop (rs.length - k)) st
  | 0, _, st, _ => by
    rw [Nat.sub_zero, List.drop_length]
    rfl
  | k + 1, hk, st, hst => by
    have hs : st ∈ stA h s rs (rs.length - (k + 1)) := hst.elim id fun e => absurd e (by omega)
    have hlt : rs.length - (k + 1) < rs.length := by omega
    have er : rs[rs.length - (k + 1)]? = some rs[rs.length - (k + 1)] := List.getElem?_eq_getElem hlt
    have e1 : rs.length - k = rs.length - (k + 1) + 1 := by omega
    unfold rowK
    rw [if_pos hs, er, List.drop_eq_getElem_cons hlt]
    show comb _ _ _ _ _ = comb _ _ _ _ _
    unfold comb
    rw [soF_congr fun x hx => ?_]
    rw [← e1]
    refine rowK_me h s rs k (by omega) x (.inl ?_)
    rw [e1]
    unfold stA
    rw [er]
    exact dd_mem.mpr (List.mem_flatMap.mpr ⟨st, hs, hx⟩)
end K89

set_option maxRecDepth 100000
set_option maxHeartbeats 2000000
namespace K89
open PySem PySem.Spec PyProof.Rows L2
section
variable {X : Cx}
/-- {k: v for tg in iter if ..} as a value, the keys tuples of ints -/
theorem pe_td1 {kx vx tg iter : Expr} {ifs : List Expr} {scope : Scope} {own : List (PySem.Str × Nat)} {pos : Pos} {wi : TI} {g : TG} {tt : TT} {tk tv : TE} (hu : X.A.units < cLine) (hc : X.calm = true) (hN : X.N.Nodup) (hi : PI X tg iter wi) (ok : BlkOk X.N X.env.scope scope own)
    (hg : ∀ s H C cl fp, PG (X.blk s H scope (compEnvC scope cl C X.env) fp) tg g) (ht : ∀ s H C cl fp, PTs (X.blk s H scope (compEnvC scope cl C X.env) fp) ifs tt)
    (hk : ∀ s H C cl fp, PE (X.blk s H scope (compEnvC scope cl C X.env) fp) kx tk) (hv : ∀ s H C cl fp, PE (X.blk s H scope (compEnvC scope cl C X.env) fp) vx tv) (hs : ∀ x, foldedSetIterable iter X.env x = pure x := by intro _; rfl) :
    PE X (.DictComp kx vx [⟨tg, iter, ifs, 0⟩] scope pos) (tComp (oT X) wi g tt (tPut X.K X.prog X.w tk tv) (own.map (·.2))) := by
  refine ⟨fun pins s σ H Q I h => ?_⟩
  rw [arm_eval_DictComp]
  refine comp_core (o0 := oT X) (B := putB kx vx) (tb := tPut X.K X.prog X.w tk tv) (ob := { cls := .type "dict", data := .dict #[] }) rfl (fun _ _ _ => rfl) (fun _ _ _ _ _ => rfl) (fun _ _ _ _ => rfl) (fun _ _ _ => rfl)
    (fun R it acc env s a b => codeAny_compStart_dict a b) (fun s Q q => wpAny_newObj_type q) (fun H h hb => td_empty h hb) hc hN I hi ok hg ht (fun s H C cl fp D => pb_put (X := X.blk s H scope (compEnvC scope cl C X.env) fp) hu (hk s H C cl fp) (hv s H C cl fp)) hs h fun D C s' m H' I' q hn f => ⟨m, hn, fun h2 sb => ?_⟩
  obtain ⟨f0, f1, f2, f3, f4, f5⟩ := f
  exact ⟨.ref D, H', I'.turned (t' := s'.toks) (fun b o hb e => (sb.2 b hb).trans e) f0 f1 f3 f4 f5, rfl, q⟩
end
theorem sc_reached_states : FnScope ["shape", "span", "runs", "found", "states", "run", "moves", "state", "later"] ["shape", "span", "runs"] (defScope s_reached_states) := ⟨rfl, rfl, rfl, by decide +kernel, rfl, by decide +kernel, by decide +kernel⟩
def kyI (st : Stt) : List Int := [(st.1 : Int), (st.2 : Int)]
theorem kyI_inj {a b : Stt} (h : kyI a = kyI b) : a = b := by
  unfold kyI at h
  injection h with h1 h2
  injection h2 with h2 _
  exact Prod.ext (by omega) (by omega)
theorem prV_ky (st : Stt) : prV st = (kyI st).map V.int := rfl
/-- an entry of a state -/
def KE (K : PySem.W.Frag) (H : Hp) (e : Ent) (st : Stt) : Prop := e.1 = kyI st ∧ SqT K H e.2.1 (prV st)
theorem SqT.onE {K : PySem.W.Frag} {H : Hp} {D x : Addr} {φ : Heap → Prop} {o : HO} {xs : List V} (hD : H D = some (.ext φ)) (h : SqT K H x xs) : SqT K (upd H D o) x xs := by
  rcases h with (h | ⟨u, h⟩) | h
  · exact .inl (.inl (by rw [upd_ne (ne_of h hD (fun z => nomatch z))]; exact h))
  · exact .inl (.inr ⟨u, by rw [upd_ne (ne_of h hD (fun z => nomatch z))]; exact h⟩)
  · exact .inr h
theorem SqL.onE {K : PySem.W.Frag} {H : Hp} {D x : Addr} {φ : Heap → Prop} {o : HO} {xs : List V} (hD : H D = some (.ext φ)) (h : SqL K H x xs) : SqL K (upd H D o) x xs := by
  rcases h with (h | ⟨u, h⟩) | h
  · exact .inl (.inl (by rw [upd_ne (ne_of h hD (fun z => nomatch z))]; exact h))
  · exact .inl (.inr ⟨u, by rw [upd_ne (ne_of h hD (fun z => nomatch z))]; exact h⟩)
  · exact .inr h
theorem PL.onE {K : PySem.W.Frag} {H : Hp} {D : Addr} {φ : Heap → Prop} {o : HO} {xs : List V} {ts : List (List V)} (hD : H D = some (.ext φ)) (h : PL K H xs ts) : PL K (upd H D o) xs ts := Paired.mapP h fun _ _ ⟨a, e, q⟩ => ⟨a, e, SqT.onE hD q⟩
theorem ke_look {F : Ent → Stt → Prop} (hF : ∀ e st, F e st → e.1 = kyI st) {st : Stt} : ∀ {kvs : List Ent} {sts : List Stt}, Paired F kvs sts → ((lkp kvs (kyI st) = none ∧ st ∉ sts) ∨ ∃ e, lkp kvs (kyI st) = some e.2.2 ∧ F e st ∧ st ∈ sts)
  | _, _, .nil => .inl ⟨rfl, by simp⟩
  | _, _, @Paired.cons _ _ _ e y kvs sts h t => by
    have he := hF e y h
    rw [lkp_cons]
    by_cases c : e.1 = kyI st
    · rw [if_pos c]
      have ey : y = st := kyI_inj (he.symm.trans c)
      subst ey
      exact .inr ⟨e, rfl, h, List.mem_cons_self⟩
    · rw [if_neg c]
      rcases ke_look hF (st := st) t with ⟨h1, h2⟩ | ⟨e', h1, h2, h3⟩
      · refine .inl ⟨h1, fun m => ?_⟩
        rcases List.mem_cons.mp m with q | q
        · exact c (by rw [q]; exact he)
        · exact h2 q
      · exact .inr ⟨e', h1, h2, List.mem_cons_of_mem _ h3⟩
theorem ins_new {kvs : List Ent} {k : List Int} {b : Addr} {v : V} (h : lkp kvs k = none) : ins kvs k b v = kvs ++ [(k, b, v)] := by
  unfold ins
  rw [h]
  rfl
/-- a store grows the states as insK does -/
theorem ke_ins {K : PySem.W.Frag} {H : Hp} {kvs : List Ent} {sts : List Stt} {st : Stt} {b : Addr} {v : V} (h : Paired (KE K H) kvs sts) (hb : SqT K H b (prV st)) : Paired (KE K H) (ins kvs (kyI st) b v) (insK sts st) := by
  rcases ke_look (F := KE K H) (fun e st q => q.1) (st := st) h with ⟨h1, h2⟩ | ⟨e, h1, _, h3⟩
  · rw [ins_new h1]
    unfold insK
    rw [if_neg h2]
    exact Paired.snoc h ⟨rfl, hb⟩
  · unfold insK
    rw [if_pos h3]
    unfold ins
    rw [h1]
    show Paired _ (kvs.map _) _
    clear h1 h3
    induction h with
    | nil => exact .nil
    | @cons e y kvs sts q t ih =>
      refine .cons ?_ ih
      show KE K H (if e.1 = kyI st then (e.1, e.2.1, v) else e) y
      by_cases c : e.1 = kyI st
      · rw [if_pos c]
        exact q
      · rw [if_neg c]
        exact q
theorem ke_keys {K : PySem.W.Frag} {H : Hp} {F : Ent → Stt → Prop} (hF : ∀ e st, F e st → KE K H e st) {kvs : List Ent} {sts : List Stt} (h : Paired F kvs sts) : KeysAt K H kvs := by
  intro p hp
  obtain ⟨i, hi⟩ := List.mem_iff_getElem?.mp hp
  obtain ⟨st, _, q⟩ := Paired.getl h hi
  obtain ⟨q1, q2⟩ := hF _ _ q
  rw [q1, ← prV_ky]
  exact q2
/-- an entry of the moves -/
def MvE (K : PySem.W.Frag) (B H : Hp) (h : Sh) (s : Sn) (r : Run) (e : Ent) (st : Stt) : Prop := KE K H e st ∧ ∃ l xs, e.2.2 = .ref l ∧ B l = none ∧ SqL K H l xs ∧ PL K H xs ((mvs h s r st).map prV)
/-- the moves of one run -/
def MvAt (P : Program) (w : World) (K : PySem.W.Frag) (B H : Hp) (d : Addr) (h : Sh) (s : Sn) (r : Run) (sts : List Stt) : Prop := ∃ kvs, H d = some (TD P w d kvs) ∧ Paired (MvE K B H h s r) kvs sts
theorem KE.same {K : PySem.W.Frag} {H H' : Hp} {e : Ent} {st : Stt} (s : Same H H') (h : KE K H e st) : KE K H' e st := ⟨h.1, s.seqT h.2⟩
theorem MvE.same {K : PySem.W.Frag} {B H H' : Hp} {h : Sh} {sn : Sn} {r : Run} {e : Ent} {st : Stt} (s : Same H H') (x : MvE K B H h sn r e st) : MvE K B H' h sn r e st := by
  obtain ⟨h1, l, xs, e, b, h2, h3⟩ := x
  exact ⟨h1.same s, l, xs, e, b, s.seq h2, h3.same s⟩
theorem MvE.onE {K : PySem.W.Frag} {B H : Hp} {D : Addr} {φ : Heap → Prop} {o : HO} {h : Sh} {sn : Sn} {r : Run} {e : Ent} {st : Stt} (hD : H D = some (.ext φ)) (x : MvE K B H h sn r e st) : MvE K B (upd H D o) h sn r e st := by
  obtain ⟨h1, l, xs, e, b, h2, h3⟩ := x
  exact ⟨⟨h1.1, SqT.onE hD h1.2⟩, l, xs, e, b, SqL.onE hD h2, h3.onE hD⟩
theorem MvAt.same {P : Program} {w : World} {K : PySem.W.Frag} {B H H' : Hp} {d : Addr} {h : Sh} {sn : Sn} {r : Run} {sts : List Stt} (s : Same H H') (x : MvAt P w K B H d h sn r sts) : MvAt P w K B H' d h sn r sts := by
  obtain ⟨kvs, h1, h2⟩ := x
  exact ⟨kvs, s _ _ h1, Paired.mapP h2 fun _ _ q => q.same s⟩
theorem hid_mono {H H' : Hp} {l : Addr} (s : Same H H') : Same (hid H l) (hid H' l) := fun x o e => by
  unfold hid at e ⊢
  split at e
  · cases e
  · rename_i c
    rw [if_neg c]
    exact s x o e
theorem hid_upd {H : Hp} {l : Addr} {o : HO} : hid (upd H l o) l = hid H l := by
  funext x
  unfold hid upd
  split <;> rfl
theorem hid_upd_ne {H : Hp} {l D : Addr} {o : HO} (n : D ≠ l) : hid (upd H D o) l = upd (hid H l) D o := by
  funext x
  unfold hid upd
  by_cases c : x = l
  · subst c
    simp [n.symm]
  · by_cases e : x = D
    · subst e
      simp [c]
    · simp [c, e]
theorem keyRefs {K : PySem.W.Frag} {H : Hp} {kvs : List Ent} {sts : List Stt} (h : Paired (KE K H) kvs sts) : PL K H (kvs.map fun p => V.ref p.2.1) (sts.map prV) := by
  induction h with
  | nil => exact .nil
  | cons q t ih => exact .cons ⟨_, rfl, q.2⟩ ih
section
variable {P : Program} {w : World} {K : PySem.W.Frag} {mg : PySem.Str → Option Value} {base : Heap}
/-- the moves, run by run -/
abbrev MvL (P : Program) (w : World) (K : PySem.W.Frag) (B H : Hp) (h : Sh) (s : Sn) (rs : List Run) : List V → List Nat → Prop := Paired fun x j => ∃ d r, x = .ref d ∧ rs[j]? = some r ∧ MvAt P w K B H d h s r (stA h s rs j)
theorem MvL.same {B H H' : Hp} {h : Sh} {sn : Sn} {rs : List Run} {xs : List V} {js : List Nat} (s : Same H H') (x : MvL P w K B H h sn rs xs js) : MvL P w K B H' h sn rs xs js := Paired.mapP x fun _ _ ⟨d, r, e, e2, q⟩ => ⟨d, r, e, e2, q.same s⟩
theorem ok_reached_states (T : Tx K mg) : Good P w K mg base "reached_states" 5 ["shape", "span", "runs"] [] (fun vs H Q _ => ∃ (a sp rl : Addr) (h : Sh) (s : Sn) (rs : List Run) (rx : List V), vs = [.ref a, .ref sp, .ref rl] ∧ StArg K H a sp rl h s rs rx ∧ rs.length ≤ 1000 ∧
    ∀ H' l xs, Same H H' → H l = none → H' l = some (.lst xs) → MvL P w K H H' h s rs xs (List.range rs.length) → Q (.ref l) H') := by
  refine mkGood T.f_reached_states T.g_reached_states sc_reached_states (fun _ _ _ _ _ _ us hl => match us, hl with | [_, _, _], _ => rfl) (fun vs H Q E h => by obtain ⟨_, _, _, _, _, _, _, rfl, _⟩ := h; rfl) (fun cdv A outer s H vs Q E hr h => ?_)
  obtain ⟨a, sp, rl, h, s, rs, rx, rfl, ar, hlen, q⟩ := h
  refine ⟨_, (pss_cons (ps_par (i := 3) (j := 4) rfl sc_reached_states.nd rfl rfl (by decide) rfl rfl (pa_cons (pe_lst pa_nil) (pa_cons (pe_lst (pa_cons (pe_glob (v := .ref (ga K "AHEAD")) (by rfl) T.g_AHEAD rfl) pa_nil)) pa_nil)) (by rfl))
    (pss_cons (ps_for PassesOwn.never rfl (pi_list (pv 2)) (pg_name (i := 5) sc_reached_states.nd rfl (by first | exact .inl rfl | exact .inr rfl))
    (pss_cons (ps_set (i := 6) sc_reached_states.nd rfl (by first | exact .inl rfl | exact .inr rfl) (pe_td1 hr.units0 rfl sc_reached_states.nd (pi_list (pv 4)) (show BlkOk ["shape", "span", "runs", "found", "states", "run", "moves", "state", "later"] (defScope s_reached_states) _ [("state", 7)] from blkOk_by (by decide +kernel)) (fun _ _ _ _ _ => (pg_name (i := 7) sc_reached_states.nd rfl (by first | exact .inl rfl | exact .inr rfl))) (fun _ _ _ _ _ => pts_nil) (fun _ _ _ _ _ => (pv 7)) (fun _ _ _ _ _ => (pe_go (ok_moves_from T) hr (pa_cons (pv 0) (pa_cons (pv 1) (pa_cons (pv 5) (pa_cons (pv 7) pa_nil))))))))
    (pss_cons (ps_set (i := 4) sc_reached_states.nd rfl (by first | exact .inl rfl | exact .inr rfl) (pe_callTy (call_tlist rfl) (by rfl) T.n_list bt_list (pa_cons (pe_td2 (vs1 := [8]) hr.units0 rfl sc_reached_states.nd (pi_list (pv 4)) (show BlkOk ["shape", "span", "runs", "found", "states", "run", "moves", "state", "later"] (defScope s_reached_states) _ [("state", 7), ("later", 8)] from blkOk_by (by decide +kernel)) (by decide) (fun _ _ _ _ _ => (pg_name (i := 7) sc_reached_states.nd rfl (by first | exact .inl rfl | exact .inr rfl))) (fun _ _ _ _ _ => pts_nil) (fun _ _ _ _ _ => (piL (K := K) rfl (peTget (K := K) (P := P) (w := w) rfl rfl rfl (hu_of hr) (pv 6) (pv 7) (fun _ _ => rfl)))) (fun _ _ _ _ _ => (pg_name (i := 8) sc_reached_states.nd rfl (by first | exact .inl rfl | exact .inr rfl))) (fun _ _ _ _ _ => pts_nil) (fun _ _ _ _ _ => (pv 8)) (fun _ _ _ _ _ => pe_bl)) pa_nil)))
    (pss_one (ps_expr (pe_bm PySem.F.plainAttrs_list PySem.F.slot_list_append PySem.F.type_list_append mt_append (pv 3) (pa_cons (pv 6) pa_nil)))))))
    (pss_one (ps_ret (pv 3))))), ?_⟩
  have ok := ar.ok
  have sok := ar.sok
  have b := sh_small ok
  have lrx : rx.length = rs.length := by rw [Paired.length ar.hrx, List.length_map]
  refine ⟨by decide, fun lf nf => ⟨(by decide : 1 ≤ sizeLine), fun l0 n0 => ⟨_, _, rfl, ?_⟩⟩⟩
  have s1 := (Same.up (o := .lst []) nf).trans (Same.up (o := .lst [.ref (ga K "AHEAD")]) n0)
  have hf1 := (Same.up (o := .lst [.ref (ga K "AHEAD")]) n0) _ _ (upd_same (H := H) (a := lf) (o := .lst []))
  have nf0 : l0 ≠ lf := (ne_of_none (upd_same (H := H) (a := lf) (o := .lst [])) n0).symm
  refine ⟨_, rfl, rl, rfl, ⟨_, s1.seq ar.hrl⟩, ?_⟩
  refine for_list (xs := rx) (fun i σ H' => ∃ (sl : Addr) (sx fx : List V) (y5 y6 : Option V), σ = [some (.ref a), some (.ref sp), some (.ref rl), some (.ref lf), some (.ref sl), y5, y6, none, none] ∧ Same H H' ∧ H' lf = some (.lst fx) ∧ MvL P w K H (hid H' lf) h s rs fx (List.range i) ∧
      sl ≠ lf ∧ SqL K H' sl sx ∧ PL K H' sx ((stA h s rs i).map prV)) ⟨l0, _, [], none, none, rfl, s1, hf1, .nil, nf0, SqL.new, .cons ⟨_, rfl, T.t_AHEAD _⟩ .nil⟩ (fun i σ H' _ hx => ?_) (fun i x σ H' ex hx => ?_) (fun σ H' hx => ?_)
  · obtain ⟨_, _, _, _, _, _, sm, _⟩ := hx
    exact sm.seq ar.hrl
  · obtain ⟨sl, sx, fx, y5, y6, rfl, sm, hf, hfx, nsl, hsl, hsx⟩ := hx
    have ark := ar.same sm
    have hi : i < rs.length := by
      have := (List.getElem?_eq_some_iff.mp ex).1
      omega
    have er : rs[i]? = some rs[i] := List.getElem?_eq_getElem hi
    generalize rs[i] = r at er
    have rok := ar.rok.all r (List.mem_of_getElem? er)
    obtain ⟨rb, rfl, hrb⟩ : ∃ rb, x = .ref rb ∧ SqT K H' rb (runV r) := by
      obtain ⟨y, e2, rb, e3, hy⟩ := Paired.getl ark.hrx ex
      rw [List.getElem?_map, er] at e2
      have e4 : y = runV r := (Option.some.inj e2).symm
      rw [e4] at hy
      exact ⟨rb, e3, hy⟩
    have sok2 := fun {x : Stt} (hx : x ∈ stA h s rs i) => stA_ok ok sok ar.rok i hx
    have snd := stA_nd h s rs i
    have eN : stA h s rs (i + 1) = dd ((stA h s rs i).flatMap (mvs h s r)) := by
      show (match rs[i]? with
        | some r => dd ((stA h s rs i).flatMap (mvs h s r))
        | none => []) = _
      rw [er]
    generalize ests : stA h s rs i = sts at hsx sok2 snd eN
    have few : sts.length ≤ 100 := st_few ok snd fun x hx => sok2 hx
    have lsx : sx.length = sts.length := by rw [Paired.length hsx, List.length_map]
    -- the moves
    refine ⟨_, rfl, sl, rfl, ⟨_, hsl⟩, fun D nD => ?_⟩
    have nDf : D ≠ lf := (ne_of_none hf nD).symm
    unfold tWalk
    refine cw_list (xs := sx) (fun j H2 => Same H' H2 ∧ ∃ kvs, H2 D = some (TD P w D kvs) ∧ Paired (MvE K H (hid H2 lf) h s r) kvs (sts.take j)) ⟨Same.up nD, [], upd_same, .nil⟩ (fun j H2 _ hx => hx.1.seq hsl) (fun j x H2 ex2 hx => ?_) (fun H2 hx => ?_)
    · obtain ⟨sm2, kvs, hD, hkv⟩ := hx
      obtain ⟨y, e2, sb, rfl, hsb⟩ := Paired.getl (hsx.same sm2) ex2
      rw [List.getElem?_map] at e2
      obtain ⟨st, e3, rfl⟩ := Option.map_eq_some_iff.mp e2
      have stm : st ∈ sts := List.mem_of_getElem? e3
      have ark2 := ark.same sm2
      refine ⟨rfl, _, rfl, _, rfl, _, rfl, _, rfl, _, rfl, a, sp, rb, sb, h, s, r, st, rfl, ark2.hs, ok, ark2.hp, sok, sm2.seqT hrb, rok, hsb, Nat.le_of_lt (sok2 stm).1, fun H3 l xs s3 nl hl hxs => ?_⟩
      have hkv3 := Paired.mapP hkv fun _ _ q => MvE.same (hid_mono (l := lf) s3) q
      have hkv3' := Paired.mapP hkv3 fun _ _ q => MvE.same (hid_same H3 lf) q
      have hD3 := s3 _ _ hD
      have hf2 := sm2 _ _ hf
      have hf3 := s3 _ _ hf2
      have nlf : l ≠ lf := (ne_of_none hf2 nl).symm
      have hDh : (hid H3 lf) D = some (TD P w D kvs) := (hid_ne nDf).trans hD3
      have lk : lkp kvs (kyI st) = none := by
        rcases ke_look (fun e st q => q.1.1) (st := st) hkv3 with ⟨h1, _⟩ | ⟨e, _, _, h3⟩
        · exact h1
        · exfalso
          obtain ⟨j', h4, h5⟩ := List.mem_take_iff_getElem.mp h3
          have h6 := (List.getElem?_eq_some_iff.mp e3)
          obtain ⟨h7, h8⟩ := h6
          have h9 := (List.getElem_inj snd).mp (h5.trans h8.symm)
          omega
      have lkv : kvs.length ≤ 100 := by
        rw [Paired.length hkv, List.length_take]
        omega
      refine ⟨kvs, kyI st, sb, rfl, hD3, ke_keys (fun e st q => q.1) hkv3', s3.seqT hsb, small_len lkv, ?_⟩
      refine ⟨Same.onL nD (sm2.trans s3), _, upd_same, ?_⟩
      rw [ins_new lk, take_snoc e3]
      rw [hid_upd_ne nDf]
      refine Paired.snoc (Paired.mapP hkv3 fun _ _ q => MvE.onE hDh q) ⟨⟨rfl, SqT.onE hDh (seqT_hid (s3.seqT hsb) hf3)⟩, l, xs, rfl, (sm.trans sm2).free nl, SqL.onE hDh (seq_hid (.inl (.inl hl)) nlf), Paired.mapP hxs fun _ _ ⟨a, e, q⟩ => ⟨a, e, SqT.onE hDh (seqT_hid q hf3)⟩⟩
    · obtain ⟨sm2, kvs, hD, hkv⟩ := hx
      rw [lsx, List.take_length] at hkv
      have hkv0 := Paired.mapP hkv fun _ _ q => MvE.same (hid_same H2 lf) q
      -- the states that follow
      refine ⟨_, rfl, sl, rfl, ⟨_, sm2.seq hsl⟩, fun D2 nD2 => ?_⟩
      have nDD : D2 ≠ D := (ne_of_none hD nD2).symm
      unfold tWalk
      refine cw_list (xs := sx) (fun j H3 => Same H2 H3 ∧ ∃ kv2, H3 D2 = some (TD P w D2 kv2) ∧ Paired (KE K H3) kv2 (dd ((sts.take j).flatMap (mvs h s r)))) ⟨Same.up nD2, [], upd_same, .nil⟩ (fun j H3 _ hx => hx.1.seq (sm2.seq hsl)) (fun j x H3 ex2 hx => ?_) (fun H3 hx => ?_)
      · obtain ⟨sm3, kv2, hD2, hk2⟩ := hx
        obtain ⟨y, e2, sb, rfl, hsb⟩ := Paired.getl (hsx.same (sm2.trans sm3)) ex2
        rw [List.getElem?_map] at e2
        obtain ⟨st, e3, rfl⟩ := Option.map_eq_some_iff.mp e2
        have stm : st ∈ sts := List.mem_of_getElem? e3
        have hkv3 := Paired.mapP hkv0 fun _ _ q => MvE.same sm3 q
        obtain ⟨en, l1, l2, _⟩ : ∃ e, lkp kvs (kyI st) = some e.2.2 ∧ MvE K H H3 h s r e st ∧ st ∈ sts := by
          rcases ke_look (fun e st q => q.1.1) (st := st) hkv3 with ⟨_, h2⟩ | h3
          · exact absurd stm h2
          · exact h3
        obtain ⟨_, l, xs, el, _, hl, hxs⟩ := l2
        rw [el] at l1
        refine ⟨rfl, _, rfl, _, rfl, D, _, rfl, ⟨⟨kvs, sb, kyI st, rfl, .inl (sm3 _ _ hD), ke_keys (fun e st q => q.1) hkv3, hsb, l1.symm⟩⟩, l, rfl, ⟨_, hl⟩, ?_⟩
        refine cw_list (xs := xs) (fun jj H4 => Same (hid H3 D2) H4 ∧ ∃ kv3, H4 D2 = some (TD P w D2 kv3) ∧ Paired (KE K H4) kv3 (dd ((sts.take j).flatMap (mvs h s r) ++ (mvs h s r st).take jj))) ⟨hid_same _ _, kv2, hD2, by rw [List.take_zero, List.append_nil]; exact hk2⟩ (fun jj H4 _ hx => hx.1.seq ?_) (fun jj x H4 ex4 hx => ?_) (fun H4 hx => ?_)
        · rcases hl with (hl | ⟨o, hl⟩) | hl
          · exact .inl (.inl (by rw [hid_ne (ne_of hl hD2 (fun z => nomatch z))]; exact hl))
          · exact .inl (.inr ⟨o, by rw [hid_ne (ne_of hl hD2 (fun z => nomatch z))]; exact hl⟩)
          · exact .inr hl
        · obtain ⟨sm4, kv3, hD4, hk4⟩ := hx
          obtain ⟨y, e5, la, rfl, hla⟩ := Paired.getl hxs ex4
          rw [List.getElem?_map] at e5
          obtain ⟨lt, e6, rfl⟩ := Option.map_eq_some_iff.mp e5
          have hla4 : SqT K H4 la (prV lt) := sm4.seqT (by
            rcases hla with (hl | ⟨o, hl⟩) | hl
            · exact .inl (.inl (by rw [hid_ne (ne_of hl hD2 (fun z => nomatch z))]; exact hl))
            · exact .inl (.inr ⟨o, by rw [hid_ne (ne_of hl hD2 (fun z => nomatch z))]; exact hl⟩)
            · exact .inr hl)
          have lk3 : kv3.length ≤ 100 := by
            rw [Paired.length hk4]
            refine st_few ok (dd_nd _) fun x hx => ?_
            rcases List.mem_append.mp (dd_mem.mp hx) with m | m
            · obtain ⟨st', _, m2⟩ := List.mem_flatMap.mp m
              exact mvs_ok ok sok rok m2
            · exact mvs_ok ok sok rok (List.mem_of_mem_take m)
          refine ⟨rfl, _, rfl, kv3, kyI lt, la, rfl, hD4, ke_keys (fun _ _ q => q) hk4, hla4, small_len lk3, ?_⟩
          refine ⟨Same.onL hid_self sm4, _, upd_same, ?_⟩
          rw [take_snoc e6, ← List.append_assoc, dd_snoc]
          exact Paired.mapP (ke_ins hk4 hla4) fun _ _ q => ⟨q.1, SqT.onE hD4 q.2⟩
        · obtain ⟨sm4, kv3, hD4, hk4⟩ := hx
          have lm : xs.length = (mvs h s r st).length := by rw [Paired.length hxs, List.length_map]
          rw [lm, List.take_length] at hk4
          refine ⟨fun x o e => sm4 _ _ (by rw [hid_ne (ne_of_none e nD2)]; exact sm3 _ _ e), kv3, hD4, ?_⟩
          rw [fm_take e3]
          exact hk4
      · obtain ⟨sm3, kv2, hD2, hk2⟩ := hx
        rw [lsx, List.take_length, ← eN] at hk2
        refine ⟨D2, kv2, rfl, .inl hD2, fun nl nnl => ?_⟩
        have s4 : Same H3 (upd H3 nl (.lst (kv2.map fun p => V.ref p.2.1))) := Same.up nnl
        have hf4 := s4 _ _ (sm3 _ _ (sm2 _ _ hf))
        have nnf : nl ≠ lf := (ne_of_none (sm3 _ _ (sm2 _ _ hf)) nnl).symm
        refine ⟨_, rfl, .inl ⟨rfl, _, .inl (.inl hf4)⟩, _, rfl, lf, fx, _, rfl, rfl, hf4, small_len (n := 1000) (by rw [Paired.length hfx, List.length_range]; omega), ?_⟩
        have s5 := ((sm.trans sm2).trans sm3).trans s4
        refine ⟨nl, kv2.map fun p => V.ref p.2.1, _, _, _, rfl, Same.onL nf s5, upd_same, ?_, nnf, ?_, ?_⟩
        · rw [List.range_succ, hid_upd]
          have s6 : Same (hid H2 lf) (hid (upd H3 nl (.lst (kv2.map fun p => V.ref p.2.1))) lf) := hid_mono (sm3.trans s4)
          exact Paired.snoc (hfx.same ((hid_mono sm2).trans s6)) ⟨D, r, rfl, er, kvs, s6 _ _ ((hid_ne nDf).trans hD), ests ▸ Paired.mapP hkv fun _ _ q => q.same s6⟩
        · exact .inl (.inl (by rw [upd_ne nnf]; exact upd_same))
        · exact ((keyRefs hk2).same s4).onL hf4
  · obtain ⟨sl, sx, fx, y5, y6, rfl, sm, hf, hfx, nsl, hsl, hsx⟩ := hx
    rw [lrx] at hfx
    exact ⟨_, rfl, q _ lf fx sm nf hf (hfx.same (hid_same _ _))⟩
end
end K89

set_option maxRecDepth 100000
set_option maxHeartbeats 2000000
namespace K89
open PySem PySem.Spec PyProof.Rows L2
theorem sc_measured : FnScope ["moves", "behind", "found", "state", "places", "some", "ways", "few", "many", "later", "ended", "row"] ["moves", "behind"] (defScope s_measured) := ⟨rfl, rfl, rfl, by decide +kernel, rfl, by decide +kernel, by decide +kernel⟩
def msV (t : Ms) : List V := [.int (t.1 : Nat), .int (t.2.1 : Nat), .int (t.2.2 : Nat)]
def RowRel (K : PySem.W.Frag) (H : Hp) : Option V → Option Ms → Prop
  | none, none => True
  | some v, some t => ∃ c, v = .ref c ∧ SqT K H c (msV t)
  | _, _ => False
/-- a row: the measures by the states -/
def RowAt (P : Program) (w : World) (K : PySem.W.Frag) (H : Hp) (b : Addr) (f : Stt → Option Ms) : Prop := ∃ kvs, Rd H b (TD P w b kvs) ∧ KeysAt K H kvs ∧ ∀ st, RowRel K H (lkp kvs (kyI st)) (f st)
theorem RowRel.mapS {K : PySem.W.Frag} {H H' : Hp} {o : Option V} {t : Option Ms} (s : ∀ {c : Addr} {xs : List V}, SqT K H c xs → SqT K H' c xs) (h : RowRel K H o t) : RowRel K H' o t := by
  cases o <;> cases t
  · trivial
  · exact h
  · exact h
  · obtain ⟨c, e, q⟩ := h
    exact ⟨c, e, s q⟩
theorem RowRel.same {K : PySem.W.Frag} {H H' : Hp} {o : Option V} {t : Option Ms} (s : Same H H') (h : RowRel K H o t) : RowRel K H' o t := h.mapS fun q => s.seqT q
theorem rd_same {H H' : Hp} {a : Addr} {u : HO} (s : Same H H') (h : Rd H a u) : Rd H' a u := h.elim (fun q => .inl (s _ _ q)) fun ⟨o, q⟩ => .inr ⟨o, s _ _ q⟩
theorem keys_same {K : PySem.W.Frag} {H H' : Hp} {kvs : List Ent} (s : Same H H') (h : KeysAt K H kvs) : KeysAt K H' kvs := fun p hp => s.seqT (h p hp)
theorem RowAt.same {P : Program} {w : World} {K : PySem.W.Frag} {H H' : Hp} {b : Addr} {f : Stt → Option Ms} (s : Same H H') (h : RowAt P w K H b f) : RowAt P w K H' b f := by
  obtain ⟨kvs, h1, h2, h3⟩ := h
  exact ⟨kvs, rd_same s h1, keys_same s h2, fun st => (h3 st).same s⟩
theorem SqT.onF {K : PySem.W.Frag} {H : Hp} {D x : Addr} {φ : Heap → Prop} {od : Obj} {o : HO} {xs : List V} (hD : H D = some (.frz od (.ext φ))) (h : SqT K H x xs) : SqT K (upd H D o) x xs := by
  rcases h with (h | ⟨u, h⟩) | h
  · exact .inl (.inl (by rw [upd_ne (ne_of h hD (fun z => nomatch z))]; exact h))
  · exact .inl (.inr ⟨u, by rw [upd_ne (ne_of h hD (fun z => by injection z with _ z2; exact nomatch z2))]; exact h⟩)
  · exact .inr h
theorem SqL.onF {K : PySem.W.Frag} {H : Hp} {D x : Addr} {φ : Heap → Prop} {od : Obj} {o : HO} {xs : List V} (hD : H D = some (.frz od (.ext φ))) (h : SqL K H x xs) : SqL K (upd H D o) x xs := by
  rcases h with (h | ⟨u, h⟩) | h
  · exact .inl (.inl (by rw [upd_ne (ne_of h hD (fun z => nomatch z))]; exact h))
  · exact .inl (.inr ⟨u, by rw [upd_ne (ne_of h hD (fun z => by injection z with _ z2; exact nomatch z2))]; exact h⟩)
  · exact .inr h
/-- what is read stays read when a dict is locked -/
theorem rd_lock {H : Hp} {d b : Addr} {od : Obj} {φ : Heap → Prop} {u : HO} (hd : H d = some (.ext φ)) (h : Rd H b u) : Rd (upd H d (.frz od (.ext φ))) b u := by
  by_cases e : b = d
  · subst e
    rcases h with h | ⟨o, h⟩
    · rw [hd] at h
      cases h
      exact .inr ⟨od, upd_same⟩
    · rw [hd] at h
      cases h
  · rcases h with h | ⟨o, h⟩
    · exact .inl (by rw [upd_ne e]; exact h)
    · exact .inr ⟨o, by rw [upd_ne e]; exact h⟩
theorem lkp_snoc {kvs : List Ent} {k k' : List Int} {b : Addr} {v : V} : lkp (kvs ++ [(k, b, v)]) k' = match lkp kvs k' with
    | some x => some x
    | none => if k = k' then some v else none := by
  induction kvs with
  | nil =>
    rw [List.nil_append, lkp_cons]
    rfl
  | cons p r ih =>
    rw [List.cons_append, lkp_cons, lkp_cons, ih]
    by_cases e : p.1 = k'
    · rw [if_pos e, if_pos e]
    · rw [if_neg e, if_neg e]
/-- what lies behind the moves, in the heap -/
abbrev SoL (K : PySem.W.Frag) (H : Hp) : List V → List (Nat × Ms) → Prop := Paired fun x q => ∃ a c, x = .ref a ∧ SqT K H a [.int (q.1 : Nat), .ref c] ∧ SqT K H c (msV q.2)
theorem SoL.mapS {K : PySem.W.Frag} {H H' : Hp} {xs : List V} {so : List (Nat × Ms)} (s : ∀ {c : Addr} {xs : List V}, SqT K H c xs → SqT K H' c xs) (h : SoL K H xs so) : SoL K H' xs so := Paired.mapP h fun _ _ ⟨a, c, e, q1, q2⟩ => ⟨a, c, e, s q1, s q2⟩
def soD (so : List (Nat × Ms)) : List PyData := so.map fun q => .tuple [.int (q.1 : Nat), .tuple [.int (q.2.1 : Nat), .int (q.2.2.1 : Nat), .int (q.2.2.2 : Nat)]]
theorem SoL.dp {K : PySem.W.Frag} {H : Hp} : ∀ {xs : List V} {so : List (Nat × Ms)}, SoL K H xs so → DpAll K H xs (soD so)
  | _, _, .nil => .nil
  | _, _, .cons ⟨a, c, e, h1, h2⟩ t => by
    rw [e]
    exact .cons (.tup h1 (.cons (.int _) (.cons (.tup h2 (.cons (.int _) (.cons (.int _) (.cons (.int _) .nil)))) .nil))) (SoL.dp t)
theorem shp_so (so : List (Nat × Ms)) : Shp (.list (soD so)) 3 := Shp.list fun d hd => by
  obtain ⟨q, _, rfl⟩ := List.mem_map.mp hd
  refine Shp.tuple fun d hd => ?_
  rcases List.mem_cons.mp hd with rfl | hd
  · exact .int
  · rw [List.mem_singleton] at hd
    subst hd
    refine Shp.tuple fun d hd => ?_
    rcases List.mem_cons.mp hd with rfl | hd
    · exact .int
    · rcases List.mem_cons.mp hd with rfl | hd
      · exact .int
      · rw [List.mem_singleton] at hd
        subst hd
        exact .int
theorem eq_ahead {x : Stt} : PyData.eqv (.tuple [.int (x.1 : Nat), .int (x.2 : Nat)]) (.tuple [.int 0, .int 0]) = decide (x = (0, 0)) := by
  obtain ⟨a, b⟩ := x
  simp only [PyData.eqv, PyData.eqvAll]
  by_cases h1 : a = 0
  · by_cases h2 : b = 0
    · subst h1 h2
      rfl
    · rw [decide_eq_false (fun e => h2 (congrArg Prod.snd e))]
      have : (((b : Nat) : Int) == 0) = false := beq_eq_false_iff_ne.mpr (by omega)
      simp [this]
  · rw [decide_eq_false (fun e => h1 (congrArg Prod.fst e))]
    have : (((a : Nat) : Int) == 0) = false := beq_eq_false_iff_ne.mpr (by omega)
    simp [this]
theorem soF_snoc {f : Stt → Option Ms} {l : List Stt} {i : Nat} {x : Stt} (h : l[i]? = some x) : soF f (l.take (i + 1)) = soF f (l.take i) ++ (match f x with
    | some t => [(isAh x, t)]
    | none => []) := by
  unfold soF
  rw [take_snoc h, List.filterMap_append]
  congr 1
  cases e : f x <;> simp [e]
theorem soF_len (f : Stt → Option Ms) (l : List Stt) : (soF f l).length ≤ l.length := List.length_filterMap_le _ _
theorem sum_iv : ∀ l : List Nat, (l.map fun N : Nat => ((N : Nat) : Int)).sum = ((l.sum : Nat) : Int)
  | [] => rfl
  | x :: r => by simp [sum_iv r]
theorem ky_tuple (st : Stt) : ((kyI st).map PyData.int) = [.int (st.1 : Nat), .int (st.2 : Nat)] := rfl
section
variable {P : Program} {w : World} {K : PySem.W.Frag} {mg : PySem.Str → Option Value} {base : Heap}
theorem rowget {H : Hp} {b c : Addr} {f : Stt → Option Ms} {x : Stt} (h : RowAt P w K H b f) (hc : SqT K H c (prV x)) : ∃ r, TGet K P w H b (.ref c) r ∧ RowRel K H r (f x) := by
  obtain ⟨kvs, h1, h2, h3⟩ := h
  exact ⟨_, ⟨⟨kvs, c, kyI x, rfl, h1, h2, hc, rfl⟩⟩, h3 x⟩
theorem ok_measured (T : Tx K mg) : Good P w K mg base "measured" 1 ["moves", "behind"] [] (fun vs H Q _ => ∃ (B : Hp) (d b : Addr) (h : Sh) (s : Sn) (r : Run) (sts : List Stt) (f : Stt → Option Ms), vs = [.ref d, .ref b] ∧ MvAt P w K B H d h s r sts ∧ RowAt P w K H b f ∧ sts.Nodup ∧ sts.length ≤ 100 ∧ h.Ok ∧
    ∀ H' p, Same H H' → H p = none → RowAt P w K H' p (fun st => if st ∈ sts then comb h s r f st else none) → Q (.ref p) H') := by
  refine mkGood T.f_measured T.g_measured sc_measured (fun _ _ _ _ _ _ us hl => match us, hl with | [_, _], _ => rfl) (fun vs H Q E h => by obtain ⟨_, _, _, _, _, _, _, _, rfl, _⟩ := h; rfl) (fun cdv A outer s H vs Q E hr h => ?_)
  obtain ⟨BB, d, b, h, s, r, sts, f, rfl, hd, hb, snd, few, ok, q⟩ := h
  refine ⟨_, (pss_cons (ps_set (i := 2) sc_measured.nd rfl (by first | exact .inl rfl | exact .inr rfl) pe_tnew)
    (pss_cons (ps_lock (ps_for PassesOwn.never rfl (pi_pairs (pv 0)) (pg_tup rfl (pgs_cons (pg_name (i := 3) sc_measured.nd rfl (by first | exact .inl rfl | exact .inr rfl)) (pgs_cons (pg_name (i := 4) sc_measured.nd rfl (by first | exact .inl rfl | exact .inr rfl)) pgs_nil)))
    (pss_cons (ps_setLc (i := 5) rfl sc_measured.nd rfl rfl (sw_true (by rfl) (by rfl) (by rfl) (by rfl)) (pi_list (pv 4)) (show BlkOk ["moves", "behind", "found", "state", "places", "some", "ways", "few", "many", "later", "ended", "row"] (defScope s_measured) _ [("later", 9)] from blkOk_by (by decide +kernel)) (fun _ _ _ _ _ => (pg_name (i := 9) sc_measured.nd rfl (by first | exact .inl rfl | exact .inr rfl))) (fun _ _ _ _ _ => (pts_one (pt_cmp (pcTin (K := K) (P := P) (w := w) rfl rfl rfl (hu_of hr) (pv 9) (pv 1))))) (fun _ _ _ _ _ => (pe_tup (pa_cons (pe_callTy call_int1 (by rfl) T.n_int bt_int (pa_cons (pe_cmpR (opEqD (K := K) rfl hr.units) (pv 9) (pe_glob (v := .ref (ga K "AHEAD")) (by rfl) T.g_AHEAD rfl) (nomark _)) pa_nil)) (pa_cons (peTget (K := K) (P := P) (w := w) rfl rfl rfl (hu_of hr) (pv 1) (pv 9) (fun _ _ => rfl)) pa_nil)))))
    (pss_one (ps_if (pt_cmpR (op_neD hr.units) (pv 5) (pe_lst pa_nil) (nomark _))
    (pss_cons (ps_set (i := 6) sc_measured.nd rfl (by first | exact .inl rfl | exact .inr rfl) (pe_callB (cr_sum rfl) (by rfl) T.n_sum bt_sum (pa_cons (pe_lc rfl sc_measured.nd (pi_list (pv 5)) (show BlkOk ["moves", "behind", "found", "state", "places", "some", "ways", "few", "many", "later", "ended", "row"] (defScope s_measured) _ [("ended", 10), ("row", 11)] from blkOk_by (by decide +kernel)) (fun _ _ _ _ _ => (pgT (K := K) (n := 2) rfl rfl (pgs_cons (pg_name (i := 10) sc_measured.nd rfl (by first | exact .inl rfl | exact .inr rfl)) (pgs_cons (pg_name (i := 11) sc_measured.nd rfl (by first | exact .inl rfl | exact .inr rfl)) pgs_nil)))) (fun _ _ _ _ _ => pts_nil) (fun _ _ _ _ _ => (pe_ix (ixT (K := K) rfl) (pv 11) pe_int (fun _ _ => rfl)))) pa_nil)))
    (pss_cons (ps_par (i := 7) (j := 8) rfl sc_measured.nd rfl rfl (by decide) rfl rfl (pa_cons (pe_lc rfl sc_measured.nd (pi_list (pv 5)) (show BlkOk ["moves", "behind", "found", "state", "places", "some", "ways", "few", "many", "later", "ended", "row"] (defScope s_measured) _ [("ended", 10), ("row", 11)] from blkOk_by (by decide +kernel)) (fun _ _ _ _ _ => (pgT (K := K) (n := 2) rfl rfl (pgs_cons (pg_name (i := 10) sc_measured.nd rfl (by first | exact .inl rfl | exact .inr rfl)) (pgs_cons (pg_name (i := 11) sc_measured.nd rfl (by first | exact .inl rfl | exact .inr rfl)) pgs_nil)))) (fun _ _ _ _ _ => pts_nil) (fun _ _ _ _ _ => (pe_op op_add (pv 10) (pe_ix (ixT (K := K) rfl) (pv 11) pe_int (fun _ _ => rfl))))) (pa_cons (pe_lc rfl sc_measured.nd (pi_list (pv 5)) (show BlkOk ["moves", "behind", "found", "state", "places", "some", "ways", "few", "many", "later", "ended", "row"] (defScope s_measured) _ [("ended", 10), ("row", 11)] from blkOk_by (by decide +kernel)) (fun _ _ _ _ _ => (pgT (K := K) (n := 2) rfl rfl (pgs_cons (pg_name (i := 10) sc_measured.nd rfl (by first | exact .inl rfl | exact .inr rfl)) (pgs_cons (pg_name (i := 11) sc_measured.nd rfl (by first | exact .inl rfl | exact .inr rfl)) pgs_nil)))) (fun _ _ _ _ _ => pts_nil) (fun _ _ _ _ _ => (pe_op op_add (pv 10) (pe_ix (ixT (K := K) rfl) (pv 11) pe_int (fun _ _ => rfl))))) pa_nil)) (by rfl))
    (pss_one (ps_tput (hu_of hr) (pv 2) (pv 3) (pe_tup (pa_cons (pv 6) (pa_cons (pe_callB (cr_min rfl) (by rfl) T.n_min bt_min (pa_cons (pv 7) pa_nil)) (pa_cons (pe_callB (cr_max rfl) (by rfl) T.n_max bt_max (pa_cons (pv 8) pa_nil)) pa_nil)))) (by rfl))))) pss_nil)))))
    (pss_one (ps_ret (pv 2))))), ?_⟩
  obtain ⟨kvs, hd1, hkv⟩ := hd
  have lkv : kvs.length = sts.length := Paired.length hkv
  intro fd nfd
  have s1 : Same H (upd H fd (TD P w fd [])) := Same.up nfd
  have ndf : d ≠ fd := ne_of_none hd1 nfd
  refine ⟨d, TD P w d kvs, s1 _ _ hd1, trivial, fun od => ?_⟩
  have hd2 : (upd (upd H fd (TD P w fd [])) d (.frz od (TD P w d kvs))) d = some (.frz od (TD P w d kvs)) := upd_same
  have hf2 : (upd (upd H fd (TD P w fd [])) d (.frz od (TD P w d kvs))) fd = some (TD P w fd []) := by
    rw [upd_ne ndf.symm]
    exact upd_same
  have keepT : ∀ {c : Addr} {xs : List V}, SqT K H c xs → SqT K (upd (upd H fd (TD P w fd [])) d (.frz od (TD P w d kvs))) c xs := fun hx => SqT.onE (s1 _ _ hd1) (s1.seqT hx)
  have keepL : ∀ {c : Addr} {xs : List V}, SqL K H c xs → SqL K (upd (upd H fd (TD P w fd [])) d (.frz od (TD P w d kvs))) c xs := fun hx => SqL.onE (s1 _ _ hd1) (s1.seq hx)
  have hb2 : RowAt P w K (upd (upd H fd (TD P w fd [])) d (.frz od (TD P w d kvs))) b f := by
    obtain ⟨kb, h1, h2, h3⟩ := hb
    exact ⟨kb, rd_lock (s1 _ _ hd1) (rd_same s1 h1), fun p hp => keepT (h2 p hp), fun st => (h3 st).mapS keepT⟩
  have hkv2 : Paired (MvE K BB (upd (upd H fd (TD P w fd [])) d (.frz od (TD P w d kvs))) h s r) kvs sts := Paired.mapP hkv fun _ _ ⟨⟨q1, q2⟩, l, xs, e, nb, q3, q4⟩ => ⟨⟨q1, keepT q2⟩, l, xs, e, nb, keepL q3, Paired.mapP q4 fun _ _ ⟨a, e, z⟩ => ⟨a, e, keepT z⟩⟩
  have back : ∀ x o, x ≠ d → H x = some o → (upd (upd H fd (TD P w fd [])) d (.frz od (TD P w d kvs))) x = some o := fun x o nx e => by
    rw [upd_ne nx]
    exact s1 _ _ e
  show tFor _ _ _ _ _ (upd (upd H fd (TD P w fd [])) d (.frz od (TD P w d kvs)))
  generalize upd (upd H fd (TD P w fd [])) d (.frz od (TD P w d kvs)) = HL at hd2 hf2 hb2 hkv2 back ⊢
  clear keepT keepL
  -- all but the dict that grows
  have hidS : ∀ {c : Addr} {xs : List V}, SqT K HL c xs → SqT K (hid HL fd) c xs := fun {c xs} hx => by
    rcases hx with (hx | ⟨o, hx⟩) | hx
    · exact .inl (.inl (by rw [hid_ne (ne_of hx hf2 (fun z => nomatch z))]; exact hx))
    · exact .inl (.inr ⟨o, by rw [hid_ne (ne_of hx hf2 (fun z => nomatch z))]; exact hx⟩)
    · exact .inr hx
  have hidL : ∀ {c : Addr} {xs : List V}, SqL K HL c xs → SqL K (hid HL fd) c xs := fun {c xs} hx => by
    rcases hx with (hx | ⟨o, hx⟩) | hx
    · exact .inl (.inl (by rw [hid_ne (ne_of hx hf2 (fun z => nomatch z))]; exact hx))
    · exact .inl (.inr ⟨o, by rw [hid_ne (ne_of hx hf2 (fun z => nomatch z))]; exact hx⟩)
    · exact .inr hx
  have nbf : b ≠ fd := by
    obtain ⟨kb, h1, _⟩ := hb
    rcases h1 with h1 | ⟨o, h1⟩
    · exact ne_of_none h1 nfd
    · exact ne_of_none h1 nfd
  have hbB : RowAt P w K (hid HL fd) b f := by
    obtain ⟨kb, h1, h2, h3⟩ := hb2
    refine ⟨kb, ?_, fun p hp => hidS (h2 p hp), fun st => (h3 st).mapS hidS⟩
    rcases h1 with h1 | ⟨o, h1⟩
    · exact .inl ((hid_ne nbf).trans h1)
    · exact .inr ⟨o, (hid_ne nbf).trans h1⟩
  have hkvB : Paired (MvE K BB (hid HL fd) h s r) kvs sts := Paired.mapP hkv2 fun _ _ ⟨⟨q1, q2⟩, l, xs, e, nb, q3, q4⟩ => ⟨⟨q1, hidS q2⟩, l, xs, e, nb, hidL q3, Paired.mapP q4 fun _ _ ⟨a, e, z⟩ => ⟨a, e, hidS z⟩⟩
  have row0 : ∀ st, RowRel K HL (lkp [] (kyI st)) (if st ∈ sts.take 0 then comb h s r f st else none) := fun st => by
    rw [List.take_zero, if_neg (by simp)]
    trivial
  refine ⟨_, rfl, d, od, kvs, rfl, hd2, ?_⟩
  refine for_pairs (a := d) (kvs := kvs) (fun i σ H' => ∃ (y3 y4 y5 y6 y7 y8 : Option V) (kv2 : List Ent), σ = [some (.ref d), some (.ref b), some (.ref fd), y3, y4, y5, y6, y7, y8, none, none, none] ∧ Same (hid HL fd) H' ∧ H' fd = some (TD P w fd kv2) ∧ KeysAt K H' kv2 ∧ kv2.length ≤ i ∧
      ∀ st, RowRel K H' (lkp kv2 (kyI st)) (if st ∈ sts.take i then comb h s r f st else none)) ⟨none, none, none, none, none, none, [], rfl, hid_same _ _, hf2, (fun p hp => absurd hp (by simp)), Nat.le_refl _, (fun st => row0 st)⟩ (fun i σ H' _ hx => ?_) (fun i e σ H' T' ee nT hx => ?_) (fun σ H' hx => ?_)
  · obtain ⟨_, _, _, _, _, _, _, _, sm, _⟩ := hx
    exact sm _ _ ((hid_ne ndf).trans hd2)
  · obtain ⟨y3, y4, y5, y6, y7, y8, kv2, rfl, sm, hf, hk2, lk2, hrow⟩ := hx
    obtain ⟨st, est, mve⟩ := Paired.getl hkvB ee
    obtain ⟨ek, kb, kv⟩ := e
    obtain ⟨⟨q1, q2⟩, l, xs, q3, _, q4, q5⟩ := mve
    have q1 : ek = kyI st := q1
    have q3 : kv = .ref l := q3
    subst q1 q3
    have hi : i < sts.length := (List.getElem?_eq_some_iff.mp est).1
    have sT := Same.up (o := .tup [.ref kb, .ref l]) nT
    refine ⟨T', _, rfl, SqT.new, rfl, _, _, rfl, _, _, rfl, rfl, ?_⟩
    have smT := sm.trans sT
    have hfT := sT _ _ hf
    have hkT := keys_same sT hk2
    have hrT := fun st => (hrow st).same sT
    show tAsg _ _ _ _ (upd H' T' (.tup [.ref kb, .ref l]))
    generalize upd H' T' (.tup [.ref kb, .ref l]) = H1 at smT hfT hkT hrT
    clear sT hf hk2 hrow
    have lxs : xs.length = (mvs h s r st).length := by rw [Paired.length q5, List.length_map]
    have lmv := mvs_len ok s r st
    -- some
    refine ⟨_, rfl, l, rfl, ⟨xs, smT.seq q4⟩, fun D nD => ?_⟩
    have nDf : fd ≠ D := ne_of_none hfT nD
    refine cw_list (xs := xs) (fun j H2 => Same H1 H2 ∧ ∃ ys, H2 D = some (.lst ys) ∧ SoL K H2 ys (soF f ((mvs h s r st).take j))) ⟨Same.up nD, [], upd_same, .nil⟩ (fun j H2 _ hx => hx.1.seq (smT.seq q4)) (fun j x H2 ex2 hx => ?_) (fun H2 hx => ?_)
    · obtain ⟨sm2, ys, hD, hys⟩ := hx
      have s12 := smT.trans sm2
      obtain ⟨y, e2, la, rfl, hla⟩ := Paired.getl q5 ex2
      rw [List.getElem?_map] at e2
      obtain ⟨lt, e3, rfl⟩ := Option.map_eq_some_iff.mp e2
      have hla2 := s12.seqT hla
      obtain ⟨o, tg, rr⟩ := rowget (hbB.same s12) hla2
      refine ⟨rfl, _, rfl, _, rfl, b, o, rfl, tg, _, rfl, ?_⟩
      rw [soF_snoc e3]
      cases o with
      | none =>
        cases ef : f lt with
        | some t =>
          rw [ef] at rr
          exact rr.elim
        | none =>
          refine iteF ⟨sm2, ys, hD, ?_⟩
          rw [List.append_nil]
          exact hys
      | some v =>
        cases ef : f lt with
        | none =>
          rw [ef] at rr
          exact rr.elim
        | some t =>
          rw [ef] at rr
          obtain ⟨c, rfl, hc⟩ := rr
          refine iteT ?_
          refine ⟨_, rfl, .tuple [.int (lt.1 : Nat), .int (lt.2 : Nat)], .tuple [.int 0, .int 0], .tup hla2 (.cons (.int _) (.cons (.int _) .nil)), .tup (T.t_AHEAD _) (.cons (.int _) (.cons (.int _) .nil)), rfl, rfl, .inr ⟨_, rfl, _, rfl, _, rfl, b, _, rfl, tg, (by decide : 2 ≤ sizeLine), fun p np => ?_⟩⟩
          rw [eq_ahead]
          have e1 : (if decide (lt = (0, 0)) = true then (1 : Int) else 0) = ((isAh lt : Nat) : Int) := by
            unfold isAh
            by_cases c : lt = (0, 0)
            · rw [decide_eq_true c, if_pos rfl, if_pos c] <;> rfl
            · rw [decide_eq_false c, if_neg (by decide), if_neg c] <;> rfl
          rw [e1]
          have hD3 : (upd H2 p (.tup [.int (isAh lt : Nat), .ref c])) D = some (.lst ys) := (Same.up np) _ _ hD
          refine ⟨ys, hD3, small_len (n := 1000) (by
            rw [Paired.length hys]
            have := soF_len f ((mvs h s r st).take j)
            rw [List.length_take] at this
            omega), ?_⟩
          refine ⟨Same.onL nD (sm2.trans (Same.up np)), _, upd_same, ?_⟩
          refine Paired.snoc (SoL.mapS (fun q => SqT.onL hD3 ((Same.up np).seqT q)) hys) ⟨p, c, rfl, SqT.onL hD3 SqT.new, SqT.onL hD3 (hc.up np)⟩
    · obtain ⟨sm2, ys, hD, hys⟩ := hx
      rw [lxs, List.take_length] at hys
      have s12 := smT.trans sm2
      generalize eso : soF f (mvs h s r st) = so at hys
      have lso : so.length ≤ 1000 := by
        rw [← eso]
        exact Nat.le_trans (soF_len _ _) lmv
      have lys : ys.length = so.length := Paired.length hys
      have hf2' := sm2 _ _ hfT
      have hk2' := keys_same sm2 hkT
      have hr2' := fun st => (hrT st).same sm2
      have ecomb : comb h s r f st = msOf so := by
        unfold comb
        rw [eso]
      have hst' : st ∉ sts.take i := fun m => by
        obtain ⟨j', h4, h5⟩ := List.mem_take_iff_getElem.mp m
        obtain ⟨h7, h8⟩ := List.getElem?_eq_some_iff.mp est
        have h9 := (List.getElem_inj snd).mp (h5.trans h8.symm)
        omega
      have inStep : ∀ st', st' ∈ sts.take (i + 1) ↔ st' ∈ sts.take i ∨ st' = st := fun st' => by
        rw [take_snoc est, List.mem_append, List.mem_singleton]
      refine ⟨_, rfl, by decide, fun e0 ne0 => ne_nil (ds := soD so) (.lst (.inl (.inl ((Same.up ne0) _ _ hD))) (SoL.dp (hys.mapS fun q => (Same.up ne0).seqT q))) SqL.new (shp_so so) ⟨_, rfl, ?_⟩⟩
      have s3 := Same.up (o := .lst []) ne0
      cases so with
      | nil =>
        refine iteF ⟨_, _, _, _, _, _, kv2, rfl, s12.trans s3, s3 _ _ hf2', keys_same s3 hk2', by omega, fun st' => ?_⟩
        have z := (hr2' st').same s3
        by_cases c : st' = st
        · subst c
          rw [if_neg hst'] at z
          rw [if_pos ((inStep st').mpr (.inr rfl)), ecomb]
          exact z
        · by_cases c2 : st' ∈ sts.take i
          · rw [if_pos c2] at z
            rw [if_pos ((inStep st').mpr (.inl c2))]
            exact z
          · rw [if_neg c2] at z
            rw [if_neg (fun m => ((inStep st').mp m).elim c2 c)]
            exact z
      | cons so0 so1 =>
        refine iteT ?_
        have nso : so0 :: so1 ≠ [] := by simp
        generalize so0 :: so1 = so at hys lso lys ecomb nso
        have hD' := s3 _ _ hD
        have hys' := hys.mapS fun q => s3.seqT q
        have s13 := s12.trans s3
        have hf3 := s3 _ _ hf2'
        have hk3 := keys_same s3 hk2'
        have hr3 := fun st => (hr2' st).same s3
        generalize upd H2 e0 (.lst []) = H3 at hD' hys' s13 hf3 hk3 hr3
        clear hf2' hk2' hr2' s3
        -- ways
        refine ⟨_, rfl, D, rfl, ⟨ys, .inl (.inl hD')⟩, fun D1 nD1 => ?_⟩
        refine cw_list (xs := ys) (fun j H4 => Same H3 H4 ∧ H4 D1 = some (.lst (iv ((so.take j).map fun x => x.2.1)))) ⟨Same.up nD1, by rw [upd_same, List.take_zero] <;> rfl⟩ (fun j H4 _ hx => .inl (.inl (hx.1 _ _ hD'))) (fun j x H4 ex4 hx => ?_) (fun H4 hx => ?_)
        · obtain ⟨sm4, hD4⟩ := hx
          obtain ⟨q0, eq0, a, c, rfl, ha, hc⟩ := Paired.getl hys' ex4
          refine ⟨a, _, rfl, sm4.seqT ha, rfl, _, _, rfl, _, _, rfl, rfl, rfl, ?_⟩
          refine ⟨_, rfl, _, _, _, _, rfl, rfl, sm4.seqT hc, rfl, _, hD4, small_len (n := 1000) (by simp; omega), Same.onL nD1 sm4, ?_⟩
          rw [upd_same, take_snoc eq0, List.map_append]
          unfold iv
          rw [List.map_append]
          rfl
        · obtain ⟨sm4, hD4⟩ := hx
          rw [lys, List.take_length] at hD4
          refine ⟨D1, (so.map fun x => x.2.1).map fun N : Nat => ((N : Nat) : Int), rfl, .inl (.inl (by rw [hD4, List.map_map] <;> rfl)), ?_⟩
          rw [sum_iv]
          -- few
          have hD5 := sm4 _ _ hD'
          have hys5 := hys'.mapS fun q => sm4.seqT q
          refine ⟨_, rfl, D, rfl, ⟨ys, .inl (.inl hD5)⟩, fun D2 nD2 => ?_⟩
          refine cw_list (xs := ys) (fun j H5 => Same H4 H5 ∧ H5 D2 = some (.lst (iv ((so.take j).map fun x => x.1 + x.2.2.1)))) ⟨Same.up nD2, by rw [upd_same, List.take_zero] <;> rfl⟩ (fun j H5 _ hx => .inl (.inl (hx.1 _ _ hD5))) (fun j x H5 ex4 hx => ?_) (fun H5 hx => ?_)
          · obtain ⟨sm5, hD6⟩ := hx
            obtain ⟨q0, eq0, a, c, rfl, ha, hc⟩ := Paired.getl hys5 ex4
            refine ⟨a, _, rfl, sm5.seqT ha, rfl, _, _, rfl, _, _, rfl, rfl, rfl, ?_⟩
            refine ⟨_, rfl, _, rfl, _, _, _, _, rfl, rfl, sm5.seqT hc, rfl, _, _, rfl, rfl, _, hD6, small_len (n := 1000) (by simp; omega), Same.onL nD2 sm5, ?_⟩
            rw [upd_same, take_snoc eq0, List.map_append]
            unfold iv
            rw [List.map_append]
            rfl
          · obtain ⟨sm5, hD6⟩ := hx
            rw [lys, List.take_length] at hD6
            have hD7 := sm5 _ _ hD5
            have hys7 := hys5.mapS fun q => sm5.seqT q
            refine ⟨_, rfl, D, rfl, ⟨ys, .inl (.inl hD7)⟩, fun D3 nD3 => ?_⟩
            refine cw_list (xs := ys) (fun j H6 => Same H5 H6 ∧ H6 D3 = some (.lst (iv ((so.take j).map fun x => x.1 + x.2.2.2)))) ⟨Same.up nD3, by rw [upd_same, List.take_zero] <;> rfl⟩ (fun j H6 _ hx => .inl (.inl (hx.1 _ _ hD7))) (fun j x H6 ex4 hx => ?_) (fun H6 hx => ?_)
            · obtain ⟨sm6, hD8⟩ := hx
              obtain ⟨q0, eq0, a, c, rfl, ha, hc⟩ := Paired.getl hys7 ex4
              refine ⟨a, _, rfl, sm6.seqT ha, rfl, _, _, rfl, _, _, rfl, rfl, rfl, ?_⟩
              refine ⟨_, rfl, _, rfl, _, _, _, _, rfl, rfl, sm6.seqT hc, rfl, _, _, rfl, rfl, _, hD8, small_len (n := 1000) (by simp; omega), Same.onL nD3 sm6, ?_⟩
              rw [upd_same, take_snoc eq0, List.map_append]
              unfold iv
              rw [List.map_append]
              rfl
            · obtain ⟨sm6, hD8⟩ := hx
              rw [lys, List.take_length] at hD8
              refine ⟨_, _, rfl, ?_⟩
              have s46 := sm5.trans sm6
              have s36 := sm4.trans s46
              have mn := mnL_ok (l := so.map fun x => x.1 + x.2.2.1) (by simpa using nso)
              have mx := mxL_ok (l := so.map fun x => x.1 + x.2.2.2) (by simpa using nso)
              have pos : 0 < so.length := List.length_pos_iff.mpr nso
              refine ⟨_, rfl, _, rfl, D2, (so.map fun x => x.1 + x.2.2.1).map fun N : Nat => ((N : Nat) : Int), rfl, .inl (.inl (by rw [sm6 _ _ hD6, List.map_map] <;> rfl)), by simpa using pos, fun m hm hm2 => ?_⟩
              have em : m = ((mnL (so.map fun x => x.1 + x.2.2.1) : Nat) : Int) := by
                obtain ⟨N, hN, rfl⟩ := List.mem_map.mp hm
                have h1 := hm2 _ (List.mem_map.mpr ⟨_, mn.1, rfl⟩)
                have h2 := mn.2 N hN
                omega
              refine ⟨_, rfl, D3, (so.map fun x => x.1 + x.2.2.2).map fun N : Nat => ((N : Nat) : Int), rfl, .inl (.inl (by rw [hD8, List.map_map] <;> rfl)), by simpa using pos, fun m' hm' hm2' => ?_⟩
              have em' : m' = ((mxL (so.map fun x => x.1 + x.2.2.2) : Nat) : Int) := by
                obtain ⟨N, hN, rfl⟩ := List.mem_map.mp hm'
                have h1 := hm2' _ (List.mem_map.mpr ⟨_, mx.1, rfl⟩)
                have h2 := mx.2 N hN
                omega
              subst em em'
              refine ⟨(by decide : 3 ≤ sizeLine), fun p np => ?_⟩
              have sp := Same.up (o := .tup [.int (((so.map fun x => x.2.1).sum : Nat) : Int), .int ((mnL (so.map fun x => x.1 + x.2.2.1) : Nat) : Int), .int ((mxL (so.map fun x => x.1 + x.2.2.2) : Nat) : Int)]) np
              have s3p := s36.trans sp
              have hfp := s3p _ _ hf3
              have hkp := keys_same s3p hk3
              have hrp := fun st => (hr3 st).same s3p
              have hkb : SqT K _ kb (prV st) := s3p.seqT (s13.seqT q2)
              refine ⟨_, rfl, _, rfl, fd, kv2, kyI st, kb, rfl, rfl, hfp, hkp, hkb, small_len (n := 100) (by omega), ?_⟩
              have lk0 : lkp kv2 (kyI st) = none := by
                have z := hrp st
                rw [if_neg hst'] at z
                cases e : lkp kv2 (kyI st) with
                | none => rfl
                | some v =>
                  rw [e] at z
                  exact z.elim
              have hp : SqT K (upd H6 p (.tup [.int (((so.map fun x => x.2.1).sum : Nat) : Int), .int ((mnL (so.map fun x => x.1 + x.2.2.1) : Nat) : Int), .int ((mxL (so.map fun x => x.1 + x.2.2.2) : Nat) : Int)])) p (msV ((so.map fun x => x.2.1).sum, mnL (so.map fun x => x.1 + x.2.2.1), mxL (so.map fun x => x.1 + x.2.2.2))) := SqT.new
              refine ⟨_, _, _, _, _, _, ins kv2 (kyI st) kb (.ref p), rfl, Same.onL hid_self (s13.trans s3p), upd_same, ?_, ?_, fun st' => ?_⟩
              · rw [ins_new lk0]
                intro p' hp'
                rcases List.mem_append.mp hp' with m | m
                · exact SqT.onE hfp (hkp p' m)
                · rw [List.mem_singleton] at m
                  subst m
                  exact SqT.onE hfp hkb
              · exact Nat.le_trans (ins_len _ _ _ _) (by omega)
              · rw [ins_new lk0, lkp_snoc]
                have z := hrp st'
                by_cases c : st' = st
                · subst c
                  rw [lk0, if_pos ((inStep st').mpr (.inr rfl)), ecomb]
                  unfold msOf
                  rw [if_neg nso]
                  show RowRel K _ (if kyI st' = kyI st' then some (V.ref p) else none) _
                  rw [if_pos rfl]
                  exact ⟨p, rfl, SqT.onE hfp hp⟩
                · have nk : ¬ kyI st = kyI st' := fun e => c (kyI_inj e).symm
                  have e1 : (match lkp kv2 (kyI st') with
                      | some x => some x
                      | none => if kyI st = kyI st' then some (V.ref p) else none) = lkp kv2 (kyI st') := by
                    cases lkp kv2 (kyI st') with
                    | none => exact if_neg nk
                    | some v => rfl
                  rw [e1]
                  by_cases c2 : st' ∈ sts.take i
                  · rw [if_pos c2] at z
                    rw [if_pos ((inStep st').mpr (.inl c2))]
                    exact z.mapS fun q => SqT.onE hfp q
                  · rw [if_neg c2] at z
                    rw [if_neg (fun m => ((inStep st').mp m).elim c2 c)]
                    exact z.mapS fun q => SqT.onE hfp q
  · obtain ⟨y3, y4, y5, y6, y7, y8, kv2, rfl, sm, hf, hk2, lk2, hrow⟩ := hx
    have hdd := sm _ _ ((hid_ne ndf).trans hd2)
    rw [lkv, List.take_length] at hrow
    refine ⟨hdd, _, rfl, ?_⟩
    refine q _ fd (fun x o e => ?_) nfd ⟨kv2, .inl ?_, fun p hp => SqT.onF hdd (hk2 p hp), fun st => (hrow st).mapS fun z => SqT.onF hdd z⟩
    · by_cases c : x = d
      · subst c
        rw [upd_same, ← hd1, e]
      · rw [upd_ne c]
        refine sm _ _ ?_
        rw [hid_ne (ne_of_none e nfd)]
        exact back x o c e
    · rw [upd_ne ndf.symm]
      exact hf
end
end K89

set_option maxRecDepth 100000
set_option maxHeartbeats 2000000
namespace K89
open PySem PySem.Spec PyProof.Rows L2
theorem sc_Record_init : FnScope ["self", "shape", "span", "signal", "rows", "moves"] ["self", "shape", "span", "signal"] (defScope s_Record_init) := ⟨rfl, rfl, rfl, by decide +kernel, rfl, by decide +kernel, by decide +kernel⟩
theorem SqT.onX {K : PySem.W.Frag} {H : Hp} {D x : Addr} {u o : HO} {xs : List V} (hD : H D = some u) (h1 : ∀ xs, u ≠ .tup xs) (h2 : ∀ o v, u ≠ .frz o v) (h : SqT K H x xs) : SqT K (upd H D o) x xs := by
  rcases h with (h | ⟨v, h⟩) | h
  · exact .inl (.inl (by rw [upd_ne (ne_of h hD (fun z => h1 _ z.symm))]; exact h))
  · exact .inl (.inr ⟨v, by rw [upd_ne (ne_of h hD (fun z => h2 _ _ z.symm))]; exact h⟩)
  · exact .inr h
theorem SqL.onX {K : PySem.W.Frag} {H : Hp} {D x : Addr} {u o : HO} {xs : List V} (hD : H D = some u) (h1 : ∀ xs, u ≠ .lst xs) (h2 : ∀ o v, u ≠ .frz o v) (h : SqL K H x xs) : SqL K (upd H D o) x xs := by
  rcases h with (h | ⟨v, h⟩) | h
  · exact .inl (.inl (by rw [upd_ne (ne_of h hD (fun z => h1 _ z.symm))]; exact h))
  · exact .inl (.inr ⟨v, by rw [upd_ne (ne_of h hD (fun z => h2 _ _ z.symm))]; exact h⟩)
  · exact .inr h
theorem RowAt.onX {P : Program} {w : World} {K : PySem.W.Frag} {H : Hp} {D b : Addr} {u o : HO} {f : Stt → Option Ms} (hD : H D = some u) (h1 : ∀ xs, u ≠ .tup xs) (h2 : ∀ o v, u ≠ .frz o v) (h3 : ∀ φ, u ≠ .ext φ) (h : RowAt P w K H b f) : RowAt P w K (upd H D o) b f := by
  obtain ⟨kvs, r, k, q⟩ := h
  refine ⟨kvs, ?_, fun p hp => SqT.onX hD h1 h2 (k p hp), fun st => (q st).mapS fun z => SqT.onX hD h1 h2 z⟩
  rcases r with r | ⟨v, r⟩
  · exact .inl (by rw [upd_ne (ne_of r hD (fun z => h3 _ z.symm))]; exact r)
  · exact .inr ⟨v, by rw [upd_ne (ne_of r hD (fun z => h2 _ _ z.symm))]; exact r⟩
theorem StArg.onI {K : PySem.W.Frag} {H : Hp} {a sp rl : Addr} {h : Sh} {s : Sn} {rs : List Run} {rx : List V} {D C dx : Addr} {fs : List (PySem.Str × V)} {o : HO} (hD : H D = some (.ins C dx fs)) (x : StArg K H a sp rl h s rs rx) : StArg K (upd H D o) a sp rl h s rs rx :=
  ⟨SqT.onX hD (fun _ z => nomatch z) (fun _ _ z => nomatch z) x.hs, x.ok, SqT.onX hD (fun _ z => nomatch z) (fun _ _ z => nomatch z) x.hp, x.sok, SqL.onX hD (fun _ z => nomatch z) (fun _ _ z => nomatch z) x.hrl,
    Paired.mapP x.hrx fun _ _ ⟨a, e, q⟩ => ⟨a, e, SqT.onX hD (fun _ z => nomatch z) (fun _ _ z => nomatch z) q⟩, x.rok⟩
/-- the rows, by what is left behind them -/
abbrev RwL (P : Program) (w : World) (K : PySem.W.Frag) (H : Hp) (h : Sh) (s : Sn) (rs : List Run) : List V → List Nat → Prop := Paired fun x k => ∃ b, x = .ref b ∧ RowAt P w K H b (rowK h s rs k)
theorem RwL.same {P : Program} {w : World} {K : PySem.W.Frag} {H H' : Hp} {h : Sh} {sn : Sn} {rs : List Run} {xs : List V} {ks : List Nat} (s : Same H H') (x : RwL P w K H h sn rs xs ks) : RwL P w K H' h sn rs xs ks := Paired.mapP x fun _ _ ⟨b, e, q⟩ => ⟨b, e, q.same s⟩
theorem RwL.onX {P : Program} {w : World} {K : PySem.W.Frag} {H : Hp} {h : Sh} {sn : Sn} {rs : List Run} {xs : List V} {ks : List Nat} {D : Addr} {u o : HO} (hD : H D = some u) (h1 : ∀ xs, u ≠ .tup xs) (h2 : ∀ o v, u ≠ .frz o v) (h3 : ∀ φ, u ≠ .ext φ)
    (x : RwL P w K H h sn rs xs ks) : RwL P w K (upd H D o) h sn rs xs ks := Paired.mapP x fun _ _ ⟨b, e, q⟩ => ⟨b, e, q.onX hD h1 h2 h3⟩
theorem Paired.rev {α β : Type} {F : α → β → Prop} : ∀ {l : List α} {m : List β}, Paired F l m → Paired F l.reverse m.reverse
  | _, _, .nil => .nil
  | _, _, .cons r t => by
    rw [List.reverse_cons, List.reverse_cons]
    exact Paired.snoc (Paired.rev t) r
def fsR (a sp rl rw : Addr) : List (PySem.Str × V) := putF "kept_rows" (.ref rw) (putF "kept_runs" (.ref rl) (putF "kept_span" (.ref sp) (putF "kept_shape" (.ref a) [])))
theorem fs_shape (a sp rl rw : Addr) : (fsR a sp rl rw).lookup ("kept_shape" : PySem.Str) = some (.ref a) := by rfl
theorem fs_span (a sp rl rw : Addr) : (fsR a sp rl rw).lookup ("kept_span" : PySem.Str) = some (.ref sp) := by rfl
theorem fs_runs (a sp rl rw : Addr) : (fsR a sp rl rw).lookup ("kept_runs" : PySem.Str) = some (.ref rl) := by rfl
theorem fs_rows (a sp rl rw : Addr) : (fsR a sp rl rw).lookup ("kept_rows" : PySem.Str) = some (.ref rw) := by rfl
theorem fs_ways (a sp rl rw : Addr) : (fsR a sp rl rw).lookup ("ways" : PySem.Str) = none := by rfl
theorem fs_count (a sp rl rw : Addr) : (fsR a sp rl rw).lookup ("count" : PySem.Str) = none := by rfl
theorem fs_measures (a sp rl rw : Addr) : (fsR a sp rl rw).lookup ("measures" : PySem.Str) = none := by rfl
theorem fs_steps (a sp rl rw : Addr) : (fsR a sp rl rw).lookup ("steps" : PySem.Str) = none := by rfl
structure RecAt (P : Program) (w : World) (K : PySem.W.Frag) (H : Hp) (x : Addr) (h : Sh) (s : Sn) (rs : List Run) : Prop where
  ex : ∃ dx a sp rl rw rx rwx, H x = some (.ins (ga K "Record") dx (fsR a sp rl rw)) ∧ StArg K H a sp rl h s rs rx ∧ SqL K H rw rwx ∧ RwL P w K H h s rs rwx (List.range (rs.length + 1)).reverse ∧ rs.length ≤ 1000
theorem RecAt.same {P : Program} {w : World} {K : PySem.W.Frag} {H H' : Hp} {x : Addr} {h : Sh} {sn : Sn} {rs : List Run} (s : Same H H') (r : RecAt P w K H x h sn rs) : RecAt P w K H' x h sn rs := by
  obtain ⟨dx, a, sp, rl, rw, rx, rwx, e, ar, hr, hx, hn⟩ := r.ex
  exact ⟨⟨dx, a, sp, rl, rw, rx, rwx, s _ _ e, ar.same s, s.seq hr, hx.same s, hn⟩⟩
/-- the ways from a run on -/
def wyA (h : Sh) (s : Sn) (rs : List Run) (i : Nat) : Nat := ((rowK h s rs (rs.length - i) (0, 0)).getD (0, 0, 0)).1
structure StepsOk (h : Sh) (s : Sn) (rs : List Run) (i : Nat) (ps : List (Nat × Nat)) : Prop where
  ex : ∃ qs : List (Nat × Nat), qs.Perm (lvs h s (rs.drop i) 0 0 i) ∧ SrtN qs ∧ ps = qs.filter fun q => decide (0 < wyA h s rs q.2)
theorem lvs_ix {h : Sh} {s : Sn} : ∀ {rs : List Run} {p num ix : Nat} {q : Nat × Nat}, q ∈ lvs h s rs p num ix → ix < q.2 ∧ q.2 ≤ ix + rs.length
  | [], _, _, _, _, h => by cases h
  | r :: rs, p, num, ix, q, hq => by
    obtain ⟨many, _, m⟩ := List.mem_flatMap.mp hq
    rcases List.mem_append.mp m with m | m
    · split at m
      · split at m
        · rw [List.mem_singleton] at m
          rw [m, List.length_cons]
          exact ⟨Nat.lt_succ_self _, by show ix + 1 ≤ _; omega⟩
        · cases m
      · cases m
    · obtain ⟨more, _, m⟩ := List.mem_flatMap.mp m
      have := lvs_ix m
      rw [List.length_cons]
      omega
theorem fm_len {α β : Type} (f : α → List β) : ∀ l : List α, (l.flatMap f).length = (l.map fun x => (f x).length).sum
  | [] => rfl
  | x :: l => by
    rw [List.flatMap_cons, List.length_append, fm_len f l]
    simp only [List.map_cons, List.sum_cons]
theorem lvs_len {h : Sh} {s : Sn} : ∀ (rs : List Run) (p num ix : Nat), (lvs h s rs p num ix).length ≤ tsz h s rs p
  | [], _, _, _ => Nat.zero_le _
  | r :: rs, p, num, ix => by
    unfold lvs tsz
    rw [fm_len]
    refine Nat.le_trans (sum_le (g := fun many => 1 + ((inner h s (p + many) r.2).map fun more => tsz h s rs (p + many + more)).sum) fun many _ => ?_) (Nat.le_add_left _ _)
    rw [List.length_append, fm_len]
    refine Nat.add_le_add ?_ (sum_le fun more _ => lvs_len rs _ _ _)
    split
    · split
      · exact Nat.le_refl _
      · exact Nat.zero_le _
    · exact Nat.zero_le _
/-- a signal that a record can be made of -/
structure SigOk (s : Sn) (ch : List Int) : Prop where
  inc : Inc ch
  even : ch.length % 2 = 0
  len : ch.length ≤ 200
  runs : RunsOk s (rnOf ch)
section
variable {P : Program} {w : World} {K : PySem.W.Frag} {mg : PySem.Str → Option Value} {base : Heap}
theorem ok_Record_init (T : Tx K mg) : GoodM P w K mg base "__init__" 6 ["self", "shape", "span", "signal"] (fun vs H Q _ => ∃ (x a sp c dx : Addr) (h : Sh) (s : Sn) (ch : List Int), vs = [.ref x, .ref a, .ref sp, .ref c] ∧ H x = some (.ins (ga K "Record") dx []) ∧ SqT K H a h.vs ∧ h.Ok ∧ SqT K H sp s.vs ∧ s.Ok ∧
    SqL K H c (zv ch) ∧ SigOk s ch ∧ ∀ H', (∀ b o, b ≠ x → H b = some o → H' b = some o) → RecAt P w K H' x h s (rnOf ch) → Q .non H') := by
  refine mkGoodM T.f_Record_init sc_Record_init (fun _ _ _ _ _ _ us hl => match us, hl with | [_, _, _, _], _ => rfl) (fun vs H Q E h => by obtain ⟨_, _, _, _, _, _, _, _, rfl, _⟩ := h; rfl) (fun cdv A outer s H vs Q E hr h => ?_)
  obtain ⟨x, a, sp, c, dx, h, s, ch, rfl, hx, hs, ok, hp, sok, hc, sig, q⟩ := h
  refine ⟨_, (pss_cons (ps_asg (pe_tup (pa_cons (pv 1) (pa_cons (pv 2) pa_nil))) (pg_tup rfl (pgs_cons (pg_fld (pv 0)) (pgs_cons (pg_fld (pv 0)) pgs_nil))))
    (pss_cons (ps_fld (pv 0) (pe_ifExp (pt_cmpR op_eq (pe_op op_mod (pe_callB call_len_seq (by rfl) T.n_len bt_len (pa_cons (pv 3) pa_nil)) pe_int) pe_int (nomark _)) (pe_go (ok_runs_of T) hr (pa_cons (pv 3) pa_nil)) (pe_lst pa_nil)) (by rfl))
    (pss_cons (ps_set (i := 4) sc_Record_init.nd rfl (by first | exact .inl rfl | exact .inr rfl) (pe_lst (pa_cons (pe_ifExp (pt_cmpR op_eq (pe_op op_mod (pe_callB call_len_seq (by rfl) T.n_len bt_len (pa_cons (pv 3) pa_nil)) pe_int) pe_int (nomark _)) (pe_tdisp hr.units0 (pe_glob (v := .ref (ga K "AHEAD")) (by rfl) T.g_AHEAD rfl) (pe_tup (pa_cons pe_int (pa_cons pe_int (pa_cons pe_int pa_nil))))) pe_tnew) pa_nil)))
    (pss_cons (ps_for PassesOwn.never rfl (pi_list (pe_revL (pe_go (ok_reached_states T) hr (pa_cons (pv 1) (pa_cons (pv 2) (pa_cons (pe_fld (pv 0) (by rfl)) pa_nil)))))) (pg_name (i := 5) sc_Record_init.nd rfl (by first | exact .inl rfl | exact .inr rfl))
    (pss_one (ps_expr (pe_bm PySem.F.plainAttrs_list PySem.F.slot_list_append PySem.F.type_list_append mt_append (pv 4) (pa_cons (pe_go (ok_measured T) hr (pa_cons (pv 5) (pa_cons (pe_ix ix_list (pv 4) (pe_un un_neg pe_int) (fun _ _ => rfl)) pa_nil))) pa_nil)))))
    (pss_one (ps_fld (pv 0) (pe_revL (pv 4)) (by rfl))))))), ?_⟩
  have b := sh_small ok
  have lz : (zv ch).length = ch.length := List.length_map _
  -- what does not see the instance
  have inT : ∀ {H1 : Hp} {fs : List (PySem.Str × V)} {o : HO} {y : Addr} {ys : List V}, H1 x = some (.ins (ga K "Record") dx fs) → SqT K H1 y ys → SqT K (upd H1 x o) y ys := fun e z => SqT.onX e (fun _ z => nomatch z) (fun _ _ z => nomatch z) z
  have inL : ∀ {H1 : Hp} {fs : List (PySem.Str × V)} {o : HO} {y : Addr} {ys : List V}, H1 x = some (.ins (ga K "Record") dx fs) → SqL K H1 y ys → SqL K (upd H1 x o) y ys := fun e z => SqL.onX e (fun _ z => nomatch z) (fun _ _ z => nomatch z) z
  refine ⟨_, rfl, _, rfl, (by decide : 2 ≤ sizeLine), fun t nt => ⟨t, _, rfl, SqT.new, rfl, _, _, rfl, _, rfl, x, _, dx, [], rfl, (Same.up nt) _ _ hx, T.cl, T.a_kept_shape, by decide, _, _, rfl, _, rfl, x, _, dx, _, rfl, upd_same, T.cl, T.a_kept_span, (by decide : 1 < 1000), rfl, ?_⟩⟩
  have st := Same.up (o := .tup [.ref a, .ref sp]) nt
  have e1 := st _ _ hx
  have hs1 := inT (o := .ins (ga K "Record") dx (putF "kept_shape" (.ref a) [])) e1 (st.seqT hs)
  have hp1 := inT (o := .ins (ga K "Record") dx (putF "kept_shape" (.ref a) [])) e1 (st.seqT hp)
  have hc1 := inL (o := .ins (ga K "Record") dx (putF "kept_shape" (.ref a) [])) e1 (st.seq hc)
  have e2 : (upd (upd H t (.tup [.ref a, .ref sp])) x (.ins (ga K "Record") dx (putF "kept_shape" (.ref a) []))) x = some (.ins (ga K "Record") dx (putF "kept_shape" (.ref a) [])) := upd_same
  have hs2 := inT (o := .ins (ga K "Record") dx (putF "kept_span" (.ref sp) (putF "kept_shape" (.ref a) []))) e2 hs1
  have hp2 := inT (o := .ins (ga K "Record") dx (putF "kept_span" (.ref sp) (putF "kept_shape" (.ref a) []))) e2 hp1
  have hc2 := inL (o := .ins (ga K "Record") dx (putF "kept_span" (.ref sp) (putF "kept_shape" (.ref a) []))) e2 hc1
  have e3 : (upd (upd (upd H t (.tup [.ref a, .ref sp])) x (.ins (ga K "Record") dx (putF "kept_shape" (.ref a) []))) x (.ins (ga K "Record") dx (putF "kept_span" (.ref sp) (putF "kept_shape" (.ref a) [])))) x = some (.ins (ga K "Record") dx (putF "kept_span" (.ref sp) (putF "kept_shape" (.ref a) []))) := upd_same
  have k3 : ∀ b o, b ≠ x → H b = some o → (upd (upd (upd H t (.tup [.ref a, .ref sp])) x (.ins (ga K "Record") dx (putF "kept_shape" (.ref a) []))) x (.ins (ga K "Record") dx (putF "kept_span" (.ref sp) (putF "kept_shape" (.ref a) [])))) b = some o := fun b o nb e => by
    rw [upd_ne nb, upd_ne nb]
    exact st _ _ e
  show tSeq _ _ _ _ (upd (upd (upd H t (.tup [.ref a, .ref sp])) x (.ins (ga K "Record") dx (putF "kept_shape" (.ref a) []))) x (.ins (ga K "Record") dx (putF "kept_span" (.ref sp) (putF "kept_shape" (.ref a) []))))
  generalize upd (upd (upd H t (.tup [.ref a, .ref sp])) x (.ins (ga K "Record") dx (putF "kept_shape" (.ref a) []))) x (.ins (ga K "Record") dx (putF "kept_span" (.ref sp) (putF "kept_shape" (.ref a) []))) = H3 at hs2 hp2 hc2 e3 k3 ⊢
  clear hs1 hp1 hc1 e2 e1 st
  obtain ⟨n, hn⟩ : ∃ n, ch.length = 2 * n := ⟨ch.length / 2, by have := sig.even; omega⟩
  have ln := sig.len
  have lrs : (rnOf ch).length = n := by rw [rn_len]; omega
  have par : (((zv ch).length : Nat) : Int) % 2 = 0 := by rw [lz, hn]; omega
  -- the runs
  refine ⟨_, rfl, _, _, rfl, .inl hc2, _, _, rfl, rfl, (by decide : (0 : Int) < 2), rfl, _, rfl, ?_⟩
  refine ite2 (fun _ => ?_) (fun z => absurd (decide_eq_true (congrArg V.int par)) z)
  refine ⟨_, rfl, c, ch, n, rfl, hc2, sig.inc, hn, by omega, fun H4 rl rx s4 nrl hrl hrx => ⟨_, rfl, x, _, dx, _, rfl, s4 _ _ e3, T.cl, T.a_kept_runs, (by decide : 2 < 1000), ?_⟩⟩
  have ar4 : StArg K H4 a sp rl h s (rnOf ch) rx := ⟨s4.seqT hs2, ok, s4.seqT hp2, sok, .inl (.inl hrl), hrx, sig.runs⟩
  have ar5 := ar4.onI (o := .ins (ga K "Record") dx (putF "kept_runs" (.ref rl) (putF "kept_span" (.ref sp) (putF "kept_shape" (.ref a) [])))) (s4 _ _ e3)
  have hc5 := inL (o := .ins (ga K "Record") dx (putF "kept_runs" (.ref rl) (putF "kept_span" (.ref sp) (putF "kept_shape" (.ref a) [])))) (s4 _ _ e3) (s4.seq hc2)
  have e5 : (upd H4 x (.ins (ga K "Record") dx (putF "kept_runs" (.ref rl) (putF "kept_span" (.ref sp) (putF "kept_shape" (.ref a) []))))) x = some (.ins (ga K "Record") dx (putF "kept_runs" (.ref rl) (putF "kept_span" (.ref sp) (putF "kept_shape" (.ref a) [])))) := upd_same
  have k5 : ∀ b o, b ≠ x → H b = some o → (upd H4 x (.ins (ga K "Record") dx (putF "kept_runs" (.ref rl) (putF "kept_span" (.ref sp) (putF "kept_shape" (.ref a) []))))) b = some o := fun b o nb e => by
    rw [upd_ne nb]
    exact s4 _ _ (k3 _ _ nb e)
  show tSeq _ _ _ _ (upd H4 x (.ins (ga K "Record") dx (putF "kept_runs" (.ref rl) (putF "kept_span" (.ref sp) (putF "kept_shape" (.ref a) [])))))
  generalize upd H4 x (.ins (ga K "Record") dx (putF "kept_runs" (.ref rl) (putF "kept_span" (.ref sp) (putF "kept_shape" (.ref a) [])))) = H5 at ar5 hc5 e5 k5 ⊢
  clear ar4 hs2 hp2 hc2 e3 k3 hrl hrx s4 nrl
  generalize rnOf ch = rs at ar5 lrs q
  -- the last row
  refine ⟨_, rfl, _, _, rfl, .inl hc5, _, _, rfl, rfl, (by decide : (0 : Int) < 2), rfl, _, rfl, ?_⟩
  refine ite2 (fun _ => ?_) (fun z => absurd (decide_eq_true (congrArg V.int par)) z)
  refine (fun p np => ⟨(by decide : 3 ≤ sizeLine), fun t0 nt0 => ?_⟩)
  have sp0 := Same.up (o := TD P w p []) np
  have st0 := Same.up (o := .tup [.int 1, .int 0, .int 0]) nt0
  have hpd : (upd (upd H5 p (TD P w p [])) t0 (.tup [.int 1, .int 0, .int 0])) p = some (TD P w p []) := st0 _ _ upd_same
  refine ⟨ga K "AHEAD", [0, 0], rfl, T.t_AHEAD _, hpd, (by decide : 1 ≤ sizeLine), fun rw nrw => ?_⟩
  have s6 : Same H5 (upd (upd (upd H5 p (TD P w p [])) t0 (.tup [.int 1, .int 0, .int 0])) p (TD P w p (ins [] [0, 0] (ga K "AHEAD") (.ref t0)))) := Same.onL np (sp0.trans st0)
  have s7 := s6.trans (Same.up (o := .lst [.ref p]) nrw)
  have row0 : RowAt P w K (upd (upd (upd (upd H5 p (TD P w p [])) t0 (.tup [.int 1, .int 0, .int 0])) p (TD P w p (ins [] [0, 0] (ga K "AHEAD") (.ref t0)))) rw (.lst [.ref p])) p (rowK h s rs 0) := by
    refine ⟨_, .inl ((Same.up nrw) _ _ upd_same), fun p' hp' => ?_, fun st => ?_⟩
    · have e : p' = ([0, 0], ga K "AHEAD", V.ref t0) := by simpa [ins, lkp] using hp'
      rw [e]
      exact T.t_AHEAD _
    · show RowRel K _ (lkp (ins [] [0, 0] (ga K "AHEAD") (.ref t0)) (kyI st)) (fin0 st)
      have ek : ([0, 0] : List Int) = kyI (0, 0) := rfl
      rw [ek, ins_new rfl, lkp_snoc]
      show RowRel K _ (if kyI (0, 0) = kyI st then some (V.ref t0) else none) _
      unfold fin0
      by_cases c : st = (0, 0)
      · subst c
        rw [if_pos rfl, if_pos rfl]
        exact ⟨t0, rfl, (Same.up nrw).seqT (SqT.onE hpd SqT.new)⟩
      · rw [if_neg (fun e => c (kyI_inj e).symm), if_neg c]
        trivial
  have hrw7 : (upd (upd (upd (upd H5 p (TD P w p [])) t0 (.tup [.int 1, .int 0, .int 0])) p (TD P w p (ins [] [0, 0] (ga K "AHEAD") (.ref t0)))) rw (.lst [.ref p])) rw = some (.lst [.ref p]) := upd_same
  show tSeq _ _ _ _ (upd (upd (upd (upd H5 p (TD P w p [])) t0 (.tup [.int 1, .int 0, .int 0])) p (TD P w p (ins [] [0, 0] (ga K "AHEAD") (.ref t0)))) rw (.lst [.ref p]))
  have nrw5 : H5 rw = none := s6.free nrw
  have rowsB : RwL P w K (upd (upd (upd (upd H5 p (TD P w p [])) t0 (.tup [.int 1, .int 0, .int 0])) p (TD P w p (ins [] [0, 0] (ga K "AHEAD") (.ref t0)))) rw (.lst [.ref p])) h s rs [.ref p] (List.range 1) := .cons ⟨p, rfl, row0⟩ .nil
  generalize upd (upd (upd (upd H5 p (TD P w p [])) t0 (.tup [.int 1, .int 0, .int 0])) p (TD P w p (ins [] [0, 0] (ga K "AHEAD") (.ref t0)))) rw (.lst [.ref p]) = H7 at s7 row0 hrw7 rowsB ⊢
  clear hpd sp0 st0 s6 row0
  have ar7 := ar5.same s7
  have e7 := s7 _ _ e5
  -- the moves, from the last on
  refine ⟨_, rfl, _, rfl, _, rfl, x, _, dx, _, _, rfl, e7, T.cl, T.a_kept_runs, rfl, a, sp, rl, h, s, rs, rx, rfl, ar7, by omega, fun H8 ml mx s8 nml hml hmx => ?_⟩
  refine ⟨ml, mx, rfl, .inl (.inl hml), fun rv nrv => ?_⟩
  have s9 := s8.trans (Same.up (o := .lst mx.reverse) nrv)
  have hrv : (upd H8 rv (.lst mx.reverse)) rv = some (.lst mx.reverse) := upd_same
  have hmx9 := (hmx.same (Same.up (o := .lst mx.reverse) nrv))
  have nrvw : rv ≠ rw := (ne_of_none (s8 _ _ hrw7) nrv).symm
  have e9 := s9 _ _ e7
  have hrw9 := s9 _ _ hrw7
  have rows9 := rowsB.same s9
  have s59 := s7.trans s9
  have ar9 := ar7.same s9
  refine ⟨rv, rfl, ⟨_, .inl (.inl hrv)⟩, ?_⟩
  generalize upd H8 rv (.lst mx.reverse) = H9 at s9 hrv hmx9 e9 hrw9 rows9 s59 ar9 ⊢
  have lmx : mx.length = n := by rw [Paired.length hmx, List.length_range, lrs]
  -- the base: all but the list of rows
  have B5 : Same H5 (hid H9 rw) := same_hid nrw5 s59
  have hrvB : SqL K (hid H9 rw) rv mx.reverse := seq_hid (.inl (.inl hrv)) nrvw
  have hmxB : MvL P w K H7 (hid H9 rw) h s rs mx (List.range n) := by
    rw [← lrs]
    refine Paired.mapP hmx9 fun _ _ ⟨d, r, e, e2, kvs, h1, h2⟩ => ⟨d, r, e, e2, kvs, (hid_ne (ne_of h1 hrw9 (fun z => nomatch z))).trans h1, Paired.mapP h2 fun _ _ ⟨⟨q1, q2⟩, l, xs, e, nb, q3, q4⟩ => ?_⟩
    exact ⟨⟨q1, seqT_hid q2 hrw9⟩, l, xs, e, nb, seq_hid q3 (ne_of_none hrw7 nb).symm, Paired.mapP q4 fun _ _ ⟨a, e, z⟩ => ⟨a, e, seqT_hid z hrw9⟩⟩
  refine for_list (xs := mx.reverse) (fun i σ H' => ∃ (xs : List V) (y5 : Option V), σ = [some (.ref x), some (.ref a), some (.ref sp), some (.ref c), some (.ref rw), y5] ∧ Same (hid H9 rw) H' ∧ H' rw = some (.lst xs) ∧ RwL P w K H' h s rs xs (List.range (i + 1))) ⟨_, none, rfl, hid_same _ _, hrw9, rows9⟩ (fun i σ H' _ hx => ?_) (fun i m σ H' em hx => ?_) (fun σ H' hx => ?_)
  · obtain ⟨_, _, _, sm, _⟩ := hx
    exact sm.seq hrvB
  · obtain ⟨xs, y5, rfl, sm, hrw, hxs⟩ := hx
    have hmv := hmxB.same sm
    have hi : i < n := by
      have := (List.getElem?_eq_some_iff.mp em).1
      rw [List.length_reverse] at this
      omega
    have em2 : mx[n - 1 - i]? = some m := by
      rw [← em, List.getElem?_reverse (by omega), lmx]
    obtain ⟨j, ej, d, r, rfl, er, hd⟩ := Paired.getl hmv em2
    have ej2 : j = n - 1 - i := by
      rw [List.getElem?_range (by omega)] at ej
      exact (Option.some.inj ej).symm
    subst ej2
    have lxs : xs.length = i + 1 := by rw [Paired.length hxs, List.length_range]
    obtain ⟨xs0, y, rfl⟩ : ∃ xs0 y, xs = xs0 ++ [y] := by
      rcases List.eq_nil_or_concat xs with e | ⟨l, y, e⟩
      · rw [e] at lxs
        cases lxs
      · exact ⟨l, y, by rw [e, List.concat_eq_append]⟩
    have eL : (xs0 ++ [y])[i]? = some y := by
      rw [List.length_append, List.length_singleton] at lxs
      rw [List.getElem?_append_right (by omega), show i - xs0.length = 0 by omega] <;> rfl
    obtain ⟨k, ek, bb, rfl, hbb⟩ := Paired.getl hxs eL
    have ek2 : k = i := by
      rw [List.getElem?_range (by omega)] at ek
      exact (Option.some.inj ek).symm
    subst ek2
    refine ⟨_, rfl, .inl ⟨rfl, _, .inl (.inl hrw)⟩, _, rfl, _, rfl, _, rfl, rw, _, _, _, rfl, rfl, .inl (.inl hrw), atI_last _ _, H7, d, bb, h, s, r, stA h s rs (n - 1 - k), rowK h s rs k, rfl, hd, hbb, stA_nd _ _ _ _, st_few ok (stA_nd _ _ _ _) (fun x hx => stA_ok ok sok ar5.rok _ hx), ok, fun H10 p s10 np hp10 => ?_⟩
    have hrw10 := s10 _ _ hrw
    refine ⟨rw, _, _, rfl, rfl, hrw10, small_len (n := 1000) (by omega), ?_⟩
    have nt : ∀ xs', HO.lst (xs0 ++ [V.ref bb]) ≠ .tup xs' := fun _ z => nomatch z
    have nf : ∀ o v, HO.lst (xs0 ++ [V.ref bb]) ≠ .frz o v := fun _ _ z => nomatch z
    have nx : ∀ φ, HO.lst (xs0 ++ [V.ref bb]) ≠ .ext φ := fun _ z => nomatch z
    refine ⟨_, _, rfl, Same.onL hid_self (sm.trans s10), upd_same, ?_⟩
    rw [List.range_succ]
    refine Paired.snoc (RwL.onX hrw10 nt nf nx (hxs.same s10)) ⟨p, rfl, RowAt.onX hrw10 nt nf nx ?_⟩
    have ef : rowK h s rs (k + 1) = fun st => if st ∈ stA h s rs (n - 1 - k) then comb h s r (rowK h s rs k) st else none := by
      funext st
      have en : rs.length - (k + 1) = n - 1 - k := by omega
      unfold rowK
      rw [en, er]
    rw [ef]
    exact hp10
  · obtain ⟨xs, y5, rfl, sm, hrw, hxs⟩ := hx
    have lz2 : mx.reverse.length = n := by rw [List.length_reverse, lmx]
    rw [lz2] at hxs
    refine ⟨_, rfl, rw, xs, rfl, .inl (.inl hrw), fun rr nrr => ?_⟩
    have s11 := Same.up (o := .lst xs.reverse) nrr
    have nxrw : x ≠ rw := ne_of_none e5 nrw5
    have ex11 := s11 _ _ (sm _ _ ((hid_ne nxrw).trans e9))
    refine ⟨_, rfl, x, _, dx, _, rfl, ex11, T.cl, T.a_kept_rows, (by decide : 3 < 1000), ?_⟩
    have nt : ∀ xs', HO.ins (ga K "Record") dx (putF "kept_runs" (V.ref rl) (putF "kept_span" (V.ref sp) (putF "kept_shape" (V.ref a) []))) ≠ .tup xs' := fun _ z => nomatch z
    have nl : ∀ xs', HO.ins (ga K "Record") dx (putF "kept_runs" (V.ref rl) (putF "kept_span" (V.ref sp) (putF "kept_shape" (V.ref a) []))) ≠ .lst xs' := fun _ z => nomatch z
    have nf : ∀ o v, HO.ins (ga K "Record") dx (putF "kept_runs" (V.ref rl) (putF "kept_span" (V.ref sp) (putF "kept_shape" (V.ref a) []))) ≠ .frz o v := fun _ _ z => nomatch z
    have nx : ∀ φ, HO.ins (ga K "Record") dx (putF "kept_runs" (V.ref rl) (putF "kept_span" (V.ref sp) (putF "kept_shape" (V.ref a) []))) ≠ .ext φ := fun _ z => nomatch z
    refine q _ (fun b o nb e => ?_) ⟨⟨dx, a, sp, rl, rr, rx, xs.reverse, upd_same, ?_, ?_, ?_, by omega⟩⟩
    · rw [upd_ne nb]
      refine s11 _ _ (sm _ _ ?_)
      have e5' := k5 b o nb e
      rw [hid_ne (ne_of_none e5' nrw5)]
      exact s59 _ _ e5'
    · exact ((ar5.same B5).same (sm.trans s11)).onI ex11
    · exact SqL.onX ex11 nl nf SqL.new
    · rw [lrs]
      exact RwL.onX ex11 nt nf nx (Paired.rev (hxs.same s11))
end
end K89

set_option maxRecDepth 100000
set_option maxHeartbeats 2000000
namespace K89
open PySem PySem.Spec PyProof.Rows L2
theorem sc_Record_ways : FnScope ["self", "run"] ["self", "run"] (defScope s_Record_ways) := ⟨rfl, rfl, rfl, by decide +kernel, rfl, by decide +kernel, by decide +kernel⟩
theorem sc_Record_count : FnScope ["self"] ["self"] (defScope s_Record_count) := ⟨rfl, rfl, rfl, by decide +kernel, rfl, by decide +kernel, by decide +kernel⟩
theorem sc_Record_measures : FnScope ["self"] ["self"] (defScope s_Record_measures) := ⟨rfl, rfl, rfl, by decide +kernel, rfl, by decide +kernel, by decide +kernel⟩
theorem sc_Record_steps : FnScope ["self", "run", "steps", "step"] ["self", "run"] (defScope s_Record_steps) := ⟨rfl, rfl, rfl, by decide +kernel, rfl, by decide +kernel, by decide +kernel⟩
theorem sc_require_recorded : FnScope ["shape", "low", "high", "signal"] ["shape", "low", "high", "signal"] (defScope s_require_recorded) := ⟨rfl, rfl, rfl, by decide +kernel, rfl, by decide +kernel, by decide +kernel⟩
theorem sc_require_record : FnScope ["shape", "low", "high", "signal"] ["shape", "low", "high", "signal"] (defScope s_require_record) := ⟨rfl, rfl, rfl, by decide +kernel, rfl, by decide +kernel, by decide +kernel⟩
theorem sc_require_some : FnScope ["shape", "low", "high", "signal", "record"] ["shape", "low", "high", "signal"] (defScope s_require_some) := ⟨rfl, rfl, rfl, by decide +kernel, rfl, by decide +kernel, by decide +kernel⟩
theorem sc_is_possible : FnScope ["shape", "low", "high", "signal"] ["shape", "low", "high", "signal"] (defScope s_is_possible) := ⟨rfl, rfl, rfl, by decide +kernel, rfl, by decide +kernel, by decide +kernel⟩
theorem sc_count_texts : FnScope ["shape", "low", "high", "signal"] ["shape", "low", "high", "signal"] (defScope s_count_texts) := ⟨rfl, rfl, rfl, by decide +kernel, rfl, by decide +kernel, by decide +kernel⟩
theorem sc_fewest_numbers : FnScope ["shape", "low", "high", "signal"] ["shape", "low", "high", "signal"] (defScope s_fewest_numbers) := ⟨rfl, rfl, rfl, by decide +kernel, rfl, by decide +kernel, by decide +kernel⟩
theorem sc_most_numbers : FnScope ["shape", "low", "high", "signal"] ["shape", "low", "high", "signal"] (defScope s_most_numbers) := ⟨rfl, rfl, rfl, by decide +kernel, rfl, by decide +kernel, by decide +kernel⟩
def meA (h : Sh) (s : Sn) (rs : List Run) : Ms := (rowK h s rs rs.length (0, 0)).getD (0, 0, 0)
theorem msV_get {t : Ms} : (msV t)[0]? = some (.int (t.1 : Nat)) := rfl
section
variable {P : Program} {w : World} {K : PySem.W.Frag} {mg : PySem.Str → Option Value} {base : Heap}
/-- the row at i: a dict, its entry for the state ahead of a frame -/
theorem rec_row {H : Hp} {h : Sh} {s : Sn} {rs : List Run} {rwx : List V} {i : Nat} (hx : RwL P w K H h s rs rwx (List.range (rs.length + 1)).reverse) (hi : i ≤ rs.length) : ∃ b, rwx[i]? = some (.ref b) ∧ RowAt P w K H b (rowK h s rs (rs.length - i)) := by
  have lx : rwx.length = rs.length + 1 := by rw [Paired.length hx, List.length_reverse, List.length_range]
  have e1 : rwx[i]? = some rwx[i] := List.getElem?_eq_getElem (by omega)
  obtain ⟨k, ek, b, e2, hb⟩ := Paired.getl hx e1
  rw [List.getElem?_reverse (by rw [List.length_range]; omega), List.length_range, List.getElem?_range (by omega)] at ek
  have e3 : rs.length - i = k := by
    have := Option.some.inj ek
    omega
  rw [e3]
  exact ⟨b, by rw [e1, e2], hb⟩
theorem row_ahead (T : Tx K mg) {H : Hp} {b : Addr} {f : Stt → Option Ms} (h : RowAt P w K H b f) : ∃ r c, TGet K P w H b (.ref (ga K "AHEAD")) r ∧ r.getD (.ref (ga K "NOTHING")) = .ref c ∧ SqT K H c (msV ((f (0, 0)).getD (0, 0, 0))) := by
  obtain ⟨r, tg, rr⟩ := rowget (x := (0, 0)) h (T.t_AHEAD H)
  cases r with
  | none =>
    cases ef : f (0, 0) with
    | some t =>
      rw [ef] at rr
      exact rr.elim
    | none => exact ⟨none, _, tg, rfl, T.t_NOTHING H⟩
  | some v =>
    cases ef : f (0, 0) with
    | none =>
      rw [ef] at rr
      exact rr.elim
    | some t =>
      rw [ef] at rr
      obtain ⟨c, rfl, hc⟩ := rr
      exact ⟨_, c, tg, rfl, hc⟩
theorem ok_Record_ways (T : Tx K mg) : GoodM P w K mg base "ways" 1 ["self", "run"] (fun vs H Q _ => ∃ (x : Addr) (h : Sh) (s : Sn) (rs : List Run) (i : Nat), vs = [.ref x, .int (i : Nat)] ∧ RecAt P w K H x h s rs ∧ i ≤ rs.length ∧ Q (.int (wyA h s rs i : Nat)) H) := by
  refine mkGoodM T.f_Record_ways sc_Record_ways (fun _ _ _ _ _ _ us hl => match us, hl with | [_, _], _ => rfl) (fun vs H Q E h => by obtain ⟨_, _, _, _, _, rfl, _⟩ := h; rfl) (fun cdv A outer s H vs Q E hr h => ?_)
  obtain ⟨x, h, s, rs, i, rfl, hrec, hi, q⟩ := h
  obtain ⟨dx, a, sp, rl, rw, rx, rwx, e, ar, hrw, hx, hn⟩ := hrec.ex
  refine ⟨_, (pss_one (ps_ret (pe_ix ix_tup (pe_tget2 (hu_of hr) (pe_ix ix_list (pe_fld (pv 0) (by rfl)) (pv 1) (fun _ _ => rfl)) (pe_glob (v := .ref (ga K "AHEAD")) (by rfl) T.g_AHEAD rfl) (pe_glob (v := .ref (ga K "NOTHING")) (by rfl) T.g_NOTHING rfl) ⟨rfl, rfl, rfl, rfl⟩) pe_int (fun _ _ => rfl)))), ?_⟩
  obtain ⟨b, eb, hb⟩ := rec_row hx hi
  obtain ⟨r, c, tg, ec, hc⟩ := row_ahead T hb
  obtain ⟨kvs, h1, h2, _⟩ := hb
  refine ⟨_, rfl, x, _, dx, _, _, rfl, e, T.cl, T.a_kept_rows, fs_rows _ _ _ _, _, rfl, _, _, _, _, rfl, rfl, hrw, atI_nat eb, b, kvs, rfl, h1, h2, r, tg, c, _, _, _, ec, rfl, hc, rfl, ?_⟩
  exact q
theorem ok_Record_count (T : Tx K mg) : GoodM P w K mg base "count" 2 ["self"] (fun vs H Q _ => ∃ (x : Addr) (h : Sh) (s : Sn) (rs : List Run), vs = [.ref x] ∧ RecAt P w K H x h s rs ∧ Q (.int (wyA h s rs 0 : Nat)) H) := by
  refine mkGoodM T.f_Record_count sc_Record_count (fun _ _ _ _ _ _ us hl => match us, hl with | [_], _ => rfl) (fun vs H Q E h => by obtain ⟨_, _, _, _, rfl, _⟩ := h; rfl) (fun cdv A outer s H vs Q E hr h => ?_)
  obtain ⟨x, h, s, rs, rfl, hrec, q⟩ := h
  obtain ⟨dx, a, sp, rl, rw, rx, rwx, e, _⟩ := hrec.ex
  refine ⟨_, (pss_one (ps_ret (pe_goM T T.m_ways (ok_Record_ways T) hr (pv 0) (pa_cons pe_int pa_nil)))), ?_⟩
  exact ⟨_, rfl, x, dx, _, rfl, e, fs_ways _ _ _ _, x, h, s, rs, 0, rfl, hrec, Nat.zero_le _, q⟩
theorem ok_Record_measures (T : Tx K mg) : GoodM P w K mg base "measures" 1 ["self"] (fun vs H Q _ => ∃ (x : Addr) (h : Sh) (s : Sn) (rs : List Run), vs = [.ref x] ∧ RecAt P w K H x h s rs ∧ ∀ H' p, Same H H' → SqT K H' p [.int ((meA h s rs).2.1 : Nat), .int ((meA h s rs).2.2 : Nat)] → Q (.ref p) H') := by
  refine mkGoodM T.f_Record_measures sc_Record_measures (fun _ _ _ _ _ _ us hl => match us, hl with | [_], _ => rfl) (fun vs H Q E h => by obtain ⟨_, _, _, _, rfl, _⟩ := h; rfl) (fun cdv A outer s H vs Q E hr h => ?_)
  obtain ⟨x, h, s, rs, rfl, hrec, q⟩ := h
  obtain ⟨dx, a, sp, rl, rw, rx, rwx, e, ar, hrw, hx, hn⟩ := hrec.ex
  refine ⟨_, (pss_one (ps_ret (pe_slice sl_tup (pe_tget2 (hu_of hr) (pe_ix ix_list (pe_fld (pv 0) (by rfl)) pe_int (fun _ _ => rfl)) (pe_glob (v := .ref (ga K "AHEAD")) (by rfl) T.g_AHEAD rfl) (pe_glob (v := .ref (ga K "NOTHING")) (by rfl) T.g_NOTHING rfl) ⟨rfl, rfl, rfl, rfl⟩) (po_some pe_int) po_none))), ?_⟩
  obtain ⟨b, eb, hb⟩ := rec_row hx (Nat.zero_le _)
  obtain ⟨r, c, tg, ec, hc⟩ := row_ahead T hb
  obtain ⟨kvs, h1, h2, _⟩ := hb
  refine ⟨_, rfl, x, _, dx, _, _, rfl, e, T.cl, T.a_kept_rows, fs_rows _ _ _ _, _, _, _, _, rfl, rfl, hrw, atI_nat (j := 0) eb, b, kvs, rfl, h1, h2, r, tg, _, rfl, c, _, ec, hc, ?_, fun p np => ?_⟩
  · show ¬ (HT.sIx 3 0 (some 1) = 0 ∧ HT.sIx 3 3 none = 3)
    rw [show HT.sIx 3 0 (some 1) = min 1 3 from HT.sIx_nat 3 0 1]
    decide
  · refine q _ p (Same.up np) ?_
    have ecut : cutV (msV ((rowK h s rs (rs.length - 0) (0, 0)).getD (0, 0, 0))) (some 1) none = [.int ((meA h s rs).2.1 : Nat), .int ((meA h s rs).2.2 : Nat)] := by
      show cutV (msV (meA h s rs)) (some 1) none = _
      unfold cutV msV
      rw [show HT.sIx [V.int ((meA h s rs).1 : Nat), V.int ((meA h s rs).2.1 : Nat), V.int ((meA h s rs).2.2 : Nat)].length 0 (some 1) = min 1 3 from HT.sIx_nat 3 0 1]
      rfl
    rw [ecut]
    exact SqT.new
theorem ok_Record_steps (T : Tx K mg) : GoodM P w K mg base "steps" 5 ["self", "run"] (fun vs H Q _ => ∃ (x : Addr) (h : Sh) (s : Sn) (rs : List Run) (i : Nat), vs = [.ref x, .int (i : Nat)] ∧ RecAt P w K H x h s rs ∧ i ≤ rs.length ∧
    ∀ H' l xs ps, Same H H' → H l = none → H' l = some (.lst xs) → PL K H' xs (ps.map prV) → StepsOk h s rs i ps → Q (.ref l) H') := by
  refine mkGoodM T.f_Record_steps sc_Record_steps (fun _ _ _ _ _ _ us hl => match us, hl with | [_, _], _ => rfl) (fun vs H Q E h => by obtain ⟨_, _, _, _, _, rfl, _⟩ := h; rfl) (fun cdv A outer s H vs Q E hr h => ?_)
  obtain ⟨x, h, s, rs, i, rfl, hrec, hi, q⟩ := h
  obtain ⟨dx, a, sp, rl, rw, rx, rwx, e, ar, hrw, hx, hn⟩ := hrec.ex
  refine ⟨_, (pss_cons (ps_if (pt_cmpR op_eq (pv 1) (pe_callB call_len_seq (by rfl) T.n_len bt_len (pa_cons (pe_fld (pv 0) (by rfl)) pa_nil)) (nomark _))
    (pss_one (ps_ret (pe_lst pa_nil))) pss_nil)
    (pss_cons (ps_set (i := 2) sc_Record_steps.nd rfl (by first | exact .inl rfl | exact .inr rfl) (pe_go (ok_steps_from T) hr (pa_cons (pe_fld (pv 0) (by rfl)) (pa_cons (pe_fld (pv 0) (by rfl)) (pa_cons (pe_fld (pv 0) (by rfl)) (pa_cons (pv 1) pa_nil))))))
    (pss_one (ps_ret (pe_lc rfl sc_Record_steps.nd (pi_list (pv 2)) (show BlkOk ["self", "run", "steps", "step"] (defScope s_Record_steps) _ [("step", 3)] from blkOk_by (by decide +kernel)) (fun _ _ _ _ _ => (pg_name (i := 3) sc_Record_steps.nd rfl (by first | exact .inl rfl | exact .inr rfl))) (fun _ _ _ _ _ => (pts_one (pt_cmpR op_gt (peGoM (K := K) rfl T T.m_ways (ok_Record_ways (P := P) (w := w) (base := base) T) hr (pv 0) (pa_cons (pe_ix (ixT (K := K) rfl) (pv 3) pe_int (fun _ _ => rfl)) pa_nil)) pe_int (nomark _)))) (fun _ _ _ _ _ => (pv 3))))))), ?_⟩
  have lrx : rx.length = rs.length := by rw [Paired.length ar.hrx, List.length_map]
  refine ⟨_, rfl, _, rfl, x, _, dx, _, _, rfl, e, T.cl, T.a_kept_runs, fs_runs _ _ _ _, _, _, rfl, .inl ar.hrl, rfl, _, rfl, ite2 (fun e0 => ?_) (fun e0 => ?_)⟩
  · have ei : i = rs.length := by
      have := V.int.inj (of_decide_eq_true e0)
      omega
    refine ⟨by decide, fun l nl => q _ l [] [] (Same.up nl) nl upd_same .nil ⟨⟨[], ?_, List.Pairwise.nil, rfl⟩⟩⟩
    rw [ei, List.drop_length]
    exact .nil
  · have hlt : i < rs.length := by
      have : ¬ i = rs.length := fun z => e0 (decide_eq_true (by rw [z, lrx]))
      omega
    refine ⟨_, rfl, x, _, dx, _, _, rfl, e, T.cl, T.a_kept_shape, fs_shape _ _ _ _, _, rfl, x, _, dx, _, _, rfl, e, T.cl, T.a_kept_span, fs_span _ _ _ _, _, rfl, x, _, dx, _, _, rfl, e, T.cl, T.a_kept_runs, fs_runs _ _ _ _, _, rfl, a, sp, rl, h, s, rs, rx, i, rfl, ar, hlt, fun H1 l1 xs qs s1 nl1 hl1 hxs perm srt => ?_⟩
    have len : qs.length ≤ 4194304 := by
      rw [perm.length_eq]
      have := sh_small ar.ok
      refine Nat.le_trans (lvs_len _ _ _ _) (Nat.le_trans (tsz_le ar.sok (fun r m => ar.rok.all r (List.mem_of_mem_drop m)) (Nat.zero_le _)) ?_)
      exact Nat.le_trans (Nat.pow_le_pow_right (by decide) (show h.stop - 0 ≤ 11 by omega)) (by decide)
    have lxs : xs.length = qs.length := by rw [Paired.length hxs, List.length_map]
    refine ⟨_, rfl, l1, rfl, ⟨_, .inl (.inl hl1)⟩, fun D nD => ?_⟩
    refine cw_list (xs := xs) (fun j H2 => Same H1 H2 ∧ ∃ ys, H2 D = some (.lst ys) ∧ PL K H2 ys (((qs.take j).filter fun q => decide (0 < wyA h s rs q.2)).map prV)) ⟨Same.up nD, [], upd_same, .nil⟩ (fun j H2 _ hx => .inl (.inl (hx.1 _ _ hl1))) (fun j y H2 ey hx => ?_) (fun H2 hx => ?_)
    · obtain ⟨sm, ys, hD, hys⟩ := hx
      obtain ⟨t, et, ta, rfl, hta⟩ := Paired.getl (hxs.same sm) ey
      rw [List.getElem?_map] at et
      obtain ⟨st, e3, rfl⟩ := Option.map_eq_some_iff.mp et
      have mem := perm.mem_iff.mp (List.mem_of_getElem? e3)
      have lx := lvs_ix mem
      rw [List.length_drop] at lx
      have hrec2 := (hrec.same s1).same sm
      have e2 := sm _ _ (s1 _ _ e)
      refine ⟨rfl, _, rfl, x, dx, _, rfl, e2, fs_ways _ _ _ _, _, rfl, ta, _, _, _, rfl, rfl, hta, rfl, x, h, s, rs, st.2, rfl, hrec2, by omega, _, _, rfl, rfl, _, rfl, ?_⟩
      rw [take_snoc e3, List.filter_append]
      refine ite2 (fun z => ?_) (fun z => ?_)
      · have pos : 0 < wyA h s rs st.2 := by
          have := of_decide_eq_true z
          omega
        have ef : List.filter (fun q : Nat × Nat => decide (0 < wyA h s rs q.2)) [st] = [st] := by simp [pos]
        rw [ef]
        refine ⟨_, rfl, ys, hD, small_len (n := 4194304) (by
          rw [Paired.length hys, List.length_map]
          refine Nat.le_trans (List.length_filter_le _ _) ?_
          rw [List.length_take]
          omega), Same.onL nD sm, _, upd_same, ?_⟩
        rw [List.map_append]
        exact Paired.snoc (hys.onL hD) ⟨ta, rfl, SqT.onL hD hta⟩
      · have npos : ¬ 0 < wyA h s rs st.2 := fun p => z (decide_eq_true (by omega))
        have ef : List.filter (fun q : Nat × Nat => decide (0 < wyA h s rs q.2)) [st] = [] := by simp [npos]
        rw [ef, List.append_nil]
        exact ⟨sm, ys, hD, hys⟩
    · obtain ⟨sm, ys, hD, hys⟩ := hx
      rw [lxs, List.take_length] at hys
      exact q _ D ys _ (s1.trans sm) (s1.free nD) hD hys ⟨⟨qs, perm, srt, rfl⟩⟩
/-- the arguments of the record's defs -/
structure RcArg (K : PySem.W.Frag) (H : Hp) (a c : Addr) (h : Sh) (s : Sn) (ch : List Int) : Prop where
  hs : SqT K H a h.vs
  ok : h.Ok
  sok : s.Ok
  hc : SqL K H c (zv ch)
  sig : SigOk s ch
theorem RcArg.same {H H' : Hp} {a c : Addr} {h : Sh} {s : Sn} {ch : List Int} (e : Same H H') (x : RcArg K H a c h s ch) : RcArg K H' a c h s ch := ⟨e.seqT x.hs, x.ok, x.sok, e.seq x.hc, x.sig⟩
def rcV (a c : Addr) (s : Sn) : List V := [.ref a, .int (s.lo : Nat), .int (s.hi : Nat), .ref c]
theorem ok_require_recorded (T : Tx K mg) : Good P w K mg base "require_recorded" 5 ["shape", "low", "high", "signal"] [] (fun vs H Q _ => ∃ (a c : Addr) (h : Sh) (s : Sn) (ch : List Int), vs = rcV a c s ∧ RcArg K H a c h s ch ∧ ∀ H', Same H H' → Q .non H') := by
  refine mkGood T.f_require_recorded T.g_require_recorded sc_require_recorded (fun _ _ _ _ _ _ us hl => match us, hl with | [_, _, _, _], _ => rfl) (fun vs H Q E h => by obtain ⟨_, _, _, _, _, rfl, _⟩ := h; rfl) (fun cdv A outer s H vs Q E hr h => ?_)
  obtain ⟨a, c, h, s, ch, rfl, ra, q⟩ := h
  refine ⟨_, (pss_cons (ps_expr (pe_go (ok_require_shape T) hr (pa_cons (pv 0) pa_nil)))
    (pss_cons (ps_expr (pe_go (ok_require_span T) hr (pa_cons (pv 1) (pa_cons (pv 2) pa_nil))))
    (pss_one (ps_expr (pe_go (ok_require_signal T) hr (pa_cons (pv 3) (pa_cons (pe_cst T.i_MOST_CHANGES) pa_nil))))))), ?_⟩
  have l1 := ra.sok.l1
  have le := ra.sok.le
  refine ⟨_, rfl, a, h, rfl, ra.hs, ra.ok, fun H1 s1 => ?_⟩
  refine ⟨_, rfl, _, rfl, _, _, rfl, by omega, by omega, ?_⟩
  exact ⟨_, rfl, c, ch, 200, rfl, s1.seq ra.hc, ra.sig.inc, ra.sig.len, fun H2 s2 => q _ (s1.trans s2)⟩
theorem ok_require_record (T : Tx K mg) : Good P w K mg base "require_record" 8 ["shape", "low", "high", "signal"] [] (fun vs H Q _ => ∃ (a c : Addr) (h : Sh) (s : Sn) (ch : List Int), vs = rcV a c s ∧ RcArg K H a c h s ch ∧ ∀ H' x, Same H H' → RecAt P w K H' x h s (rnOf ch) → Q (.ref x) H') := by
  refine mkGood T.f_require_record T.g_require_record sc_require_record (fun _ _ _ _ _ _ us hl => match us, hl with | [_, _, _, _], _ => rfl) (fun vs H Q E h => by obtain ⟨_, _, _, _, _, rfl, _⟩ := h; rfl) (fun cdv A outer s H vs Q E hr h => ?_)
  obtain ⟨a, c, h, s, ch, rfl, ra, q⟩ := h
  refine ⟨_, (pss_cons (ps_expr (pe_go (ok_require_recorded T) hr (pa_cons (pv 0) (pa_cons (pv 1) (pa_cons (pv 2) (pa_cons (pv 3) pa_nil))))))
    (pss_one (ps_ret (pe_mk T (ok_Record_init T) hr (pa_cons (pv 0) (pa_cons (pe_tup (pa_cons (pv 1) (pa_cons (pv 2) pa_nil))) (pa_cons (pv 3) pa_nil))))))), ?_⟩
  refine ⟨_, rfl, _, rfl, _, rfl, _, rfl, a, c, h, s, ch, rfl, ra, fun H1 s1 => ?_⟩
  have ra1 := ra.same s1
  refine ⟨_, rfl, _, rfl, _, rfl, (by decide : 2 ≤ sizeLine), fun sp nsp => ⟨_, rfl, fun x dx nx ndx dne => ?_⟩⟩
  have sS := Same.up (o := .tup [.int (s.lo : Nat), .int (s.hi : Nat)]) nsp
  have ra2 := ra1.same sS
  have hsp : SqT K (upd H1 sp (.tup [.int (s.lo : Nat), .int (s.hi : Nat)])) sp s.vs := SqT.new
  have sM : Same (upd H1 sp (.tup [.int (s.lo : Nat), .int (s.hi : Nat)])) (upd (upd (upd H1 sp (.tup [.int (s.lo : Nat), .int (s.hi : Nat)])) dx (.own x)) x (.ins (ga K "Record") dx [])) := fun b o e => by
    rw [upd_ne (ne_of_none e nx), upd_ne (ne_of_none e ndx)]
    exact e
  have ra3 := ra2.same sM
  refine ⟨x, a, sp, c, dx, h, s, ch, rfl, upd_same, ra3.hs, ra3.ok, sM.seqT hsp, ra3.sok, ra3.hc, ra3.sig, fun H2 k hrec => ⟨rfl, ?_⟩⟩
  refine q _ x (fun b o e => ?_) hrec
  have e1 := sS _ _ (s1 _ _ e)
  exact k b o (ne_of_none e1 nx) (sM _ _ e1)
theorem ok_require_some (T : Tx K mg) : Good P w K mg base "require_some" 9 ["shape", "low", "high", "signal"] [] (fun vs H Q _ => ∃ (a c : Addr) (h : Sh) (s : Sn) (ch : List Int), vs = rcV a c s ∧ RcArg K H a c h s ch ∧ 0 < wyA h s (rnOf ch) 0 ∧ ∀ H' x, Same H H' → RecAt P w K H' x h s (rnOf ch) → Q (.ref x) H') := by
  refine mkGood T.f_require_some T.g_require_some sc_require_some (fun _ _ _ _ _ _ us hl => match us, hl with | [_, _, _, _], _ => rfl) (fun vs H Q E h => by obtain ⟨_, _, _, _, _, rfl, _⟩ := h; rfl) (fun cdv A outer s H vs Q E hr h => ?_)
  obtain ⟨a, c, h, s, ch, rfl, ra, pos, q⟩ := h
  refine ⟨_, (pss_cons (ps_set (i := 4) sc_require_some.nd rfl (by first | exact .inl rfl | exact .inr rfl) (pe_go (ok_require_record T) hr (pa_cons (pv 0) (pa_cons (pv 1) (pa_cons (pv 2) (pa_cons (pv 3) pa_nil))))))
    (pss_cons (ps_if (pt_cmpR op_eq (pe_goM0 T T.m_count (ok_Record_count T) hr (pv 4)) pe_int (nomark _))
    (pss_one ps_never) pss_nil)
    (pss_one (ps_ret (pv 4))))), ?_⟩
  refine ⟨_, rfl, _, rfl, _, rfl, _, rfl, a, c, h, s, ch, rfl, ra, fun H1 x s1 hrec => ?_⟩
  obtain ⟨dx, a', sp, rl, rw, rx, rwx, e, _⟩ := hrec.ex
  refine ⟨_, rfl, x, dx, _, rfl, e, fs_count _ _ _ _, x, h, s, rnOf ch, rfl, hrec, rfl, _, rfl, ite2 (fun z => ?_) (fun _ => ⟨_, rfl, q _ x s1 hrec⟩)⟩
  have := V.int.inj (of_decide_eq_true z)
  omega
theorem ok_is_possible (T : Tx K mg) : Good P w K mg base "is_possible" 9 ["shape", "low", "high", "signal"] [] (fun vs H Q _ => ∃ (a c : Addr) (h : Sh) (s : Sn) (ch : List Int), vs = rcV a c s ∧ RcArg K H a c h s ch ∧ ∀ H', Same H H' → Q (.bl (decide (0 < wyA h s (rnOf ch) 0))) H') := by
  refine mkGood T.f_is_possible T.g_is_possible sc_is_possible (fun _ _ _ _ _ _ us hl => match us, hl with | [_, _, _, _], _ => rfl) (fun vs H Q E h => by obtain ⟨_, _, _, _, _, rfl, _⟩ := h; rfl) (fun cdv A outer s H vs Q E hr h => ?_)
  obtain ⟨a, c, h, s, ch, rfl, ra, q⟩ := h
  refine ⟨_, (pss_one (ps_ret (pe_cmpR op_gt (pe_goM0 T T.m_count (ok_Record_count T) hr (pe_go (ok_require_record T) hr (pa_cons (pv 0) (pa_cons (pv 1) (pa_cons (pv 2) (pa_cons (pv 3) pa_nil)))))) pe_int (nomark _)))), ?_⟩
  refine ⟨_, rfl, _, rfl, _, rfl, _, rfl, a, c, h, s, ch, rfl, ra, fun H1 x s1 hrec => ?_⟩
  obtain ⟨dx, a', sp, rl, rw, rx, rwx, e, _⟩ := hrec.ex
  refine ⟨x, dx, _, rfl, e, fs_count _ _ _ _, x, h, s, rnOf ch, rfl, hrec, _, _, rfl, rfl, ?_⟩
  have e2 : decide ((0 : Int) < ((wyA h s (rnOf ch) 0 : Nat) : Int)) = decide (0 < wyA h s (rnOf ch) 0) := by
    by_cases c : 0 < wyA h s (rnOf ch) 0
    · rw [decide_eq_true c, decide_eq_true (by omega)]
    · rw [decide_eq_false c, decide_eq_false (by omega)]
  show Q (.bl (decide ((0 : Int) < ((wyA h s (rnOf ch) 0 : Nat) : Int)))) H1
  rw [e2]
  exact q _ s1
theorem ok_count_texts (T : Tx K mg) : Good P w K mg base "count_texts" 9 ["shape", "low", "high", "signal"] [] (fun vs H Q _ => ∃ (a c : Addr) (h : Sh) (s : Sn) (ch : List Int), vs = rcV a c s ∧ RcArg K H a c h s ch ∧ ∀ H', Same H H' → Q (.int (wyA h s (rnOf ch) 0 : Nat)) H') := by
  refine mkGood T.f_count_texts T.g_count_texts sc_count_texts (fun _ _ _ _ _ _ us hl => match us, hl with | [_, _, _, _], _ => rfl) (fun vs H Q E h => by obtain ⟨_, _, _, _, _, rfl, _⟩ := h; rfl) (fun cdv A outer s H vs Q E hr h => ?_)
  obtain ⟨a, c, h, s, ch, rfl, ra, q⟩ := h
  refine ⟨_, (pss_one (ps_ret (pe_goM0 T T.m_count (ok_Record_count T) hr (pe_go (ok_require_record T) hr (pa_cons (pv 0) (pa_cons (pv 1) (pa_cons (pv 2) (pa_cons (pv 3) pa_nil)))))))), ?_⟩
  refine ⟨_, rfl, _, rfl, _, rfl, _, rfl, a, c, h, s, ch, rfl, ra, fun H1 x s1 hrec => ?_⟩
  obtain ⟨dx, a', sp, rl, rw, rx, rwx, e, _⟩ := hrec.ex
  exact ⟨x, dx, _, rfl, e, fs_count _ _ _ _, x, h, s, rnOf ch, rfl, hrec, q _ s1⟩
theorem ok_fewest_numbers (T : Tx K mg) : Good P w K mg base "fewest_numbers" 10 ["shape", "low", "high", "signal"] [] (fun vs H Q _ => ∃ (a c : Addr) (h : Sh) (s : Sn) (ch : List Int), vs = rcV a c s ∧ RcArg K H a c h s ch ∧ 0 < wyA h s (rnOf ch) 0 ∧ ∀ H', Same H H' → Q (.int ((meA h s (rnOf ch)).2.1 : Nat)) H') := by
  refine mkGood T.f_fewest_numbers T.g_fewest_numbers sc_fewest_numbers (fun _ _ _ _ _ _ us hl => match us, hl with | [_, _, _, _], _ => rfl) (fun vs H Q E h => by obtain ⟨_, _, _, _, _, rfl, _⟩ := h; rfl) (fun cdv A outer s H vs Q E hr h => ?_)
  obtain ⟨a, c, h, s, ch, rfl, ra, pos, q⟩ := h
  refine ⟨_, (pss_one (ps_ret (pe_ix ix_tup (pe_goM0 T T.m_measures (ok_Record_measures T) hr (pe_go (ok_require_some T) hr (pa_cons (pv 0) (pa_cons (pv 1) (pa_cons (pv 2) (pa_cons (pv 3) pa_nil)))))) pe_int (fun _ _ => rfl)))), ?_⟩
  refine ⟨_, rfl, _, rfl, _, rfl, _, rfl, a, c, h, s, ch, rfl, ra, pos, fun H1 x s1 hrec => ?_⟩
  obtain ⟨dx, a', sp, rl, rw, rx, rwx, e, _⟩ := hrec.ex
  exact ⟨x, dx, _, rfl, e, fs_measures _ _ _ _, x, h, s, rnOf ch, rfl, hrec, fun H2 p s2 hp => ⟨_, _, _, _, rfl, rfl, hp, rfl, q _ (s1.trans s2)⟩⟩
theorem ok_most_numbers (T : Tx K mg) : Good P w K mg base "most_numbers" 10 ["shape", "low", "high", "signal"] [] (fun vs H Q _ => ∃ (a c : Addr) (h : Sh) (s : Sn) (ch : List Int), vs = rcV a c s ∧ RcArg K H a c h s ch ∧ 0 < wyA h s (rnOf ch) 0 ∧ ∀ H', Same H H' → Q (.int ((meA h s (rnOf ch)).2.2 : Nat)) H') := by
  refine mkGood T.f_most_numbers T.g_most_numbers sc_most_numbers (fun _ _ _ _ _ _ us hl => match us, hl with | [_, _, _, _], _ => rfl) (fun vs H Q E h => by obtain ⟨_, _, _, _, _, rfl, _⟩ := h; rfl) (fun cdv A outer s H vs Q E hr h => ?_)
  obtain ⟨a, c, h, s, ch, rfl, ra, pos, q⟩ := h
  refine ⟨_, (pss_one (ps_ret (pe_ix ix_tup (pe_goM0 T T.m_measures (ok_Record_measures T) hr (pe_go (ok_require_some T) hr (pa_cons (pv 0) (pa_cons (pv 1) (pa_cons (pv 2) (pa_cons (pv 3) pa_nil)))))) pe_int (fun _ _ => rfl)))), ?_⟩
  refine ⟨_, rfl, _, rfl, _, rfl, _, rfl, a, c, h, s, ch, rfl, ra, pos, fun H1 x s1 hrec => ?_⟩
  obtain ⟨dx, a', sp, rl, rw, rx, rwx, e, _⟩ := hrec.ex
  exact ⟨x, dx, _, rfl, e, fs_measures _ _ _ _, x, h, s, rnOf ch, rfl, hrec, fun H2 p s2 hp => ⟨_, _, _, _, rfl, rfl, hp, rfl, q _ (s1.trans s2)⟩⟩
end
end K89

set_option maxRecDepth 100000
set_option maxHeartbeats 2000000
namespace K89
open PySem PySem.Spec PyProof.Rows L2
theorem sc_nth_text : FnScope ["shape", "low", "high", "signal", "index", "record", "found", "run", "number", "later", "many"] ["shape", "low", "high", "signal", "index"] (defScope s_nth_text) := ⟨rfl, rfl, rfl, by decide +kernel, rfl, by decide +kernel, by decide +kernel⟩
theorem sc_text_index : FnScope ["shape", "low", "high", "signal", "numbers", "record", "found", "run", "number", "steps", "later", "one"] ["shape", "low", "high", "signal", "numbers"] (defScope s_text_index) := ⟨rfl, rfl, rfl, by decide +kernel, rfl, by decide +kernel, by decide +kernel⟩
/-- the text of an index, from a run on -/
inductive Nth (h : Sh) (s : Sn) (rs : List Run) : Nat → Nat → List Nat → Prop
  | done {i idx : Nat} : i = rs.length → Nth h s rs i idx []
  | step {i idx N l r : Nat} {ns : List Nat} : i < rs.length → (∀ ps, StepsOk h s rs i ps → ∃ pre post, ps = pre ++ (N, l) :: post ∧ idx = (pre.map fun q => wyA h s rs q.2).sum + r) → r < wyA h s rs l → i < l → l ≤ rs.length → Nth h s rs l r ns → Nth h s rs i idx (N :: ns)
/-- the index of a text, from a run on -/
inductive TIx (h : Sh) (s : Sn) (rs : List Run) : Nat → List Nat → Nat → Prop
  | nil {i : Nat} : i = rs.length → TIx h s rs i [] 0
  | cons {i N l r : Nat} {ns : List Nat} : i ≤ rs.length → (k : Nat) → (∀ ps, StepsOk h s rs i ps → ∃ pre post, ps = pre ++ (N, l) :: post ∧ (∀ q ∈ pre, q.1 < N) ∧ (∀ q ∈ post, N < q.1) ∧ k = (pre.map fun q => wyA h s rs q.2).sum) → l ≤ rs.length → TIx h s rs l ns r → TIx h s rs i (N :: ns) (k + r)
theorem sum_take_le (f : Nat × Nat → Nat) (l : List (Nat × Nat)) (j : Nat) {q : Nat × Nat} (h : l[j]? = some q) : ((l.take j).map f).sum + f q ≤ (l.map f).sum := by
  have := take_sum_le f l (j + 1)
  rw [take_snoc h, List.map_append, List.sum_append] at this
  simpa using this
section
variable {P : Program} {w : World} {K : PySem.W.Frag} {mg : PySem.Str → Option Value} {base : Heap}
theorem ok_nth_text (T : Tx K mg) : Good P w K mg base "nth_text" 10 ["shape", "low", "high", "signal", "index"] [] (fun vs H Q _ => ∃ (a c : Addr) (h : Sh) (s : Sn) (ch : List Int) (idx : Nat) (ns : List Nat), vs = rcV a c s ++ [.int (idx : Nat)] ∧ RcArg K H a c h s ch ∧ idx < wyA h s (rnOf ch) 0 ∧ Nth h s (rnOf ch) 0 idx ns ∧
    ∀ H' l, Same H H' → H l = none → H' l = some (.lst (iv ns)) → Q (.ref l) H') := by
  refine mkGood T.f_nth_text T.g_nth_text sc_nth_text (fun _ _ _ _ _ _ us hl => match us, hl with | [_, _, _, _, _], _ => rfl) (fun vs H Q E h => by obtain ⟨_, _, _, _, _, _, _, rfl, _⟩ := h; rfl) (fun cdv A outer s H vs Q E hr h => ?_)
  obtain ⟨a, c, h, s, ch, idx, ns, rfl, ra, hidx, nth, q⟩ := h
  refine ⟨_, (pss_cons (ps_set (i := 5) sc_nth_text.nd rfl (by first | exact .inl rfl | exact .inr rfl) (pe_go (ok_require_some T) hr (pa_cons (pv 0) (pa_cons (pv 1) (pa_cons (pv 2) (pa_cons (pv 3) pa_nil))))))
    (pss_cons (ps_if (PW.pt (pw_or (pt_not (pt_val (pe_go (ok_is_integer T) hr (pa_cons (pv 4) pa_nil)))) (pw_or1 (pt_not (pt_chain op_le op_lt pe_int (pv 4) (pe_goM0 T T.m_count (ok_Record_count T) hr (pv 5)))))))
    (pss_one ps_never) pss_nil)
    (pss_cons (ps_par (i := 6) (j := 7) rfl sc_nth_text.nd rfl rfl (by decide) rfl rfl (pa_cons (pe_lst pa_nil) (pa_cons pe_int pa_nil)) (by rfl))
    (pss_cons (ps_while PassesOwn.never (pt_cmpR op_lt (pv 7) (pe_callB call_len_seq (by rfl) T.n_len bt_len (pa_cons (pe_fld (pv 5) (by rfl)) pa_nil)) (nomark _))
    (pss_one (ps_for PassesOwn.never rfl (pi_list (pe_goM T T.m_steps (ok_Record_steps T) hr (pv 5) (pa_cons (pv 7) pa_nil))) (pg_tup rfl (pgs_cons (pg_name (i := 8) sc_nth_text.nd rfl (by first | exact .inl rfl | exact .inr rfl)) (pgs_cons (pg_name (i := 9) sc_nth_text.nd rfl (by first | exact .inl rfl | exact .inr rfl)) pgs_nil)))
    (pss_cons (ps_set (i := 10) sc_nth_text.nd rfl (by first | exact .inl rfl | exact .inr rfl) (pe_goM T T.m_ways (ok_Record_ways T) hr (pv 5) (pa_cons (pv 9) pa_nil)))
    (pss_cons (ps_if (pt_cmpR op_lt (pv 4) (pv 10) (nomark _))
    (pss_cons (ps_expr (pe_bm PySem.F.plainAttrs_list PySem.F.slot_list_append PySem.F.type_list_append mt_append (pv 6) (pa_cons (pv 8) pa_nil)))
    (pss_cons (ps_set (i := 7) sc_nth_text.nd rfl (by first | exact .inl rfl | exact .inr rfl) (pv 9))
    (pss_one ps_break))) pss_nil)
    (pss_one (ps_aug (i := 4) sc_nth_text.nd rfl (by first | exact .inl rfl | exact .inr rfl) (pv 10) ip_sub)))))))
    (pss_one (ps_ret (pv 6))))))), ?_⟩
  refine ⟨_, rfl, _, rfl, _, rfl, _, rfl, a, c, h, s, ch, rfl, ra, by omega, fun H1 x s1 hrec => ?_⟩
  have lrs : (rnOf ch).length ≤ 100 := by
    rw [rn_len]
    have := ra.sig.len
    omega
  generalize rnOf ch = rs at hidx nth hrec lrs
  obtain ⟨dx, a', sp, rl, rw, rx, rwx, e, ar, hrw, hx, hn⟩ := hrec.ex
  have lrx : rx.length = rs.length := by rw [Paired.length ar.hrx, List.length_map]
  refine ⟨_, rfl, _, rfl, true, rfl, iteF ⟨_, rfl, _, _, rfl, rfl, _, rfl, ?_⟩⟩
  refine ite2 (fun _ => ?_) (fun z => absurd (decide_eq_true (by omega : (0 : Int) ≤ (idx : Nat))) z)
  refine ⟨_, rfl, x, dx, _, rfl, e, fs_count _ _ _ _, x, h, s, rs, rfl, hrec, _, _, rfl, rfl, _, rfl, ?_⟩
  refine ite2 (fun z => ?_) (fun _ => ?_)
  · rw [decide_eq_true (by omega)] at z
    cases z
  refine ⟨by decide, fun lf nf => ⟨_, _, rfl, ?_⟩⟩
  have s2 := Same.up (o := .lst []) nf
  refine while_w (fun m σ H' => ∃ (run i : Nat) (done rest : List Nat) (y8 y9 y10 : Option V), σ = [some (.ref a), some (.int (s.lo : Nat)), some (.int (s.hi : Nat)), some (.ref c), some (.int (i : Nat)), some (.ref x), some (.ref lf), some (.int (run : Nat)), y8, y9, y10] ∧
      Same H1 H' ∧ H' lf = some (.lst (iv done)) ∧ ns = done ++ rest ∧ Nth h s rs run i rest ∧ done.length ≤ run ∧ run ≤ rs.length ∧ m = rs.length - run) _ ⟨0, idx, [], ns, none, none, none, rfl, s2, upd_same, rfl, nth, Nat.le_refl _, Nat.zero_le _, rfl⟩ (fun m σ H' hw => ?_)
  obtain ⟨run, i, done, rest, y8, y9, y10, rfl, sm, hf, ens, nt, ld, lr, rfl⟩ := hw
  have e2 := sm _ _ e
  have ar2 := ar.same sm
  have hrec2 := hrec.same sm
  refine ⟨_, rfl, _, rfl, x, _, dx, _, _, rfl, e2, T.cl, T.a_kept_runs, fs_runs _ _ _ _, _, _, rfl, .inl ar2.hrl, _, _, rfl, rfl, _, rfl, ite2 (fun z => ?_) (fun z => ?_)⟩
  · have hlt : run < rs.length := by
      have := of_decide_eq_true z
      omega
    refine ⟨_, fun σ' H' hn => hn, ?_⟩
    cases nt with
    | done e => exact absurd e (by omega)
    | @step _ _ N l r rest' _ hps hr' hil hln nt' =>
      refine ⟨_, rfl, x, dx, _, rfl, e2, fs_steps _ _ _ _, _, rfl, x, h, s, rs, run, rfl, hrec2, lr, fun H3 l1 xs ps s3 nl1 hl1 hxs sok => ?_⟩
      obtain ⟨pre, post, eps, eidx⟩ := hps ps sok
      have hf3 := s3 _ _ hf
      have sm3 := sm.trans s3
      have hrec3 := hrec2.same s3
      have e3 := s3 _ _ e2
      have lxs : xs.length = ps.length := by rw [Paired.length hxs, List.length_map]
      have lps : ps.length = pre.length + 1 + post.length := by
        rw [eps, List.length_append, List.length_cons]
        omega
      have nl1f : l1 ≠ lf := (ne_of_none hf nl1).symm
      refine ⟨l1, rfl, ⟨_, .inl (.inl hl1)⟩, ?_⟩
      refine for_list (xs := xs) (fun j σ H' => ∃ (y8 y9 y10 : Option V), σ = [some (.ref a), some (.int (s.lo : Nat)), some (.int (s.hi : Nat)), some (.ref c), some (.int (i - ((ps.take j).map fun q => wyA h s rs q.2).sum : Nat)), some (.ref x), some (.ref lf), some (.int (run : Nat)), y8, y9, y10] ∧ H' = H3 ∧ j ≤ pre.length) ⟨_, _, _, rfl, rfl, Nat.zero_le _⟩ (fun j σ H' _ hx => ?_) (fun j y σ H' ey hx => ?_) (fun σ H' hx => ?_)
      · obtain ⟨_, _, _, _, rfl, _⟩ := hx
        exact .inl (.inl hl1)
      · obtain ⟨y8, y9, y10, rfl, rfl, hj⟩ := hx
        obtain ⟨t, et, ta, rfl, hta⟩ := Paired.getl hxs ey
        rw [List.getElem?_map] at et
        obtain ⟨st, e4, rfl⟩ := Option.map_eq_some_iff.mp et
        have stl : st.2 ≤ rs.length := by
          obtain ⟨qs, q1, q2, q3⟩ := sok.ex
          have m := List.mem_of_getElem? e4
          rw [q3] at m
          have := lvs_ix (q1.mem_iff.mp ((List.mem_filter.mp m).1))
          rw [List.length_drop] at this
          omega
        refine ⟨ta, _, rfl, hta, rfl, _, _, rfl, _, _, rfl, rfl, ?_⟩
        refine ⟨_, rfl, x, dx, _, rfl, e3, fs_ways _ _ _ _, _, rfl, x, h, s, rs, st.2, rfl, hrec3, stl, ?_⟩
        refine ⟨_, rfl, _, rfl, _, _, rfl, rfl, _, rfl, ?_⟩
        by_cases hjl : j = pre.length
        · -- this is the one
          have est : st = (N, l) := by
            rw [eps, hjl, List.getElem?_append_right (Nat.le_refl _), Nat.sub_self] at e4
            exact (Option.some.inj e4).symm
          have etk : ps.take j = pre := by
            rw [eps, hjl]
            exact List.take_left
          subst est
          rw [etk]
          have er : i - (pre.map fun q => wyA h s rs q.2).sum = r := by omega
          rw [er]
          refine ite2 (fun _ => ?_) (fun z => absurd (decide_eq_true (by
            show ((r : Nat) : Int) < ((wyA h s rs l : Nat) : Int)
            omega)) z)
          refine ⟨_, rfl, .inl ⟨rfl, _, .inl (.inl hf3)⟩, _, rfl, lf, _, _, rfl, rfl, hf3, small_len (n := 1000) (by rw [List.length_map]; omega), ?_⟩
          refine ⟨_, rfl, ?_⟩
          refine ⟨_, ?_, l, r, done ++ [N], rest', _, _, _, rfl, Same.onL (s1.free nf |> fun _ => nf) sm3, ?_, by rw [ens, List.append_assoc] <;> rfl, nt', ?_, hln, rfl⟩
          · omega
          · rw [upd_same]
            unfold iv
            rw [List.map_append]
            rfl
          · rw [List.length_append, List.length_singleton]
            omega
        · have hjl : j < pre.length := by omega
          have epj : pre[j]? = some st := by
            rw [eps, List.getElem?_append_left hjl] at e4
            exact e4
          have le := sum_take_le (fun q => wyA h s rs q.2) pre j epj
          have etk : ps.take j = pre.take j := by
            rw [eps, List.take_append_of_le_length (by omega)]
          rw [etk]
          have big : wyA h s rs st.2 ≤ i - ((pre.take j).map fun q => wyA h s rs q.2).sum := by
            have : (fun q : Nat × Nat => wyA h s rs q.2) st = wyA h s rs st.2 := rfl
            omega
          refine ite2 (fun z => ?_) (fun _ => ?_)
          · have := of_decide_eq_true z
            have this : ((i - ((pre.take j).map fun q => wyA h s rs q.2).sum : Nat) : Int) < ((wyA h s rs st.2 : Nat) : Int) := this
            omega
          · refine ⟨_, rfl, _, rfl, _, _, rfl, rfl, ?_⟩
            refine ⟨some (.int (st.1 : Nat)), some (.int (st.2 : Nat)), some (.int (wyA h s rs st.2 : Nat)), ?_, rfl, hjl⟩
            have e5 : ((i - ((pre.take j).map fun q => wyA h s rs q.2).sum : Nat) : Int) - ((wyA h s rs st.2 : Nat) : Int) = ((i - ((ps.take (j + 1)).map fun q => wyA h s rs q.2).sum : Nat) : Int) := by
              have t1 : ps.take (j + 1) = pre.take (j + 1) := by
                rw [eps, List.take_append_of_le_length (by omega)]
              rw [t1, take_snoc epj, List.map_append, List.sum_append]
              simp only [List.map_cons, List.map_nil, List.sum_cons, List.sum_nil]
              omega
            rw [← e5]
            rfl
      · obtain ⟨_, _, _, _, _, hj⟩ := hx
        omega
  · have hge : run = rs.length := by
      have : ¬ ((run : Nat) : Int) < ((rx.length : Nat) : Int) := fun y => z (decide_eq_true y)
      omega
    have er : rest = [] := by
      cases nt with
      | done _ => rfl
      | step h1 => exact absurd h1 (by omega)
    rw [er, List.append_nil] at ens
    refine ⟨_, rfl, q _ lf (s1.trans sm) (s1.free nf) ?_⟩
    rw [ens]
    exact hf
theorem ok_text_index (T : Tx K mg) : Good P w K mg base "text_index" 8 ["shape", "low", "high", "signal", "numbers"] [] (fun vs H Q _ => ∃ (a c nb : Addr) (h : Sh) (s : Sn) (ch : List Int) (ns : List Nat) (idx : Nat), vs = rcV a c s ++ [.ref nb] ∧ RcArg K H a c h s ch ∧ SqL K H nb (iv ns) ∧ (∀ N ∈ ns, N < 2 ^ h.d) ∧ ns.length ≤ 100 ∧
    0 < wyA h s (rnOf ch) 0 ∧ TIx h s (rnOf ch) 0 ns idx ∧ ∀ H', Same H H' → Q (.int (idx : Nat)) H') := by
  refine mkGood T.f_text_index T.g_text_index sc_text_index (fun _ _ _ _ _ _ us hl => match us, hl with | [_, _, _, _, _], _ => rfl) (fun vs H Q E h => by obtain ⟨_, _, _, _, _, _, _, _, rfl, _⟩ := h; rfl) (fun cdv A outer s H vs Q E hr h => ?_)
  obtain ⟨a, c, nb, h, s, ch, ns, idx, rfl, ra, hnb, hN, hns, pos, tix, q⟩ := h
  refine ⟨_, (pss_cons (ps_expr (pe_go (ok_require_recorded T) hr (pa_cons (pv 0) (pa_cons (pv 1) (pa_cons (pv 2) (pa_cons (pv 3) pa_nil))))))
    (pss_cons (ps_expr (pe_go (ok_require_text T) hr (pa_cons (pv 0) (pa_cons (pv 4) (pa_cons pe_int (pa_cons (pe_cst T.i_MOST_INDEXED) pa_nil))))))
    (pss_cons (ps_set (i := 5) sc_text_index.nd rfl (by first | exact .inl rfl | exact .inr rfl) (pe_mk T (ok_Record_init T) hr (pa_cons (pv 0) (pa_cons (pe_tup (pa_cons (pv 1) (pa_cons (pv 2) pa_nil))) (pa_cons (pv 3) pa_nil)))))
    (pss_cons (ps_asg (pe_tup (pa_cons pe_int (pa_cons pe_int pa_nil))) (pg_tup rfl (pgs_cons (pg_name (i := 6) sc_text_index.nd rfl (by first | exact .inl rfl | exact .inr rfl)) (pgs_cons (pg_name (i := 7) sc_text_index.nd rfl (by first | exact .inl rfl | exact .inr rfl)) pgs_nil))))
    (pss_cons (ps_for PassesOwn.never rfl (pi_list (pv 4)) (pg_name (i := 8) sc_text_index.nd rfl (by first | exact .inl rfl | exact .inr rfl))
    (pss_cons (ps_set (i := 9) sc_text_index.nd rfl (by first | exact .inl rfl | exact .inr rfl) (pe_goM T T.m_steps (ok_Record_steps T) hr (pv 5) (pa_cons (pv 7) pa_nil)))
    (pss_cons (ps_setLc (i := 10) rfl sc_text_index.nd rfl rfl (sw_true (by rfl) (by rfl) (by rfl) (by rfl)) (pi_list (pv 9)) (show BlkOk ["shape", "low", "high", "signal", "numbers", "record", "found", "run", "number", "steps", "later", "one"] (defScope s_text_index) _ [("one", 11)] from blkOk_by (by decide +kernel)) (fun _ _ _ _ _ => (pg_name (i := 11) sc_text_index.nd rfl (by first | exact .inl rfl | exact .inr rfl))) (fun _ _ _ _ _ => (pts_one (pt_cmpR op_eq (pe_ix (ixT (K := K) rfl) (pv 11) pe_int (fun _ _ => rfl)) (pv 8) (nomark _)))) (fun _ _ _ _ _ => (pv 11)))
    (pss_cons (ps_if (pt_cmpR (op_eqD hr.units) (pv 10) (pe_lst pa_nil) (nomark _))
    (pss_one ps_never) pss_nil)
    (pss_cons (ps_aug (i := 6) sc_text_index.nd rfl (by first | exact .inl rfl | exact .inr rfl) (pe_callB (cr_sum rfl) (by rfl) T.n_sum bt_sum (pa_cons (pe_lc rfl sc_text_index.nd (pi_list (pv 9)) (show BlkOk ["shape", "low", "high", "signal", "numbers", "record", "found", "run", "number", "steps", "later", "one"] (defScope s_text_index) _ [("one", 11)] from blkOk_by (by decide +kernel)) (fun _ _ _ _ _ => (pg_name (i := 11) sc_text_index.nd rfl (by first | exact .inl rfl | exact .inr rfl))) (fun _ _ _ _ _ => (pts_one (pt_cmpR op_lt (pe_ix (ixT (K := K) rfl) (pv 11) pe_int (fun _ _ => rfl)) (pv 8) (nomark _)))) (fun _ _ _ _ _ => (peGoM (K := K) rfl T T.m_ways (ok_Record_ways (P := P) (w := w) (base := base) T) hr (pv 5) (pa_cons (pe_ix (ixT (K := K) rfl) (pv 11) pe_int (fun _ _ => rfl)) pa_nil)))) pa_nil)) ip_add)
    (pss_one (ps_set (i := 7) sc_text_index.nd rfl (by first | exact .inl rfl | exact .inr rfl) (pe_ix ix_tup (pe_ix ix_list (pv 10) pe_int (fun _ _ => rfl)) pe_int (fun _ _ => rfl)))))))))
    (pss_cons (ps_if (PW.pt (pw_or (pt_cmpR op_lt (pv 7) (pe_callB call_len_seq (by rfl) T.n_len bt_len (pa_cons (pe_fld (pv 5) (by rfl)) pa_nil)) (nomark _)) (pw_or1 (pt_cmpR op_eq (pe_goM0 T T.m_count (ok_Record_count T) hr (pv 5)) pe_int (nomark _)))))
    (pss_one ps_never) pss_nil)
    (pss_one (ps_ret (pv 6))))))))), ?_⟩
  refine ⟨_, rfl, _, rfl, _, rfl, _, rfl, a, c, h, s, ch, rfl, ra, fun H1 s1 => ?_⟩
  have ra1 := ra.same s1
  refine ⟨_, rfl, _, rfl, a, nb, h, ns, 0, 100, rfl, ra1.hs, ra1.ok, s1.seq hnb, hN, Nat.zero_le _, hns, fun H2 s2 => ?_⟩
  have ra2 := ra1.same s2
  refine ⟨_, rfl, _, rfl, _, rfl, (by decide : 2 ≤ sizeLine), fun sp nsp => ⟨_, rfl, fun x dx nx ndx dne => ?_⟩⟩
  have sS := Same.up (o := .tup [.int (s.lo : Nat), .int (s.hi : Nat)]) nsp
  have ra3 := ra2.same sS
  have hsp : SqT K (upd H2 sp (.tup [.int (s.lo : Nat), .int (s.hi : Nat)])) sp s.vs := SqT.new
  have sM : Same (upd H2 sp (.tup [.int (s.lo : Nat), .int (s.hi : Nat)])) (upd (upd (upd H2 sp (.tup [.int (s.lo : Nat), .int (s.hi : Nat)])) dx (.own x)) x (.ins (ga K "Record") dx [])) := fun b o e => by
    rw [upd_ne (ne_of_none e nx), upd_ne (ne_of_none e ndx)]
    exact e
  have ra4 := ra3.same sM
  refine ⟨x, a, sp, c, dx, h, s, ch, rfl, upd_same, ra4.hs, ra4.ok, sM.seqT hsp, ra4.sok, ra4.hc, ra4.sig, fun H3 k hrec => ⟨rfl, ?_⟩⟩
  have s13 : Same H H3 := fun b o e => by
    have e1 := sS _ _ (s2 _ _ (s1 _ _ e))
    exact k b o (ne_of_none e1 nx) (sM _ _ e1)
  clear sM sS hsp ra4 ra3 ra2 ra1 k s2 s1 nx ndx nsp dne
  have lrs : (rnOf ch).length ≤ 100 := by
    rw [rn_len]
    have := ra.sig.len
    omega
  generalize rnOf ch = rs at pos tix hrec lrs
  obtain ⟨dx, a', sp, rl, rw, rx, rwx, e, ar, hrw, hx, hn⟩ := hrec.ex
  have lrx : rx.length = rs.length := by rw [Paired.length ar.hrx, List.length_map]
  refine ⟨by decide, fun t nt => ⟨t, _, rfl, SqT.new, rfl, _, _, rfl, _, _, rfl, rfl, ?_⟩⟩
  have st := Same.up (o := .tup [.int 0, .int 0]) nt
  refine ⟨_, rfl, nb, rfl, ⟨_, st.seq (s13.seq hnb)⟩, ?_⟩
  refine for_list (xs := iv ns) (fun j σ H' => ∃ (run fnd r : Nat) (y8 y9 y10 : Option V), σ = [some (.ref a), some (.int (s.lo : Nat)), some (.int (s.hi : Nat)), some (.ref c), some (.ref nb), some (.ref x), some (.int (fnd : Nat)), some (.int (run : Nat)), y8, y9, y10, none] ∧ Same H3 H' ∧ TIx h s rs run (ns.drop j) r ∧ fnd + r = idx ∧ run ≤ rs.length)
    ⟨0, 0, idx, none, none, none, rfl, st, tix, Nat.zero_add _, Nat.zero_le _⟩ (fun j σ H' _ hx => ?_) (fun j y σ H' ey hx => ?_) (fun σ H' hx => ?_)
  · obtain ⟨_, _, _, _, _, _, _, sm, _⟩ := hx
    exact sm.seq (s13.seq hnb)
  · obtain ⟨run, fnd, r, y8, y9, y10, rfl, sm, tx, eidx, lr⟩ := hx
    obtain ⟨N, rfl, eN⟩ := atN ey
    have hj : j < ns.length := (List.getElem?_eq_some_iff.mp eN).1
    have ed : ns.drop j = N :: ns.drop (j + 1) := by
      rw [List.drop_eq_getElem_cons hj, (List.getElem?_eq_some_iff.mp eN).2]
    rw [ed] at tx
    cases tx with
    | @cons _ _ l r' _ _ kk hps hln tx' =>
      have e2 := sm _ _ e
      have hrec2 := hrec.same sm
      refine ⟨_, rfl, x, dx, _, rfl, e2, fs_steps _ _ _ _, _, rfl, x, h, s, rs, run, rfl, hrec2, lr, fun H4 l1 xs ps s4 nl1 hl1 hxs sok => ?_⟩
      obtain ⟨pre, post, eps, hpre, hpost, ekk⟩ := hps ps sok
      have hrec4 := hrec2.same s4
      have e4 := s4 _ _ e2
      have lxs : xs.length = ps.length := by rw [Paired.length hxs, List.length_map]
      have lps : ps.length ≤ 4194304 := by
        obtain ⟨qs, q1, q2, q3⟩ := sok.ex
        rw [q3]
        refine Nat.le_trans (List.length_filter_le _ _) ?_
        rw [q1.length_eq]
        have := sh_small ra.ok
        refine Nat.le_trans (lvs_len _ _ _ _) (Nat.le_trans (tsz_le ra.sok (fun r m => ar.rok.all r (List.mem_of_mem_drop m)) (Nat.zero_le _)) ?_)
        exact Nat.le_trans (Nat.pow_le_pow_right (by decide) (show h.stop - 0 ≤ 11 by omega)) (by decide)
      have stl : ∀ st ∈ ps, st.2 ≤ rs.length := fun st m => by
        obtain ⟨qs, q1, q2, q3⟩ := sok.ex
        rw [q3] at m
        have := lvs_ix (q1.mem_iff.mp ((List.mem_filter.mp m).1))
        rw [List.length_drop] at this
        omega
      -- later
      refine ⟨_, rfl, l1, rfl, ⟨_, .inl (.inl hl1)⟩, fun D nD => ?_⟩
      refine cw_list (xs := xs) (fun jj H5 => Same H4 H5 ∧ ∃ ys, H5 D = some (.lst ys) ∧ PL K H5 ys (((ps.take jj).filter fun q => decide (q.1 = N)).map prV)) ⟨Same.up nD, [], upd_same, .nil⟩ (fun jj H5 _ hx => .inl (.inl (hx.1 _ _ hl1))) (fun jj y H5 ey2 hx => ?_) (fun H5 hx => ?_)
      · obtain ⟨sm5, ys, hD, hys⟩ := hx
        obtain ⟨t1, et, ta, rfl, hta⟩ := Paired.getl (hxs.same sm5) ey2
        rw [List.getElem?_map] at et
        obtain ⟨sq, e3, rfl⟩ := Option.map_eq_some_iff.mp et
        refine ⟨rfl, _, rfl, _, _, _, _, rfl, rfl, hta, rfl, _, rfl, rfl, _, rfl, ?_⟩
        rw [take_snoc e3, List.filter_append]
        refine ite2 (fun z => ?_) (fun z => ?_)
        · have eq : sq.1 = N := by
            have := V.int.inj (of_decide_eq_true z)
            omega
          have ef : List.filter (fun q : Nat × Nat => decide (q.1 = N)) [sq] = [sq] := by simp [eq]
          rw [ef]
          refine ⟨_, rfl, ys, hD, small_len (n := 4194304) (by
            rw [Paired.length hys, List.length_map]
            refine Nat.le_trans (List.length_filter_le _ _) ?_
            rw [List.length_take]
            omega), Same.onL nD sm5, _, upd_same, ?_⟩
          rw [List.map_append]
          exact Paired.snoc (hys.onL hD) ⟨ta, rfl, SqT.onL hD hta⟩
        · have neq : ¬ sq.1 = N := fun y => z (decide_eq_true (by rw [← y] <;> rfl))
          have ef : List.filter (fun q : Nat × Nat => decide (q.1 = N)) [sq] = [] := by simp [neq]
          rw [ef, List.append_nil]
          exact ⟨sm5, ys, hD, hys⟩
      · obtain ⟨sm5, ys, hD, hys⟩ := hx
        rw [lxs, List.take_length] at hys
        have efil : ps.filter (fun q => decide (q.1 = N)) = [(N, l)] := by
          rw [eps, List.filter_append, List.filter_cons_of_pos (by simp)]
          have f1 : pre.filter (fun q => decide (q.1 = N)) = [] := List.filter_eq_nil_iff.mpr fun q m z => by
            have := hpre q m
            have := of_decide_eq_true z
            omega
          have f2 : post.filter (fun q => decide (q.1 = N)) = [] := List.filter_eq_nil_iff.mpr fun q m z => by
            have := hpost q m
            have := of_decide_eq_true z
            omega
          rw [f1, f2] <;> rfl
        rw [efil] at hys
        obtain ⟨la, eys, hla⟩ : ∃ la, ys = [.ref la] ∧ SqT K H5 la (prV (N, l)) := by
          cases hys with
          | cons h1 h2 =>
            cases h2
            obtain ⟨la, rfl, hla⟩ := h1
            exact ⟨la, rfl, hla⟩
        subst eys
        refine ⟨_, rfl, by decide, fun e0 ne0 => eq_nil (ds := [.tuple [.int (N : Nat), .int (l : Nat)]]) (n := 2) (.lst (.inl (.inl ((Same.up ne0) _ _ hD))) (.cons (.tup ((Same.up ne0).seqT hla) (.cons (.int _) (.cons (.int _) .nil))) .nil)) SqL.new (shp_rows [[(N : Int), (l : Int)]]) ⟨_, rfl, iteF ?_⟩⟩
        have s6 := Same.up (o := .lst []) ne0
        have sm6 := sm5.trans s6
        have hrec6 := hrec4.same sm6
        have e6 := sm6 _ _ e4
        have hD6 := s6 _ _ hD
        have hla6 := s6.seqT hla
        have hxs6 := hxs.same sm6
        have hl16 := sm6 _ _ hl1
        refine ⟨_, rfl, _, rfl, l1, rfl, ⟨_, .inl (.inl hl16)⟩, fun D2 nD2 => ?_⟩
        refine cw_list (xs := xs) (fun jj H7 => Same (upd H5 e0 (.lst [])) H7 ∧ H7 D2 = some (.lst (iv (((ps.take jj).filter fun q => decide (q.1 < N)).map fun q => wyA h s rs q.2)))) ⟨Same.up nD2, by rw [upd_same, List.take_zero] <;> rfl⟩ (fun jj H7 _ hx => .inl (.inl (hx.1 _ _ hl16))) (fun jj y H7 ey2 hx => ?_) (fun H7 hx => ?_)
        · obtain ⟨sm7, hD7⟩ := hx
          obtain ⟨t1, et, ta, rfl, hta⟩ := Paired.getl (hxs6.same sm7) ey2
          rw [List.getElem?_map] at et
          obtain ⟨sq, e3, rfl⟩ := Option.map_eq_some_iff.mp et
          refine ⟨rfl, _, rfl, _, _, _, _, rfl, rfl, hta, rfl, _, rfl, _, _, rfl, rfl, _, rfl, ?_⟩
          rw [take_snoc e3, List.filter_append]
          refine ite2 (fun z => ?_) (fun z => ?_)
          · have lt : sq.1 < N := by
              have := of_decide_eq_true z
              omega
            have ef : List.filter (fun q : Nat × Nat => decide (q.1 < N)) [sq] = [sq] := by simp [lt]
            rw [ef]
            refine ⟨_, rfl, x, dx, _, rfl, sm7 _ _ e6, fs_ways _ _ _ _, _, rfl, ta, _, _, _, rfl, rfl, hta, rfl, x, h, s, rs, sq.2, rfl, hrec6.same sm7, stl sq (List.mem_of_getElem? e3), _, hD7, small_len (n := 4194304) (by
              rw [List.length_map, List.length_map]
              refine Nat.le_trans (List.length_filter_le _ _) ?_
              rw [List.length_take]
              omega), Same.onL nD2 sm7, ?_⟩
            rw [upd_same, List.map_append]
            unfold iv
            rw [List.map_append]
            rfl
          · have nlt : ¬ sq.1 < N := fun y => z (decide_eq_true (by omega))
            have ef : List.filter (fun q : Nat × Nat => decide (q.1 < N)) [sq] = [] := by simp [nlt]
            rw [ef, List.append_nil]
            exact ⟨sm7, hD7⟩
        · obtain ⟨sm7, hD7⟩ := hx
          rw [lxs, List.take_length] at hD7
          have efil2 : ps.filter (fun q => decide (q.1 < N)) = pre := by
            rw [eps, List.filter_append, List.filter_cons_of_neg (by simp)]
            have f1 : pre.filter (fun q => decide (q.1 < N)) = pre := List.filter_eq_self.mpr fun q m => decide_eq_true (hpre q m)
            have f2 : post.filter (fun q => decide (q.1 < N)) = [] := List.filter_eq_nil_iff.mpr fun q m z => by
              have := hpost q m
              have := of_decide_eq_true z
              omega
            rw [f1, f2, List.append_nil]
          rw [efil2] at hD7
          refine ⟨D2, (pre.map fun q => wyA h s rs q.2).map fun N : Nat => ((N : Nat) : Int), rfl, .inl (.inl (by rw [hD7, List.map_map] <;> rfl)), ?_⟩
          rw [sum_iv, ← ekk]
          refine ⟨_, _, rfl, rfl, ?_⟩
          refine ⟨_, rfl, _, _, _, _, rfl, rfl, .inl (.inl (sm7 _ _ hD6)), rfl, _, _, _, _, rfl, rfl, sm7.seqT hla6, rfl, ?_⟩
          refine ⟨l, fnd + kk, r', some (.int (N : Nat)), some (.ref l1), some (.ref D), ?_, ((sm.trans s4).trans sm6).trans sm7, tx', by omega, hln⟩
          have : ((fnd + kk : Nat) : Int) = ((fnd : Nat) : Int) + ((kk : Nat) : Int) := by omega
          rw [this] <;> rfl
  · obtain ⟨run, fnd, r, y8, y9, y10, rfl, sm, tx, eidx, lr⟩ := hx
    have lz : (iv ns).length = ns.length := List.length_map _
    rw [lz, List.drop_length] at tx
    cases tx with
    | nil er =>
      have e2 := sm _ _ e
      have ar2 := ar.same sm
      refine ⟨_, rfl, _, rfl, x, _, dx, _, _, rfl, e2, T.cl, T.a_kept_runs, fs_runs _ _ _ _, _, _, rfl, .inl ar2.hrl, _, _, rfl, rfl, _, rfl, ite2 (fun z => ?_) (fun _ => ?_)⟩
      · have := of_decide_eq_true z
        omega
      · refine ⟨_, rfl, x, dx, _, rfl, e2, fs_count _ _ _ _, x, h, s, rs, rfl, hrec.same sm, rfl, _, rfl, ite2 (fun z => ?_) (fun _ => ?_)⟩
        · have := V.int.inj (of_decide_eq_true z)
          omega
        · have ef : fnd = idx := by omega
          rw [ef]
          exact ⟨_, rfl, q _ (s13.trans sm)⟩
end
end K89

set_option maxRecDepth 100000
set_option maxHeartbeats 2000000
namespace K89
open PySem PySem.Spec PyProof.Rows L2
theorem sc_sure_numbers : FnScope ["shape", "low", "high", "signal", "record", "found", "runs", "turn", "steps", "numbers", "run", "step", "number", "later"] ["shape", "low", "high", "signal"] (defScope s_sure_numbers) := ⟨rfl, rfl, rfl, by decide +kernel, rfl, by decide +kernel, by decide +kernel⟩
def StepTo (h : Sh) (s : Sn) (rs : List Run) (i N l : Nat) : Prop := (N, l) ∈ lvs h s (rs.drop i) 0 0 i ∧ 0 < wyA h s rs l
theorem stepsOk_mem {h : Sh} {s : Sn} {rs : List Run} {i : Nat} {ps : List (Nat × Nat)} (k : StepsOk h s rs i ps) (q : Nat × Nat) : q ∈ ps ↔ StepTo h s rs i q.1 q.2 := by
  obtain ⟨qs, q1, q2, q3⟩ := k.ex
  rw [q3, List.mem_filter, q1.mem_iff, decide_eq_true_eq]
  exact Iff.rfl
def Rset (h : Sh) (s : Sn) (rs : List Run) : Nat → Nat → Prop
  | 0, i => i = 0
  | k + 1, l => ∃ i N, Rset h s rs k i ∧ StepTo h s rs i N l
def SureAt (h : Sh) (s : Sn) (rs : List Run) (k : Nat) : Option Nat → Prop
  | some N => ∀ i N' l, Rset h s rs k i → StepTo h s rs i N' l → N' = N
  | none => ¬ ∃ N, (∃ i l, Rset h s rs k i ∧ StepTo h s rs i N l) ∧ ∀ i N' l, Rset h s rs k i → StepTo h s rs i N' l → N' = N
theorem putK_old {kvs : List (Key × V)} {k : Key} {v : V} (h : k ∈ kvs.map (·.1)) : (putK kvs k v).map (·.1) = kvs.map (·.1) := by
  have e : (kvs.any fun kv => decide (kv.1 = k)) = true := by
    obtain ⟨p, hp, e⟩ := List.mem_map.mp h
    exact List.any_eq_true.mpr ⟨p, hp, decide_eq_true e⟩
  unfold putK
  rw [if_pos e, List.map_map]
  refine List.map_congr_left fun p _ => ?_
  show (if p.1 = k then (p.1, v) else p).1 = p.1
  split <;> rfl
theorem putK_fresh {kvs : List (Key × V)} {k : Key} {v : V} (h : k ∉ kvs.map (·.1)) : (putK kvs k v).map (·.1) = kvs.map (·.1) ++ [k] := by
  have e : ¬ (kvs.any fun kv => decide (kv.1 = k)) = true := fun z => by
    obtain ⟨p, hp, e⟩ := List.any_eq_true.mp z
    exact h (List.mem_map.mpr ⟨p, hp, of_decide_eq_true e⟩)
  unfold putK
  rw [if_neg e, List.map_append] <;> rfl
def kyN (l : Nat) : Key := .inl (l : Int)
theorem kyN_inj {a b : Nat} (h : kyN a = kyN b) : a = b := by
  have := Sum.inl.inj h
  omega
section
variable {P : Program} {w : World} {K : PySem.W.Frag} {mg : PySem.Str → Option Value} {base : Heap}
theorem ok_sure_numbers (T : Tx K mg) : Good P w K mg base "sure_numbers" 10 ["shape", "low", "high", "signal"] [] (fun vs H Q _ => ∃ (a c : Addr) (h : Sh) (s : Sn) (ch : List Int), vs = rcV a c s ∧ RcArg K H a c h s ch ∧ 0 < wyA h s (rnOf ch) 0 ∧
    (∀ i ps, StepsOk h s (rnOf ch) i ps → ps.length ≤ 512) ∧ (∀ i N l, StepTo h s (rnOf ch) i N l → N < 512) ∧ (meA h s (rnOf ch)).2.1 ≤ 1000 ∧
    ∀ (H' : Hp) (l : Addr) (res : List (Option Nat)), Same H H' → H' l = some (.lst (res.map oV)) → res.length = (meA h s (rnOf ch)).2.1 → (∀ k o, res[k]? = some o → SureAt h s (rnOf ch) k o) → Q (.ref l) H') := by
  refine mkGood T.f_sure_numbers T.g_sure_numbers sc_sure_numbers (fun _ _ _ _ _ _ us hl => match us, hl with | [_, _, _, _], _ => rfl) (fun vs H Q E h => by obtain ⟨_, _, _, _, _, rfl, _⟩ := h; rfl) (fun cdv A outer s H vs Q E hr h => ?_)
  obtain ⟨a, c, h, s, ch, rfl, ra, pos, hsm, hnum, hF, q⟩ := h
  refine ⟨_, (pss_cons (ps_set (i := 4) sc_sure_numbers.nd rfl (by first | exact .inl rfl | exact .inr rfl) (pe_go (ok_require_some T) hr (pa_cons (pv 0) (pa_cons (pv 1) (pa_cons (pv 2) (pa_cons (pv 3) pa_nil))))))
    (pss_cons (ps_par (i := 5) (j := 6) rfl sc_sure_numbers.nd rfl rfl (by decide) rfl rfl (pa_cons (pe_lst pa_nil) (pa_cons (pe_lst (pa_cons pe_int pa_nil)) pa_nil)) (by rfl))
    (pss_cons (ps_for PassesOwn.never rfl (pi_range1 (by rfl) T.n_range (pa_cons (pe_ix ix_tup (pe_goM0 T T.m_measures (ok_Record_measures T) hr (pv 4)) pe_int (fun _ _ => rfl)) pa_nil)) (pg_name (i := 7) sc_sure_numbers.nd rfl (by first | exact .inl rfl | exact .inr rfl))
    (pss_cons (ps_setLc2 (vs1 := [11]) (i := 8) rfl sc_sure_numbers.nd rfl rfl (sw_true (by rfl) (by rfl) (by rfl) (by rfl)) (pi_list (pv 6)) (show BlkOk ["shape", "low", "high", "signal", "record", "found", "runs", "turn", "steps", "numbers", "run", "step", "number", "later"] (defScope s_sure_numbers) _ [("run", 10), ("step", 11)] from blkOk_by (by decide +kernel)) (by decide) (fun _ _ _ _ _ => (pg_name (i := 10) sc_sure_numbers.nd rfl (by first | exact .inl rfl | exact .inr rfl))) (fun _ _ _ _ _ => pts_nil) (fun _ _ _ _ _ => (piL (K := K) rfl (peGoM (K := K) rfl T T.m_steps (ok_Record_steps (P := P) (w := w) (base := base) T) hr (pv 4) (pa_cons (pv 10) pa_nil)))) (fun _ _ _ _ _ => (pg_name (i := 11) sc_sure_numbers.nd rfl (by first | exact .inl rfl | exact .inr rfl))) (fun _ _ _ _ _ => pts_nil) (fun _ _ _ _ _ => (pv 11)))
    (pss_cons (ps_set (i := 9) sc_sure_numbers.nd rfl (by first | exact .inl rfl | exact .inr rfl) (pe_callB (cr_sortedSetA rfl) (by rfl) T.n_sorted bt_sorted (pa_cons (pe_sci rfl sc_sure_numbers.nd (pi_list (pv 8)) (show BlkOk ["shape", "low", "high", "signal", "record", "found", "runs", "turn", "steps", "numbers", "run", "step", "number", "later"] (defScope s_sure_numbers) _ [("number", 12), ("later", 13)] from blkOk_by (by decide +kernel)) (fun _ _ _ _ _ => (pgT (K := K) (n := 2) rfl rfl (pgs_cons (pg_name (i := 12) sc_sure_numbers.nd rfl (by first | exact .inl rfl | exact .inr rfl)) (pgs_cons (pg_name (i := 13) sc_sure_numbers.nd rfl (by first | exact .inl rfl | exact .inr rfl)) pgs_nil)))) (fun _ _ _ _ _ => pts_nil) (fun _ _ _ _ _ => (pv 12))) pa_nil)))
    (pss_cons (ps_expr (pe_bm PySem.F.plainAttrs_list PySem.F.slot_list_append PySem.F.type_list_append mt_append (pv 5) (pa_cons (pe_ifExp (pt_cmpR op_eq (pe_callB call_len_seq (by rfl) T.n_len bt_len (pa_cons (pv 9) pa_nil)) pe_int (nomark _)) (pe_ix ix_list (pv 9) pe_int (fun _ _ => rfl)) pe_non) pa_nil)))
    (pss_one (ps_set (i := 6) sc_sure_numbers.nd rfl (by first | exact .inl rfl | exact .inr rfl) (pe_callTy (call_listD rfl) (by rfl) T.n_list bt_list (pa_cons (pe_dc rfl sc_sure_numbers.nd (pi_list (pv 8)) (show BlkOk ["shape", "low", "high", "signal", "record", "found", "runs", "turn", "steps", "numbers", "run", "step", "number", "later"] (defScope s_sure_numbers) _ [("number", 12), ("later", 13)] from blkOk_by (by decide +kernel)) (fun _ _ _ _ _ => (pgT (K := K) (n := 2) rfl rfl (pgs_cons (pg_name (i := 12) sc_sure_numbers.nd rfl (by first | exact .inl rfl | exact .inr rfl)) (pgs_cons (pg_name (i := 13) sc_sure_numbers.nd rfl (by first | exact .inl rfl | exact .inr rfl)) pgs_nil)))) (fun _ _ _ _ _ => pts_nil) (fun _ _ _ _ _ => (pv 13)) (fun _ _ _ _ _ => pe_bl)) pa_nil))))))))
    (pss_one (ps_ret (pv 5)))))), ?_⟩
  refine ⟨_, rfl, _, rfl, _, rfl, _, rfl, a, c, h, s, ch, rfl, ra, pos, fun H1 x s1 hrec => ?_⟩
  have lrs : (rnOf ch).length ≤ 100 := by
    rw [rn_len]
    have := ra.sig.len
    omega
  generalize rnOf ch = rs at pos hsm hnum hF q hrec lrs
  obtain ⟨dx, a', sp, rl0, rw0, rx, rwx, e, ar, hrw, hx, hn⟩ := hrec.ex
  have stl : ∀ i N l, StepTo h s rs i N l → i ≤ rs.length → l ≤ rs.length := fun i N l st hi => by
    have := lvs_ix st.1
    rw [List.length_drop] at this
    omega
  refine ⟨by decide, fun lf nf => ⟨(by decide : 1 ≤ sizeLine), fun r0 nr0 => ⟨_, _, rfl, ?_⟩⟩⟩
  have s2 := (Same.up (o := .lst []) nf).trans (Same.up (o := .lst [.int 0]) nr0)
  have hf2 := (Same.up (o := .lst [.int 0]) nr0) _ _ (upd_same (H := H1) (a := lf) (o := .lst []))
  have nr0f : r0 ≠ lf := (ne_of_none (upd_same (H := H1) (a := lf) (o := .lst [])) nr0).symm
  have e2 := s2 _ _ e
  refine ⟨_, rfl, x, dx, _, rfl, e2, fs_measures _ _ _ _, x, h, s, rs, rfl, hrec.same s2, fun H3 mp s3 hmp => ⟨_, _, _, _, rfl, rfl, hmp, rfl, ((meA h s rs).2.1 : Nat), rfl, by omega, by omega, ?_⟩⟩
  generalize (meA h s rs).2.1 = F at hF q
  refine for_range (fun t σ H' => ∃ (rl : Addr) (RL : List Nat) (res : List (Option Nat)) (y7 y8 y9 : Option V), σ = [some (.ref a), some (.int (s.lo : Nat)), some (.int (s.hi : Nat)), some (.ref c), some (.ref x), some (.ref lf), some (.ref rl), y7, y8, y9, none, none, none, none] ∧
      Same H1 H' ∧ H' lf = some (.lst (res.map oV)) ∧ res.length = t ∧ (∀ k o, res[k]? = some o → SureAt h s rs k o) ∧ rl ≠ lf ∧ SqL K H' rl (iv RL) ∧ (∀ i, i ∈ RL ↔ Rset h s rs t i) ∧ RL.Nodup ∧ ∀ i ∈ RL, i ≤ rs.length)
    ⟨r0, [0], [], none, none, none, rfl, s2.trans s3, s3 _ _ hf2, rfl, fun k o hk => by simp at hk, nr0f, s3.seq SqL.new, fun i => by rw [List.mem_singleton] <;> rfl, by simp, fun i hi => by
      rw [List.mem_singleton] at hi
      omega⟩ (fun t σ H' ht hx => ?_) (fun σ H' hx => ?_)
  · obtain ⟨rl, RL, res, y7, y8, y9, rfl, sm, hf, hres, hsure, nrl, hrl, hRL, ndRL, leRL⟩ := hx
    rw [Int.toNat_natCast] at ht
    have e3 := sm _ _ e
    have hrec3 := hrec.same sm
    have lRL : RL.length ≤ 101 := by
      have := nd_len (m := List.range (rs.length + 1)) ndRL fun x hx => List.mem_range.mpr (by have := leRL x hx; omega)
      rw [List.length_range] at this
      omega
    have lz : (iv RL).length = RL.length := List.length_map _
    -- the steps of all the runs
    refine ⟨_, rfl, rl, rfl, ⟨_, hrl⟩, fun D nD => ?_⟩
    have nDf : D ≠ lf := (ne_of_none hf nD).symm
    refine cw_list (xs := iv RL) (fun j H2 => Same H' H2 ∧ ∃ ys acc, H2 D = some (.lst ys) ∧ PL K H2 ys (acc.map prV) ∧ acc.length ≤ 512 * j ∧ ∀ q : Nat × Nat, q ∈ acc ↔ ∃ i, i ∈ RL.take j ∧ StepTo h s rs i q.1 q.2)
      ⟨Same.up nD, [], [], upd_same, .nil, Nat.zero_le _, fun q => by simp⟩ (fun j H2 _ hx => hx.1.seq hrl) (fun j y H2 ey hx => ?_) (fun H2 hx => ?_)
    · obtain ⟨sm2, ys, acc, hD, hys, lacc, hacc⟩ := hx
      obtain ⟨i, rfl, ei⟩ := atN ey
      have hi := leRL i (List.mem_of_getElem? ei)
      have hj := (List.getElem?_eq_some_iff.mp ei).1
      refine ⟨rfl, _, rfl, x, dx, _, rfl, sm2 _ _ e3, fs_steps _ _ _ _, _, rfl, x, h, s, rs, i, rfl, hrec3.same sm2, hi, fun H4 l1 xs ps s4 nl1 hl1 hxs sok => ?_⟩
      have hD4 := s4 _ _ hD
      have nl1D : l1 ≠ D := (ne_of_none hD nl1).symm
      have lps := hsm i ps sok
      have lxs : xs.length = ps.length := by rw [Paired.length hxs, List.length_map]
      refine ⟨l1, rfl, ⟨_, .inl (.inl hl1)⟩, ?_⟩
      refine cw_list (xs := xs) (fun jj H5 => Same (hid H4 D) H5 ∧ ∃ zs, H5 D = some (.lst zs) ∧ PL K H5 zs ((acc ++ ps.take jj).map prV)) ⟨hid_same _ _, ys, hD4, by rw [List.take_zero, List.append_nil]; exact hys.same s4⟩ (fun jj H5 _ hx => hx.1.seq (seq_hid (.inl (.inl hl1)) nl1D)) (fun jj z H5 ez hx => ?_) (fun H5 hx => ?_)
      · obtain ⟨sm5, zs, hD5, hzs⟩ := hx
        obtain ⟨t1, et, ta, rfl, hta⟩ := Paired.getl hxs ez
        rw [List.getElem?_map] at et
        obtain ⟨sq, e5, rfl⟩ := Option.map_eq_some_iff.mp et
        have hta5 := sm5.seqT (seqT_hid hta hD4)
        refine ⟨rfl, _, rfl, zs, hD5, small_len (n := 1000000) (by
          rw [Paired.length hzs, List.length_map, List.length_append, List.length_take]
          omega), Same.onL hid_self sm5, _, upd_same, ?_⟩
        rw [take_snoc e5, ← List.append_assoc, List.map_append]
        exact Paired.snoc (hzs.onL hD5) ⟨ta, rfl, SqT.onL hD5 hta5⟩
      · obtain ⟨sm5, zs, hD5, hzs⟩ := hx
        rw [lxs, List.take_length] at hzs
        refine ⟨fun b o eb => sm5 _ _ (by rw [hid_ne (ne_of_none eb nD)]; exact s4 _ _ (sm2 _ _ eb)), zs, acc ++ ps, hD5, hzs, ?_, fun q => ?_⟩
        · rw [List.length_append]
          omega
        · rw [List.mem_append, hacc q, stepsOk_mem sok q, take_snoc ei]
          constructor
          · rintro (⟨i', m, st⟩ | st)
            · exact ⟨i', List.mem_append_left _ m, st⟩
            · exact ⟨i, List.mem_append_right _ List.mem_cons_self, st⟩
          · rintro ⟨i', m, st⟩
            rcases List.mem_append.mp m with m | m
            · exact .inl ⟨i', m, st⟩
            · rw [List.mem_singleton] at m
              subst m
              exact .inr st
    · obtain ⟨sm2, ys, acc, hD, hys, lacc, hacc⟩ := hx
      rw [lz] at lacc hacc
      rw [List.take_length] at hacc
      have hacc2 : ∀ q : Nat × Nat, q ∈ acc ↔ ∃ i, Rset h s rs t i ∧ StepTo h s rs i q.1 q.2 := fun q => by
        rw [hacc q]
        constructor
        · rintro ⟨i, m, st⟩
          exact ⟨i, (hRL i).mp m, st⟩
        · rintro ⟨i, m, st⟩
          exact ⟨i, (hRL i).mpr m, st⟩
      have lys : ys.length = acc.length := by rw [Paired.length hys, List.length_map]
      have sm12 := sm.trans sm2
      have hf3 := sm2 _ _ hf
      -- the numbers
      refine ⟨_, rfl, D, rfl, ⟨_, .inl (.inl hD)⟩, fun D2 nD2 => ?_⟩
      unfold tWalk
      refine cw_list (xs := ys) (fun j H4 => Same H2 H4 ∧ ∃ (S : Int → Bool) (n : Nat) (mem : List Int), H4 D2 = some (SetO w D2 S n) ∧ mem.Nodup ∧ mem.length = n ∧ (∀ z : Int, S z = true ↔ z ∈ mem) ∧ ∀ z : Int, z ∈ mem ↔ ∃ q, q ∈ acc.take j ∧ z = (q.1 : Int))
        ⟨Same.up nD2, _, _, [], upd_same, List.nodup_nil, rfl, fun z => by simp, fun z => by simp⟩ (fun j H4 _ hx => .inl (.inl (hx.1 _ _ hD))) (fun j y H4 ey hx => ?_) (fun H4 hx => ?_)
      · obtain ⟨sm4, S, n, mem, hS, nd, ln, hmem, hacc4⟩ := hx
        obtain ⟨t1, et, ta, rfl, hta⟩ := Paired.getl (hys.same sm4) ey
        rw [List.getElem?_map] at et
        obtain ⟨sq, e5, rfl⟩ := Option.map_eq_some_iff.mp et
        have few : n ≤ 512 := by
          rw [← ln]
          have := nd_len (m := (List.range 512).map fun k : Nat => (k : Int)) nd fun z hz => by
            obtain ⟨q, m, rfl⟩ := (hacc4 z).mp hz
            obtain ⟨i, _, st⟩ := (hacc2 q).mp (List.mem_of_mem_take m)
            exact List.mem_map.mpr ⟨q.1, List.mem_range.mpr (hnum _ _ _ st), rfl⟩
          rw [List.length_map, List.length_range] at this
          exact this
        refine ⟨ta, _, rfl, hta, rfl, _, _, rfl, _, _, rfl, rfl, rfl, ?_⟩
        refine ⟨_, rfl, _, S, n, rfl, hS, Nat.lt_of_le_of_lt (Nat.succ_le_succ few) (by decide), Same.onL nD2 sm4, _, _, (if S (sq.1 : Int) = true then mem else (sq.1 : Int) :: mem), upd_same, ?_, ?_, fun z => ?_, fun z => ?_⟩
        · split
          · exact nd
          · rename_i hns
            exact List.nodup_cons.mpr ⟨fun m => hns ((hmem _).mpr m), nd⟩
        · split
          · exact ln
          · rw [List.length_cons, ln]
        · rw [Bool.or_eq_true, hmem z, decide_eq_true_eq]
          split
          · rename_i hs
            constructor
            · rintro (m | rfl)
              · exact m
              · exact (hmem _).mp hs
            · exact .inl
          · rw [List.mem_cons]
            exact or_comm
        · rw [take_snoc e5]
          have base : (∃ q, q ∈ acc.take j ++ [sq] ∧ z = (q.1 : Int)) ↔ (z ∈ mem ∨ z = (sq.1 : Int)) := by
            rw [hacc4 z]
            constructor
            · rintro ⟨q, m, rfl⟩
              rcases List.mem_append.mp m with m | m
              · exact .inl ⟨q, m, rfl⟩
              · rw [List.mem_singleton] at m
                subst m
                exact .inr rfl
            · rintro (⟨q, m, rfl⟩ | rfl)
              · exact ⟨q, List.mem_append_left _ m, rfl⟩
              · exact ⟨sq, List.mem_append_right _ List.mem_cons_self, rfl⟩
          rw [base]
          split
          · rename_i hs
            constructor
            · exact .inl
            · rintro (m | rfl)
              · exact m
              · exact (hmem _).mp hs
          · rw [List.mem_cons]
            exact or_comm
      · obtain ⟨sm4, S, n, mem, hS, nd, ln, hmem, hacc4⟩ := hx
        rw [lys, List.take_length] at hacc4
        refine ⟨D2, S, n, rfl, hS, fun ns np hsort hns nnp => ?_⟩
        have hns2 : ∀ z : Int, z ∈ ns ↔ ∃ q, q ∈ acc ∧ z = (q.1 : Int) := fun z => by rw [hns z, hmem z, hacc4 z]
        have s5 := Same.up (o := .lst (ns.map V.int)) nnp
        have hf5 := s5 _ _ (sm4 _ _ hf3)
        have npf : np ≠ lf := (ne_of_none (sm4 _ _ hf3) nnp).symm
        -- found.append(..)
        have lfit : (res.map oV).length < sizeLine := small_len (n := 1000) (by rw [List.length_map]; omega)
        have hfin : ∀ (o : Option Nat), SureAt h s rs t o → ∀ (y9 : Option V) (Dn : Ends), (∀ σ' H', (∃ (rl : Addr) (RL : List Nat) (res : List (Option Nat)) (y7 y8 y9 : Option V), σ' = [some (.ref a), some (.int (s.lo : Nat)), some (.int (s.hi : Nat)), some (.ref c), some (.ref x), some (.ref lf), some (.ref rl), y7, y8, y9, none, none, none, none] ∧
              Same H1 H' ∧ H' lf = some (.lst (res.map oV)) ∧ res.length = t + 1 ∧ (∀ k o, res[k]? = some o → SureAt h s rs k o) ∧ rl ≠ lf ∧ SqL K H' rl (iv RL) ∧ (∀ i, i ∈ RL ↔ Rset h s rs (t + 1) i) ∧ RL.Nodup ∧ ∀ i ∈ RL, i ≤ rs.length) → Dn.nx σ' H') →
            tAsg (tCB (fun xs H Q => ∃ (a : Addr) (kvs : List (Key × V)), xs = [V.ref a] ∧ Rd H a (.dK kvs) ∧ ∀ p, H p = none → Q (.ref p) (upd H p (.lst (kvs.map fun kv => kV kv.1)))) (tCons (tDc (iList K (tVar 8)) (gTup K 2 (gCons (gName 12) (gCons (gName 13) gNil))) tYes (tVar 13) (tC (.bl true)) [12, 13]) tNil)) (gName 6) Dn
              [some (.ref a), some (.int (s.lo : Nat)), some (.int (s.hi : Nat)), some (.ref c), some (.ref x), some (.ref lf), some (.ref rl), some (.int (0 + ((t : Nat) : Int))), some (.ref D), y9, none, none, none, none] (upd (upd H4 np (.lst (ns.map V.int))) lf (.lst (res.map oV ++ [oV o]))) := by
          intro o so y9 Dn hDn
          have s6 : Same H1 (upd (upd H4 np (.lst (ns.map V.int))) lf (.lst (res.map oV ++ [oV o]))) := Same.onL nf ((sm12.trans sm4).trans s5)
          have hf6 : (upd (upd H4 np (.lst (ns.map V.int))) lf (.lst (res.map oV ++ [oV o]))) lf = some (.lst ((res ++ [o]).map oV)) := by
            rw [upd_same, List.map_append] <;> rfl
          have hD6 : (upd (upd H4 np (.lst (ns.map V.int))) lf (.lst (res.map oV ++ [oV o]))) D = some (.lst ys) := by
            rw [upd_ne nDf]
            exact s5 _ _ (sm4 _ _ hD)
          have hys6 : PL K (upd (upd H4 np (.lst (ns.map V.int))) lf (.lst (res.map oV ++ [oV o]))) ys (acc.map prV) := ((hys.same sm4).same s5).onL hf5
          generalize upd (upd H4 np (.lst (ns.map V.int))) lf (.lst (res.map oV ++ [oV o])) = H6 at s6 hf6 hD6 hys6
          refine ⟨_, rfl, D, rfl, ⟨_, .inl (.inl hD6)⟩, fun D3 nD3 => ?_⟩
          refine cw_list (xs := ys) (fun j H7 => Same H6 H7 ∧ ∃ (kvs : List (Key × V)) (KL : List Nat), H7 D3 = some (.dK kvs) ∧ kvs.map (·.1) = KL.map kyN ∧ KL.Nodup ∧ ∀ l, l ∈ KL ↔ ∃ q, q ∈ acc.take j ∧ l = q.2)
            ⟨Same.up nD3, [], [], upd_same, rfl, List.nodup_nil, fun l => by simp⟩ (fun j H7 _ hx => .inl (.inl (hx.1 _ _ hD6))) (fun j y H7 ey hx => ?_) (fun H7 hx => ?_)
          · obtain ⟨sm7, kvs, KL, hK, ek, ndK, hKL⟩ := hx
            obtain ⟨t1, et, ta, rfl, hta⟩ := Paired.getl (hys6.same sm7) ey
            rw [List.getElem?_map] at et
            obtain ⟨sq, e5, rfl⟩ := Option.map_eq_some_iff.mp et
            have lK : KL.length ≤ 101 := by
              have := nd_len (m := List.range (rs.length + 1)) ndK fun l hl => by
                obtain ⟨q, m, rfl⟩ := (hKL l).mp hl
                obtain ⟨i, m2, st⟩ := (hacc q).mp (List.mem_of_mem_take m)
                exact List.mem_range.mpr (by have := stl _ _ _ st (leRL i m2); omega)
              rw [List.length_range] at this
              omega
            have lkv : kvs.length = KL.length := by
              have := congrArg List.length ek
              rw [List.length_map, List.length_map] at this
              exact this
            refine ⟨ta, _, rfl, hta, rfl, _, _, rfl, _, _, rfl, rfl, rfl, ?_⟩
            refine ⟨_, rfl, kvs, kyN sq.2, rfl, hK, small_len (n := 1000) (by omega), Same.onL nD3 sm7, putK kvs (kyN sq.2) (.bl true), (if sq.2 ∈ KL then KL else KL ++ [sq.2]), upd_same, ?_, ?_, fun l => ?_⟩
            · by_cases m : sq.2 ∈ KL
              · rw [if_pos m, putK_old (by rw [ek]; exact List.mem_map.mpr ⟨_, m, rfl⟩), ek]
              · rw [if_neg m, putK_fresh (by
                  rw [ek]
                  intro z
                  obtain ⟨l', m', e'⟩ := List.mem_map.mp z
                  rw [kyN_inj e'] at m'
                  exact m m'), ek, List.map_append]
                rfl
            · split
              · exact ndK
              · rename_i m
                exact List.nodup_append.mpr ⟨ndK, by simp, fun a ha b hb => by
                  rw [List.mem_singleton] at hb
                  rw [hb]
                  exact fun z => m (z ▸ ha)⟩
            · rw [take_snoc e5]
              have base : (∃ q, q ∈ acc.take j ++ [sq] ∧ l = q.2) ↔ (l ∈ KL ∨ l = sq.2) := by
                rw [hKL l]
                constructor
                · rintro ⟨q, m, rfl⟩
                  rcases List.mem_append.mp m with m | m
                  · exact .inl ⟨q, m, rfl⟩
                  · rw [List.mem_singleton] at m
                    subst m
                    exact .inr rfl
                · rintro (⟨q, m, rfl⟩ | rfl)
                  · exact ⟨q, List.mem_append_left _ m, rfl⟩
                  · exact ⟨sq, List.mem_append_right _ List.mem_cons_self, rfl⟩
              rw [base]
              split
              · rename_i m
                constructor
                · exact .inl
                · rintro (z | rfl)
                  · exact z
                  · exact m
              · rw [List.mem_append, List.mem_singleton]
          · obtain ⟨sm7, kvs, KL, hK, ek, ndK, hKL⟩ := hx
            rw [lys, List.take_length] at hKL
            refine ⟨D3, kvs, rfl, .inl hK, fun nl nnl => ?_⟩
            have s8 := Same.up (o := .lst (kvs.map fun kv => kV kv.1)) nnl
            have hf8 := s8 _ _ (sm7 _ _ hf6)
            have nnf : nl ≠ lf := (ne_of_none (sm7 _ _ hf6) nnl).symm
            have ekv : (kvs.map fun kv => kV kv.1) = iv KL := by
              have : (kvs.map fun kv => kV kv.1) = (kvs.map (·.1)).map kV := by rw [List.map_map] <;> rfl
              rw [this, ek, List.map_map]
              rfl
            refine hDn _ _ ⟨nl, KL, res ++ [o], some (.int (0 + ((t : Nat) : Int))), some (.ref D), y9, rfl, (s6.trans sm7).trans s8, hf8, by rw [List.length_append, hres] <;> rfl, fun k o' hk => ?_, nnf, ?_, fun l => ?_, ndK, fun l hl => ?_⟩
            · rw [List.getElem?_append] at hk
              split at hk
              · exact hsure k o' hk
              · rename_i hge
                have : k = t := by
                  have := (List.getElem?_eq_some_iff.mp hk).1
                  rw [List.length_singleton] at this
                  omega
                subst this
                rw [hres, Nat.sub_self] at hk
                have : o = o' := by simpa using hk
                rw [← this]
                exact so
            · rw [← ekv]
              exact SqL.new
            · rw [hKL l]
              constructor
              · rintro ⟨q, m, rfl⟩
                obtain ⟨i, hi, st⟩ := (hacc2 q).mp m
                exact ⟨i, q.1, hi, st⟩
              · rintro ⟨i, N, hi, st⟩
                exact ⟨(N, l), (hacc2 (N, l)).mpr ⟨i, hi, st⟩, rfl⟩
            · obtain ⟨q, m, rfl⟩ := (hKL l).mp hl
              obtain ⟨i, m2, st⟩ := (hacc q).mp m
              exact stl _ _ _ st (leRL i m2)
        refine ⟨_, rfl, .inl ⟨rfl, _, .inl (.inl hf5)⟩, _, rfl, np, _, rfl, .inl SqL.new, rfl, _, rfl, ite2 (fun z => ?_) (fun z => ?_)⟩
        · have l1 : ns.length = 1 := by
            have := V.int.inj (of_decide_eq_true z)
            rw [List.length_map] at this
            omega
          obtain ⟨z0, ez0⟩ : ∃ z0, ns = [z0] := by
            match ns, l1 with
            | [z0], _ => exact ⟨z0, rfl⟩
          obtain ⟨q0, m0, eq0⟩ := (hns2 z0).mp (by rw [ez0]; exact List.mem_cons_self)
          have only : ∀ i N' l, Rset h s rs t i → StepTo h s rs i N' l → N' = q0.1 := fun i N' l hi st => by
            have m1 := (hns2 (N' : Int)).mpr ⟨(N', l), (hacc2 (N', l)).mpr ⟨i, hi, st⟩, rfl⟩
            rw [ez0, List.mem_singleton] at m1
            omega
          refine ⟨_, rfl, np, _, 0, .int (q0.1 : Nat), rfl, rfl, SqL.new, ?_, lf, res.map oV, _, rfl, rfl, hf5, lfit, ?_⟩
          · rw [ez0, eq0]
            rfl
          · refine hfin (some q0.1) only (some (.ref np)) _ ?_
            exact fun _ _ z => z
        · refine ⟨lf, res.map oV, _, rfl, rfl, hf5, lfit, ?_⟩
          refine hfin none (fun ⟨N, ⟨i, l, hi, st⟩, hall⟩ => z (decide_eq_true ?_)) (some (.ref np)) _ ?_
          rotate_left
          · exact fun _ _ z => z
          have mN := (hns2 (N : Int)).mpr ⟨(N, l), (hacc2 (N, l)).mpr ⟨i, hi, st⟩, rfl⟩
          have all : ∀ z ∈ ns, z = (N : Int) := fun z hz => by
            obtain ⟨q, m, rfl⟩ := (hns2 z).mp hz
            obtain ⟨i', hi', st'⟩ := (hacc2 q).mp m
            rw [hall _ _ _ hi' st']
          have one : ns.length = 1 := by
            match ns, mN, all, hsort with
            | [z0], _, _, _ => rfl
            | z0 :: z1 :: r, _, all, hsort =>
              have h0 := all z0 List.mem_cons_self
              have h1 := all z1 (List.mem_cons_of_mem _ List.mem_cons_self)
              have := (List.pairwise_cons.mp hsort).1 z1 List.mem_cons_self
              omega
          rw [List.length_map, one] <;> rfl
  · obtain ⟨rl, RL, res, y7, y8, y9, rfl, sm, hf, hres, hsure, _⟩ := hx
    rw [Int.toNat_natCast] at hres
    exact ⟨_, rfl, q _ lf res (s1.trans sm) hf hres hsure⟩
end
end K89

set_option maxRecDepth 100000
set_option maxHeartbeats 2000000
namespace K89
open PySem PySem.Spec PyProof.Rows L2
theorem sc_ceiling : FnScope ["top", "bottom"] ["top", "bottom"] (defScope s_ceiling) := ⟨rfl, rfl, rfl, by decide +kernel, rfl, by decide +kernel, by decide +kernel⟩
theorem sc_stretch : FnScope ["least", "greatest"] ["least", "greatest"] (defScope s_stretch) := ⟨rfl, rfl, rfl, by decide +kernel, rfl, by decide +kernel, by decide +kernel⟩
theorem sc_length_bounds : FnScope ["shape", "receiver", "grain", "wait", "step", "stop", "levels", "late"] ["shape", "receiver"] (defScope s_length_bounds) := ⟨rfl, rfl, rfl, by decide +kernel, rfl, by decide +kernel, by decide +kernel⟩
theorem sc_safe_lengths : FnScope ["shape", "receiver", "least", "greatest"] ["shape", "receiver"] (defScope s_safe_lengths) := ⟨rfl, rfl, rfl, by decide +kernel, rfl, by decide +kernel, by decide +kernel⟩
theorem sc_is_safe_span : FnScope ["shape", "receiver", "low", "high", "least", "greatest"] ["shape", "receiver", "low", "high"] (defScope s_is_safe_span) := ⟨rfl, rfl, rfl, by decide +kernel, rfl, by decide +kernel, by decide +kernel⟩
def lateI (h : Sh) (r : Rc) : Int := -(-((r.g : Int) * ((r.w : Int) + (r.st : Int) * ((h.n : Int) - 1) + 1)) / (h.n : Int))
def lbLo (h : Sh) (r : Rc) : Int := if lateI h r > (r.g : Int) * ((r.w : Int) + 1) then lateI h r else (r.g : Int) * ((r.w : Int) + 1)
def lbHi (h : Sh) (r : Rc) : Int := (r.g : Int) * ((r.w : Int) + (r.st : Int) * (h.stop : Int)) / (h.stop : Int)
section
variable {P : Program} {w : World} {K : PySem.W.Frag} {mg : PySem.Str → Option Value} {base : Heap}
theorem ok_ceiling (T : Tx K mg) : Good P w K mg base "ceiling" 1 ["top", "bottom"] [] (fun vs H Q _ => ∃ i j : Int, vs = [.int i, .int j] ∧ 0 < j ∧ j < 2 ^ 100 ∧ Q (.int (-(-i / j))) H) := by
  refine mkGood T.f_ceiling T.g_ceiling sc_ceiling (fun _ _ _ _ _ _ us hl => match us, hl with | [_, _], _ => rfl) (fun vs H Q E h => by obtain ⟨_, _, rfl, _⟩ := h; rfl) (fun cdv A outer s H vs Q E hr h => ?_)
  obtain ⟨i, j, rfl, h0, h1, q⟩ := h
  refine ⟨_, (pss_one (ps_ret (pe_un un_neg (pe_op op_fdivW (pe_un un_neg (pv 0)) (pv 1))))), ?_⟩
  exact ⟨_, rfl, _, rfl, _, rfl, _, _, rfl, rfl, ⟨h0, log2_lt (by omega) (Int.lt_of_lt_of_le h1 (by decide +kernel))⟩, _, rfl, q⟩
theorem ok_stretch (T : Tx K mg) : Good P w K mg base "stretch" 1 ["least", "greatest"] [] (fun vs H Q _ => ∃ i j : Int, vs = [.int i, .int j] ∧ (j < i → Q .non H) ∧ (i ≤ j → ∀ H' p, Same H H' → SqT K H' p [.int i, .int j] → Q (.ref p) H')) := by
  refine mkGood T.f_stretch T.g_stretch sc_stretch (fun _ _ _ _ _ _ us hl => match us, hl with | [_, _], _ => rfl) (fun vs H Q E h => by obtain ⟨_, _, rfl, _⟩ := h; rfl) (fun cdv A outer s H vs Q E hr h => ?_)
  obtain ⟨i, j, rfl, q1, q2⟩ := h
  refine ⟨_, (pss_cons (ps_if (pt_cmpR op_gt (pv 0) (pv 1) (nomark _))
    (pss_one (ps_ret pe_non)) pss_nil)
    (pss_one (ps_ret (pe_tup (pa_cons (pv 0) (pa_cons (pv 1) pa_nil)))))), ?_⟩
  refine ⟨_, rfl, _, rfl, _, _, rfl, rfl, _, rfl, ite2 (fun z => q1 (of_decide_eq_true z)) (fun z => ?_)⟩
  have : ¬ j < i := fun y => z (decide_eq_true y)
  exact ⟨_, rfl, _, rfl, (by decide : 2 ≤ sizeLine), fun p np => q2 (by omega) _ p (Same.up np) SqT.new⟩
theorem ok_length_bounds (T : Tx K mg) : Good P w K mg base "length_bounds" 3 ["shape", "receiver"] [] (fun vs H Q _ => ∃ (a b : Addr) (h : Sh) (r : Rc), vs = [.ref a, .ref b] ∧ SqT K H a h.vs ∧ h.Ok ∧ SqT K H b r.vs ∧ r.Ok ∧ ∀ H' p, Same H H' → SqT K H' p [.int (lbLo h r), .int (lbHi h r)] → Q (.ref p) H') := by
  refine mkGood T.f_length_bounds T.g_length_bounds sc_length_bounds (fun _ _ _ _ _ _ us hl => match us, hl with | [_, _], _ => rfl) (fun vs H Q E h => by obtain ⟨_, _, _, _, rfl, _⟩ := h; rfl) (fun cdv A outer s H vs Q E hr h => ?_)
  obtain ⟨a, b, h, r, rfl, hs, ok, hb, rok, q⟩ := h
  refine ⟨_, (pss_cons (ps_asg (pv 1) (pg_tup rfl (pgs_cons (pg_name (i := 2) sc_length_bounds.nd rfl (by first | exact .inl rfl | exact .inr rfl)) (pgs_cons (pg_name (i := 3) sc_length_bounds.nd rfl (by first | exact .inl rfl | exact .inr rfl)) (pgs_cons (pg_name (i := 4) sc_length_bounds.nd rfl (by first | exact .inl rfl | exact .inr rfl)) pgs_nil)))))
    (pss_cons (ps_par (i := 5) (j := 6) rfl sc_length_bounds.nd rfl rfl (by decide) rfl rfl (pa_cons (pe_go (ok_first_stop T) hr (pa_cons (pv 0) pa_nil)) (pa_cons (pe_go (ok_frame_size T) hr (pa_cons (pv 0) pa_nil)) pa_nil)) (by rfl))
    (pss_cons (ps_set (i := 7) sc_length_bounds.nd rfl (by first | exact .inl rfl | exact .inr rfl) (pe_go (ok_ceiling T) hr (pa_cons (pe_op op_mul (pv 2) (pe_op op_add (pe_op op_add (pv 3) (pe_op op_mul (pv 4) (pe_op op_sub (pv 6) pe_int))) pe_int)) (pa_cons (pv 6) pa_nil))))
    (pss_one (ps_ret (pe_tup (pa_cons (pe_callB (call_max2 rfl) (by rfl) T.n_max bt_max (pa_cons (pe_op op_mul (pv 2) (pe_op op_add (pv 3) pe_int)) (pa_cons (pv 7) pa_nil))) (pa_cons (pe_op op_fdivW (pe_op op_mul (pv 2) (pe_op op_add (pv 3) (pe_op op_mul (pv 4) (pv 5)))) (pv 5)) pa_nil)))))))), ?_⟩
  obtain ⟨b1, b2, b3, b4, b5⟩ := sh_small ok
  have gb := rok.big
  have sb := rok.bs
  refine ⟨_, rfl, b, _, rfl, hb, rfl, _, _, rfl, _, _, rfl, _, _, rfl, rfl, ?_⟩
  refine ⟨_, rfl, a, h, rfl, hs, ok, _, rfl, a, h, rfl, hs, ok, _, _, rfl, ?_⟩
  refine ⟨_, rfl, _, rfl, _, rfl, _, rfl, _, _, rfl, rfl, _, _, rfl, rfl, .inl ⟨by omega, by omega⟩, _, _, rfl, rfl, _, _, rfl, rfl, _, _, rfl, rfl, .inl ⟨by omega, by omega⟩, _, rfl, _, (h.n : Int), rfl, by omega, by omega, ?_⟩
  refine ⟨_, rfl, _, rfl, _, _, rfl, rfl, _, _, rfl, rfl, .inl ⟨by omega, by omega⟩, _, rfl, _, _, rfl, ?_⟩
  refine ⟨_, rfl, _, rfl, _, rfl, _, rfl, _, _, rfl, rfl, .inl ⟨by omega, by omega⟩, _, _, rfl, rfl, _, _, rfl, rfl, .inl ⟨by omega, by omega⟩, _, rfl, _, _, rfl, rfl, ⟨by omega, log2_lt (by omega) (Int.lt_of_lt_of_le (show ((h.stop : Nat) : Int) < 2 ^ 100 by omega) (by decide +kernel))⟩, (by decide : 2 ≤ sizeLine), fun p np => ?_⟩
  exact q _ p (Same.up np) SqT.new
theorem ok_safe_lengths (T : Tx K mg) : Good P w K mg base "safe_lengths" 5 ["shape", "receiver"] [] (fun vs H Q _ => ∃ (a b : Addr) (h : Sh) (r : Rc), vs = [.ref a, .ref b] ∧ SqT K H a h.vs ∧ h.Ok ∧ SqT K H b r.vs ∧ r.Ok ∧
    (lbHi h r < lbLo h r → ∀ H', Same H H' → Q .non H') ∧ (lbLo h r ≤ lbHi h r → ∀ H' p, Same H H' → SqT K H' p [.int (lbLo h r), .int (lbHi h r)] → Q (.ref p) H')) := by
  refine mkGood T.f_safe_lengths T.g_safe_lengths sc_safe_lengths (fun _ _ _ _ _ _ us hl => match us, hl with | [_, _], _ => rfl) (fun vs H Q E h => by obtain ⟨_, _, _, _, rfl, _⟩ := h; rfl) (fun cdv A outer s H vs Q E hr h => ?_)
  obtain ⟨a, b, h, r, rfl, hs, ok, hb, rok, q1, q2⟩ := h
  refine ⟨_, (pss_cons (ps_expr (pe_go (ok_require_shape T) hr (pa_cons (pv 0) pa_nil)))
    (pss_cons (ps_expr (pe_go (ok_require_receiver T) hr (pa_cons (pv 1) pa_nil)))
    (pss_cons (ps_asg (pe_go (ok_length_bounds T) hr (pa_cons (pv 0) (pa_cons (pv 1) pa_nil))) (pg_tup rfl (pgs_cons (pg_name (i := 2) sc_safe_lengths.nd rfl (by first | exact .inl rfl | exact .inr rfl)) (pgs_cons (pg_name (i := 3) sc_safe_lengths.nd rfl (by first | exact .inl rfl | exact .inr rfl)) pgs_nil))))
    (pss_one (ps_ret (pe_go (ok_stretch T) hr (pa_cons (pv 2) (pa_cons (pv 3) pa_nil)))))))), ?_⟩
  refine ⟨_, rfl, a, h, rfl, hs, ok, fun H1 s1 => ⟨_, rfl, b, r, rfl, s1.seqT hb, rok, fun H2 s2 => ?_⟩⟩
  have s12 := s1.trans s2
  refine ⟨_, rfl, _, rfl, a, b, h, r, rfl, s12.seqT hs, ok, s12.seqT hb, rok, fun H3 p s3 hp => ⟨p, _, rfl, hp, rfl, _, _, rfl, _, _, rfl, rfl, ?_⟩⟩
  refine ⟨_, rfl, _, rfl, _, _, rfl, fun z => q1 z _ (s12.trans s3), fun z H4 p4 s4 hp4 => q2 z _ p4 ((s12.trans s3).trans s4) hp4⟩
theorem ok_is_safe_span (T : Tx K mg) : Good P w K mg base "is_safe_span" 5 ["shape", "receiver", "low", "high"] [] (fun vs H Q _ => ∃ (a b : Addr) (h : Sh) (r : Rc) (lo hi : Int), vs = [.ref a, .ref b, .int lo, .int hi] ∧ SqT K H a h.vs ∧ h.Ok ∧ SqT K H b r.vs ∧ r.Ok ∧
    1 ≤ lo ∧ lo ≤ hi ∧ lbLo h r ≤ lo ∧ hi ≤ lbHi h r ∧ ∀ H', Same H H' → Q (.bl true) H') := by
  refine mkGood T.f_is_safe_span T.g_is_safe_span sc_is_safe_span (fun _ _ _ _ _ _ us hl => match us, hl with | [_, _, _, _], _ => rfl) (fun vs H Q E h => by obtain ⟨_, _, _, _, _, _, rfl, _⟩ := h; rfl) (fun cdv A outer s H vs Q E hr h => ?_)
  obtain ⟨a, b, h, r, lo, hi, rfl, hs, ok, hb, rok, h1, h2, h3, h4, q⟩ := h
  refine ⟨_, (pss_cons (ps_expr (pe_go (ok_require_shape T) hr (pa_cons (pv 0) pa_nil)))
    (pss_cons (ps_expr (pe_go (ok_require_receiver T) hr (pa_cons (pv 1) pa_nil)))
    (pss_cons (ps_expr (pe_go (ok_require_span T) hr (pa_cons (pv 2) (pa_cons (pv 3) pa_nil))))
    (pss_cons (ps_asg (pe_go (ok_length_bounds T) hr (pa_cons (pv 0) (pa_cons (pv 1) pa_nil))) (pg_tup rfl (pgs_cons (pg_name (i := 4) sc_is_safe_span.nd rfl (by first | exact .inl rfl | exact .inr rfl)) (pgs_cons (pg_name (i := 5) sc_is_safe_span.nd rfl (by first | exact .inl rfl | exact .inr rfl)) pgs_nil))))
    (pss_one (ps_ret (pe_and (pe_cmpR op_le (pv 4) (pv 2) (nomark _)) (pe_one (pe_cmpR op_le (pv 3) (pv 5) (nomark _)))))))))), ?_⟩
  refine ⟨_, rfl, a, h, rfl, hs, ok, fun H1 s1 => ⟨_, rfl, b, r, rfl, s1.seqT hb, rok, fun H2 s2 => ?_⟩⟩
  have s12 := s1.trans s2
  refine ⟨_, rfl, _, rfl, lo, hi, rfl, h1, h2, ?_⟩
  refine ⟨_, rfl, _, rfl, a, b, h, r, rfl, s12.seqT hs, ok, s12.seqT hb, rok, fun H3 p s3 hp => ⟨p, _, rfl, hp, rfl, _, _, rfl, _, _, rfl, rfl, ?_⟩⟩
  refine ⟨_, rfl, _, rfl, _, _, rfl, rfl, true, ?_, iteT ⟨_, rfl, _, rfl, _, _, rfl, rfl, ?_⟩⟩
  · exact congrArg V.bl (decide_eq_true h3)
  · show Q (.bl (decide (hi ≤ lbHi h r))) H3
    rw [decide_eq_true h4]
    exact q _ (s12.trans s3)
end
end K89

set_option maxRecDepth 100000
set_option maxHeartbeats 2000000
namespace K89
open PySem PySem.Spec PyProof.Rows L2
theorem sc_law_source : FnScope ["_law_script", "_law_at", "_law_cell", "_law_left"] ["_law_script", "_law_at"] (defScope s_law_source) := ⟨rfl, rfl, rfl, by decide +kernel, rfl, by decide +kernel, by decide +kernel⟩
theorem sc_law_draw : FnScope ["_law_source_here", "_law_many", "_law_drawn", "_law_mixed"] ["_law_source_here", "_law_many"] (defScope s_law_draw) := ⟨rfl, rfl, rfl, by decide +kernel, rfl, by decide +kernel, by decide +kernel⟩
/-- what stands at the source: so many draws at most -/
def SrcO (o : HO) (B : Nat) : Prop := ∃ l c k : Int, o = .lst [.int l, .int c, .int k] ∧ 0 ≤ l ∧ 0 ≤ c ∧ c < 2 ^ 64 ∧ 0 ≤ k ∧ k ≤ (B : Nat)
/-- from H to H1 the source alone has changed, B draws at most by now -/
structure Lw (src : Addr) (H H1 : Hp) (B : Nat) : Prop where
  same : Same (hid H src) H1
  src : ∃ o, H1 src = some o ∧ SrcO o B
theorem hid_hid {H : Hp} {l : Addr} : hid (hid H l) l = hid H l := by
  funext x
  unfold hid
  split <;> rfl
theorem Lw.trans {src : Addr} {H H1 H2 : Hp} {B B2 : Nat} (a : Lw src H H1 B) (b : Lw src H1 H2 B2) : Lw src H H2 B2 := ⟨fun x o e => b.same _ _ (by
  have e1 := a.same x o e
  have ne : x ≠ src := fun z => by
    rw [z, hid_self] at e
    cases e
  rw [hid_ne ne]
  exact e1), b.src⟩
theorem Lw.pure {src : Addr} {H H1 H2 : Hp} {B : Nat} (a : Lw src H H1 B) (s : Same H1 H2) : Lw src H H2 B := ⟨a.same.trans s, by
  obtain ⟨o, h1, h2⟩ := a.src
  exact ⟨o, s _ _ h1, h2⟩⟩
theorem Lw.mono {src : Addr} {H H1 : Hp} {B B2 : Nat} (a : Lw src H H1 B) (h : B ≤ B2) : Lw src H H1 B2 := ⟨a.same, by
  obtain ⟨o, h1, l, c, k, e, a1, a2, a3, a4, a5⟩ := a.src
  exact ⟨o, h1, l, c, k, e, a1, a2, a3, a4, by omega⟩⟩
theorem Lw.refl {src : Addr} {H : Hp} {o : HO} {B : Nat} (h : H src = some o) (s : SrcO o B) : Lw src H H B := ⟨hid_same _ _, o, h, s⟩
theorem Lw.list {src : Addr} {H H1 : Hp} {B : Nat} (a : Lw src H H1 B) : ∃ xs, H1 src = some (.lst xs) := by
  obtain ⟨o, h1, l, c, k, e, _⟩ := a.src
  exact ⟨_, by rw [h1, e]⟩
theorem Lw.seqT {K : PySem.W.Frag} {src x : Addr} {H H1 : Hp} {B : Nat} {xs ys : List V} (a : Lw src H H1 B) (h0 : H src = some (.lst ys)) (h : SqT K H x xs) : SqT K H1 x xs := a.same.seqT (seqT_hid h h0)
theorem Lw.seq {K : PySem.W.Frag} {src x : Addr} {H H1 : Hp} {B : Nat} {xs : List V} (a : Lw src H H1 B) (ne : x ≠ src) (h : SqL K H x xs) : SqL K H1 x xs := a.same.seq (seq_hid h ne)
theorem pow_pos38 : (0 : Int) < 10 ^ (38 : Int).toNat + 133 := by decide +kernel
theorem pow_pos41 : (0 : Int) < 10 ^ (41 : Int).toNat + 217 := by decide +kernel
theorem log_small {i : Int} (h0 : 0 ≤ i) (h : i < 2 ^ 8000) : i.natAbs.log2 < 1000000 := Nat.lt_trans (log2_lt h0 h) (by decide)
theorem big8000 {i : Int} (h : i < 2 ^ 200) : i < 2 ^ 8000 := Int.lt_of_lt_of_le h (by decide +kernel)
section
variable {P : Program} {w : World} {K : PySem.W.Frag} {mg : PySem.Str → Option Value} {base : Heap}
theorem ok_law_source (T : Tx K mg) : Good P w K mg base "_law_source" 1 ["_law_script", "_law_at"] [] (fun vs H Q _ => ∃ (sc : Addr) (ns : List Int) (i : Nat), vs = [.ref sc, .int (i : Nat)] ∧ SqL K H sc (zv ns) ∧ i ≤ 10 ∧ ∀ p o, H p = none → SrcO o 0 → Q (.ref p) (upd H p o)) := by
  refine mkGood T.f_law_source T.g_law_source sc_law_source (fun _ _ _ _ _ _ us hl => match us, hl with | [_, _], _ => rfl) (fun vs H Q E h => by obtain ⟨_, _, _, rfl, _⟩ := h; rfl) (fun cdv A outer s H vs Q E hr h => ?_)
  obtain ⟨sc, ns, i, rfl, hs, hi, q⟩ := h
  refine ⟨_, (pss_cons (ps_set (i := 2) sc_law_source.nd rfl (by first | exact .inl rfl | exact .inr rfl) (pe_ifExp (pt_cmpR op_lt (pv 1) (pe_callB call_len_seq (by rfl) T.n_len bt_len (pa_cons (pv 0) pa_nil)) (nomark _)) (pe_ix ix_list (pv 0) (pv 1) (fun _ _ => rfl)) pe_int))
    (pss_cons (ps_set (i := 3) sc_law_source.nd rfl (by first | exact .inl rfl | exact .inr rfl) (pe_ifExp (pt_cmpR op_ge (pe_callB call_abs (by rfl) T.n_abs bt_abs (pa_cons (pv 2) pa_nil)) (pe_op op_pow pe_int pe_int) (nomark _)) (pe_op op_sub (pe_callB call_abs (by rfl) T.n_abs bt_abs (pa_cons (pv 2) pa_nil)) (pe_op op_pow pe_int pe_int)) pe_int))
    (pss_one (ps_ret (pe_lst (pa_cons (pv 3) (pa_cons (pe_op op_add (pe_op op_mod (pe_callTy call_int1 (by rfl) T.n_int bt_int (pa_cons (pv 2) pa_nil)) pe_int) (pe_op op_mul pe_int (pv 1))) (pa_cons pe_int pa_nil)))))))), ?_⟩
  have lz : (zv ns).length = ns.length := List.length_map _
  have e61 : (0 : Int) < 2305843009213693951 := by decide
  have rest : ∀ (cell : Int) (D : L2.St → Hp → Prop) (y3 : Option V), (∀ l : Int, 0 ≤ l → D [some (.ref sc), some (.int (i : Nat)), some (.int cell), some (.int l)] H) →
      ∃ x, [some (V.ref sc), some (.int (i : Nat)), some (.int cell), y3][2]? = some (some x) ∧ ∃ j, [x] = [.int j] ∧ ∃ a b : Int, (V.int (if j < 0 then -j else j)) = .int a ∧ V.int (10 ^ (18 : Int).toNat) = .int b ∧ ∃ k : Bool, V.bl (decide (b ≤ a)) = .bl k ∧
        (k = true → D [some (.ref sc), some (.int (i : Nat)), some (.int cell), some (.int ((if cell < 0 then -cell else cell) - 10 ^ (18 : Int).toNat))] H) ∧ (k = false → D [some (.ref sc), some (.int (i : Nat)), some (.int cell), some (.int 0)] H) := by
    intro cell D y3 hD
    refine ⟨_, rfl, cell, rfl, _, _, rfl, rfl, _, rfl, fun z => hD _ ?_, fun _ => hD _ (Int.le_refl _)⟩
    have := of_decide_eq_true z
    omega
  have fin : ∀ (cell l : Int), 0 ≤ l → ∀ p, H p = none → Q (.ref p) (upd H p (.lst [.int l, .int (cell % 2305843009213693951 + 1000003 * (i : Nat)), .int 0])) := fun cell l hl p np => by
    refine q p _ np ⟨l, _, 0, rfl, hl, ?_, ?_, by omega, by omega⟩
    · have := Int.emod_nonneg cell (show (2305843009213693951 : Int) ≠ 0 by decide)
      omega
    · have := Int.emod_lt_of_pos cell e61
      omega
  have two : ∀ (cell : Int) (y3 : Option V), (tSeq (tAsg (tIf (tTest (tOp (rI0 fun i j => .bl (decide (j ≤ i))) (tCB (fun xs H Q => ∃ i, xs = [.int i] ∧ Q (.int (if i < 0 then -i else i)) H) (tCons (tVar 2) tNil)) (tOp (rI CPow fun i j => .int (i ^ j.toNat)) (tC (.int 10)) (tC (.int 18)))))
        (tOp (rI0 fun i j => .int (i - j)) (tCB (fun xs H Q => ∃ i, xs = [.int i] ∧ Q (.int (if i < 0 then -i else i)) H) (tCons (tVar 2) tNil)) (tOp (rI CPow fun i j => .int (i ^ j.toNat)) (tC (.int 10)) (tC (.int 18)))) (tC (.int 0))) (gName 3))
      (tRet (tLst (tCons (tVar 3) (tCons (tOp (rI0 fun i j => .int (i + j)) (tOp (rI (fun _ j => 0 < j) fun i j => .int (i % j)) (tCB (fun xs H Q => (∃ i, xs = [.int i] ∧ Q (.int i) H) ∨ ∃ k, xs = [.bl k] ∧ Q (.int (if k then 1 else 0)) H) (tCons (tVar 2) tNil)) (tC (.int 2305843009213693951))) (tOp (rI CMul fun i j => .int (i * j)) (tC (.int 1000003)) (tVar 1))) (tCons (tC (.int 0)) tNil))))))
      { nx := fun _ H' => Q .non H', rt := Q } [some (V.ref sc), some (.int (i : Nat)), some (.int cell), y3] H := by
    intro cell y3
    have c18 : CPow 10 18 := ⟨by decide, by decide, by decide⟩
    have ret : ∀ l : Int, 0 ≤ l → (tRet (tLst (tCons (tVar 3) (tCons (tOp (rI0 fun i j => .int (i + j)) (tOp (rI (fun _ j => 0 < j) fun i j => .int (i % j)) (tCB (fun xs H Q => (∃ i, xs = [.int i] ∧ Q (.int i) H) ∨ ∃ k, xs = [.bl k] ∧ Q (.int (if k then 1 else 0)) H) (tCons (tVar 2) tNil)) (tC (.int 2305843009213693951))) (tOp (rI CMul fun i j => .int (i * j)) (tC (.int 1000003)) (tVar 1))) (tCons (tC (.int 0)) tNil)))))
        { nx := fun _ H' => Q .non H', rt := Q } [some (V.ref sc), some (.int (i : Nat)), some (.int cell), some (.int l)] H := fun l hl =>
      ⟨_, rfl, _, rfl, .inl ⟨_, rfl, _, _, rfl, rfl, e61, _, rfl, _, _, rfl, rfl, .inl ⟨by decide, by decide⟩, _, _, rfl, rfl, (by decide : 3 ≤ sizeLine), fun p np => fin cell l hl p np⟩⟩
    refine ⟨_, rfl, _, rfl, _, _, rfl, rfl, c18, _, _, rfl, rfl, _, rfl, ite2 (fun z => ?_) (fun _ => ret 0 (Int.le_refl _))⟩
    refine ⟨_, rfl, _, rfl, _, _, rfl, rfl, c18, _, _, rfl, rfl, ret _ ?_⟩
    have := of_decide_eq_true z
    omega
  refine ⟨_, rfl, _, rfl, _, _, rfl, .inl hs, _, _, rfl, rfl, _, rfl, ite2 (fun z => ?_) (fun _ => two 0 none)⟩
  have lt : i < ns.length := by
    have := of_decide_eq_true z
    omega
  exact ⟨_, rfl, _, rfl, _, _, _, _, rfl, rfl, hs, atI_nat (toZ (List.getElem?_eq_getElem lt)), two _ none⟩
def spDraw (K : PySem.W.Frag) : Sp := fun vs H Q _ => ∃ (src : Addr) (o : HO) (B : Nat) (many : Int), vs = [.ref src, .int many] ∧ H src = some o ∧ SrcO o B ∧ B ≤ 10 ^ 15 ∧ 0 < many ∧ many < 2 ^ 200 ∧ ∀ r H', 0 ≤ r → r < many → Lw src H H' (B + 1) → Q (.int r) H'
theorem ok_law_draw (T : Tx K mg) : Good P w K mg base "_law_draw" 1 ["_law_source_here", "_law_many"] [] (spDraw K) := by
  refine mkGood T.f_law_draw T.g_law_draw sc_law_draw (fun _ _ _ _ _ _ us hl => match us, hl with | [_, _], _ => rfl) (fun vs H Q E h => by obtain ⟨_, _, _, _, rfl, _⟩ := h; rfl) (fun cdv A outer s H vs Q E hr h => ?_)
  obtain ⟨src, o, B, many, rfl, hsrc, ⟨l, c, k, rfl, l0, c0, c1, k0, k1⟩, hB, m0, m1, q⟩ := h
  refine ⟨_, (pss_cons (ps_if (pt_cmpR op_gt (pe_ix ix_list (pv 0) pe_int (fun _ _ => rfl)) pe_int (nomark _))
    (pss_cons (ps_set (i := 2) sc_law_draw.nd rfl (by first | exact .inl rfl | exact .inr rfl) (pe_op op_mod (pe_callTy call_int1 (by rfl) T.n_int bt_int (pa_cons (pe_ix ix_list (pv 0) pe_int (fun _ _ => rfl)) pa_nil)) (pv 1)))
    (pss_cons (ps_asg (pe_op op_fdivW (pe_ix ix_list (pv 0) pe_int (fun _ _ => rfl)) (pv 1)) (pg_sub (pv 0) pe_int set_list))
    (pss_one (ps_ret (pv 2))))) pss_nil)
    (pss_cons (ps_asg (pe_op op_add (pe_ix ix_list (pv 0) pe_int (fun _ _ => rfl)) pe_int) (pg_sub (pv 0) pe_int set_list))
    (pss_cons (ps_set (i := 3) sc_law_draw.nd rfl (by first | exact .inl rfl | exact .inr rfl) (pe_op op_add (pe_ix ix_list (pv 0) pe_int (fun _ _ => rfl)) (pe_op op_mul pe_int (pe_ix ix_list (pv 0) pe_int (fun _ _ => rfl)))))
    (pss_cons (ps_set (i := 3) sc_law_draw.nd rfl (by first | exact .inl rfl | exact .inr rfl) (pe_op op_add (pe_op op_mod (pe_callTy call_int1 (by rfl) T.n_int bt_int (pa_cons (pe_op op_cube (pv 3) pe_int) pa_nil)) (pe_op op_add (pe_op op_pow pe_int pe_int) pe_int)) (pe_op op_mul pe_int (pe_ix ix_list (pv 0) pe_int (fun _ _ => rfl)))))
    (pss_cons (ps_set (i := 3) sc_law_draw.nd rfl (by first | exact .inl rfl | exact .inr rfl) (pe_op op_mod (pe_callTy call_int1 (by rfl) T.n_int bt_int (pa_cons (pe_op op_cube (pv 3) pe_int) pa_nil)) (pe_op op_add (pe_op op_pow pe_int pe_int) pe_int)))
    (pss_one (ps_ret (pe_op op_mod (pe_callTy call_int1 (by rfl) T.n_int bt_int (pa_cons (pe_op op_fdivW (pv 3) pe_int) pa_nil)) (pv 1))))))))), ?_⟩
  have lm := log2_lt (Int.le_of_lt m0) (big8000 m1)
  refine ⟨_, rfl, _, _, _, _, rfl, rfl, .inl (.inl hsrc), rfl, _, _, rfl, rfl, _, rfl, ite2 (fun z => ?_) (fun z => ?_)⟩
  · refine ⟨_, rfl, _, _, _, _, rfl, rfl, .inl (.inl hsrc), rfl, .inl ⟨_, rfl, _, rfl, _, _, rfl, rfl, m0, ?_⟩⟩
    refine ⟨_, rfl, _, _, _, _, rfl, rfl, .inl (.inl hsrc), rfl, _, rfl, _, _, rfl, rfl, ⟨m0, lm⟩, _, rfl, src, _, 0, 0, rfl, rfl, hsrc, rfl, ?_⟩
    refine ⟨_, rfl, q _ _ (Int.emod_nonneg _ (by omega)) (Int.emod_lt_of_pos _ m0) ⟨Same.onL hid_self (hid_same _ _), _, upd_same, l / many, c, k, rfl, Int.ediv_nonneg l0 (Int.le_of_lt m0), c0, c1, k0, by omega⟩⟩
  · refine ⟨_, rfl, _, _, _, _, rfl, rfl, .inl (.inl hsrc), rfl, _, _, rfl, rfl, _, rfl, src, _, 2, 2, rfl, rfl, hsrc, rfl, ?_⟩
    have h2 : (upd H src (.lst (([.int l, .int c, .int k] : List V).set 2 (.int (k + 1))))) src = some (.lst [.int l, .int c, .int (k + 1)]) := upd_same
    show tSeq _ _ _ _ (upd H src (.lst [.int l, .int c, .int (k + 1)]))
    have s2 : Lw src H (upd H src (.lst [.int l, .int c, .int (k + 1)])) (B + 1) := ⟨Same.onL hid_self (hid_same _ _), _, upd_same, l, c, k + 1, rfl, l0, c0, c1, by omega, by omega⟩
    have h2 : (upd H src (.lst [.int l, .int c, .int (k + 1)])) src = some (.lst [.int l, .int c, .int (k + 1)]) := upd_same
    generalize upd H src (.lst [.int l, .int c, .int (k + 1)]) = H2 at h2 s2
    refine ⟨_, rfl, _, _, _, _, rfl, rfl, .inl (.inl h2), rfl, _, rfl, _, _, _, _, rfl, rfl, .inl (.inl h2), rfl, _, _, rfl, rfl, .inl ⟨by decide, by decide⟩, _, _, rfl, rfl, ?_⟩
    have c3 : CPow 10 38 := ⟨by decide, by decide, by decide⟩
    have c4 : CPow 10 41 := ⟨by decide, by decide, by decide⟩
    refine ⟨_, rfl, _, _, rfl, rfl, ⟨rfl, log_small (by omega) (big8000 (by omega))⟩, .inl ⟨_, rfl, _, _, rfl, rfl, c3, _, _, rfl, rfl, _, _, rfl, rfl, pow_pos38, _, rfl, _, _, _, _, rfl, rfl, .inl (.inl h2), rfl, _, _, rfl, rfl, .inl ⟨by decide, by decide⟩, _, _, rfl, rfl, ?_⟩⟩
    generalize e1 : (c + 2750159 * (k + 1)) ^ 3 = big1
    have m1a := Int.emod_nonneg big1 (Int.ne_of_gt pow_pos38)
    have m1b := Int.emod_lt_of_pos big1 pow_pos38
    have p38 : (10 : Int) ^ (38 : Int).toNat + 133 < 2 ^ 190 := by decide +kernel
    refine ⟨_, rfl, _, _, rfl, rfl, ⟨rfl, log_small ?_ (big8000 ?_)⟩, .inl ⟨_, rfl, _, _, rfl, rfl, c4, _, _, rfl, rfl, _, _, rfl, rfl, pow_pos41, ?_⟩⟩
    · show 0 ≤ big1 % (10 ^ (38 : Int).toNat + 133) + 7368787 * (k + 1)
      omega
    · show big1 % (10 ^ (38 : Int).toNat + 133) + 7368787 * (k + 1) < 2 ^ 200
      omega
    · refine ⟨_, rfl, _, _, rfl, rfl, ⟨by decide, by decide⟩, .inl ⟨_, rfl, _, rfl, _, _, rfl, rfl, m0, q _ _ (Int.emod_nonneg _ (by omega)) (Int.emod_lt_of_pos _ m0) s2⟩⟩
end
end K89

set_option maxRecDepth 100000
set_option maxHeartbeats 2000000
namespace K89
open PySem PySem.Spec PyProof.Rows L2
theorem sc_law_shape : FnScope ["_law_source_here", "_law_parity"] ["_law_source_here"] (defScope s_law_shape) := ⟨rfl, rfl, rfl, by decide +kernel, rfl, by decide +kernel, by decide +kernel⟩
theorem sc_law_frame : FnScope ["_law_shape_here", "_law_number", "_law_levels", "_law_rest", "_law_turn"] ["_law_shape_here", "_law_number"] (defScope s_law_frame) := ⟨rfl, rfl, rfl, by decide +kernel, rfl, by decide +kernel, by decide +kernel⟩
theorem sc_law_receiver : FnScope ["_law_source_here", "_law_step", "_law_grain"] ["_law_source_here"] (defScope s_law_receiver) := ⟨rfl, rfl, rfl, by decide +kernel, rfl, by decide +kernel, by decide +kernel⟩
theorem Lw.at' {src : Addr} {H H1 : Hp} {B : Nat} (a : Lw src H H1 B) : ∃ o, H1 src = some o ∧ SrcO o B := a.src
/-- a list of the law's own, made since -/
theorem Lw.lstIn {src p : Addr} {H H1 : Hp} {B : Nat} {xs : List V} (a : Lw src H H1 B) (hp : H p = some (.lst xs)) (ne : p ≠ src) : H1 p = some (.lst xs) := a.same _ _ ((hid_ne ne).trans hp)
theorem srcO_lst {o : HO} {B : Nat} (h : SrcO o B) : ∃ xs, o = .lst xs := by
  obtain ⟨l, c, k, e, _⟩ := h
  exact ⟨_, e⟩
theorem fit1000 {n : Nat} (h : n ≤ 1000) : n ≤ sizeLine := Nat.le_of_lt (Nat.lt_of_le_of_lt h (by decide))
theorem intN {r : Int} (h : 0 ≤ r) : ∃ n : Nat, r = (n : Int) := ⟨r.toNat, (Int.toNat_of_nonneg h).symm⟩
section
variable {P : Program} {w : World} {K : PySem.W.Frag} {mg : PySem.Str → Option Value} {base : Heap}
/-- what every drawing def has: the source, its bound -/
structure SA (H : Hp) (src : Addr) (B : Nat) : Prop where
  ex : ∃ o, H src = some o ∧ SrcO o B
  le : B ≤ 10 ^ 14
theorem ok_law_shape (T : Tx K mg) : Good P w K mg base "_law_shape" 2 ["_law_source_here"] [] (fun vs H Q _ => ∃ (src : Addr) (B : Nat), vs = [.ref src] ∧ SA H src B ∧ ∀ (H' : Hp) (a : Addr) (h : Sh), Lw src H H' (B + 3) → SqT K H' a h.vs → h.Ok → H' a ≠ none → H a = none → Q (.ref a) H') := by
  refine mkGood T.f_law_shape T.g_law_shape sc_law_shape (fun _ _ _ _ _ _ us hl => match us, hl with | [_], _ => rfl) (fun vs H Q E h => by obtain ⟨_, _, rfl, _⟩ := h; rfl) (fun cdv A outer s H vs Q E hr h => ?_)
  obtain ⟨src, B, rfl, ⟨⟨o, ho, hso⟩, hB⟩, q⟩ := h
  refine ⟨_, (pss_cons (ps_set (i := 1) sc_law_shape.nd rfl (by first | exact .inl rfl | exact .inr rfl) (pe_ix ix_list (pe_lst (pa_cons pe_str (pa_cons pe_str (pa_cons pe_str pa_nil)))) (pe_go (ok_law_draw T) hr (pa_cons (pv 0) (pa_cons pe_int pa_nil))) (fun _ _ => rfl)))
    (pss_one (ps_ret (pe_tup (pa_cons (pe_op op_add pe_int (pe_go (ok_law_draw T) hr (pa_cons (pv 0) (pa_cons pe_int pa_nil)))) (pa_cons (pv 1) (pa_cons (pe_op op_add pe_int (pe_go (ok_law_draw T) hr (pa_cons (pv 0) (pa_cons pe_int pa_nil)))) pa_nil))))))), ?_⟩
  obtain ⟨xo, rfl⟩ := srcO_lst hso
  refine ⟨(by decide : 3 ≤ sizeLine), fun p np => ?_⟩
  have nps : p ≠ src := (ne_of_none ho np).symm
  have sp := Same.up (o := .lst [.str "none", .str "even", .str "odd"]) np
  have w0 : Lw src H (upd H p (.lst [.str "none", .str "even", .str "odd"])) B := (Lw.refl ho hso).pure sp
  refine ⟨_, rfl, src, _, B, 3, rfl, sp _ _ ho, hso, by omega, by decide, by decide, fun r1 H1 a1 b1 w1 => ?_⟩
  obtain ⟨n1, rfl⟩ := intN a1
  have hp1 := w1.lstIn (upd_same (H := H) (a := p)) nps
  have el : ([.str "none", .str "even", .str "odd"] : List V)[n1]? = some (.str (pst n1)) := by
    have : n1 = 0 ∨ n1 = 1 ∨ n1 = 2 := by omega
    rcases this with rfl | rfl | rfl <;> rfl
  refine ⟨p, _, _, _, rfl, rfl, .inl (.inl hp1), atI_nat el, ?_⟩
  obtain ⟨o1, ho1, hs1⟩ := w1.src
  refine ⟨_, rfl, src, o1, B + 1, 9, rfl, ho1, hs1, by omega, by decide, by decide, fun r2 H2 a2 b2 w2 => ?_⟩
  obtain ⟨n2, rfl⟩ := intN a2
  obtain ⟨o2, ho2, hs2⟩ := w2.src
  refine ⟨_, _, rfl, rfl, _, rfl, _, rfl, src, o2, B + 1 + 1, 2, rfl, ho2, hs2, by omega, by decide, by decide, fun r3 H3 a3 b3 w3 => ?_⟩
  obtain ⟨n3, rfl⟩ := intN a3
  refine ⟨_, _, rfl, rfl, (by decide : 3 ≤ sizeLine), fun a na => ?_⟩
  have wall := ((w0.trans w1).trans w2).trans w3
  have ev : ([.int (1 + (n2 : Int)), .str (pst n1), .int (1 + (n3 : Int))] : List V) = Sh.vs ⟨1 + n2, n1, 1 + n3⟩ := by
    unfold Sh.vs
    simp
  have naH : H a = none := by
    by_cases e : a = src
    · obtain ⟨o3, ho3, _⟩ := w3.src
      rw [e, ho3] at na
      cases na
    · have := wall.same.free na
      rw [hid_ne e] at this
      exact this
  refine q _ a ⟨1 + n2, n1, 1 + n3⟩ ((wall.pure (Same.up na)).mono (by omega)) ?_ ⟨by show 1 ≤ 1 + n2; omega, by show 1 + n2 ≤ 9; omega, by show n1 ≤ 2; omega, by show 1 ≤ 1 + n3; omega, by show 1 + n3 ≤ 2; omega⟩ (by
    show (upd H3 a _) a ≠ none
    rw [upd_same]
    exact fun z => nomatch z) naH
  rw [← ev]
  exact SqT.new
theorem ok_law_receiver (T : Tx K mg) : Good P w K mg base "_law_receiver" 2 ["_law_source_here"] [] (fun vs H Q _ => ∃ (src : Addr) (B : Nat), vs = [.ref src] ∧ SA H src B ∧ ∀ (H' : Hp) (a : Addr) (r : Rc), Lw src H H' (B + 10) → SqT K H' a r.vs → r.Ok → Q (.ref a) H') := by
  refine mkGood T.f_law_receiver T.g_law_receiver sc_law_receiver (fun _ _ _ _ _ _ us hl => match us, hl with | [_], _ => rfl) (fun vs H Q E h => by obtain ⟨_, _, rfl, _⟩ := h; rfl) (fun cdv A outer s H vs Q E hr h => ?_)
  obtain ⟨src, B, rfl, ⟨⟨o, ho, hso⟩, hB⟩, q⟩ := h
  refine ⟨_, (pss_cons (ps_set (i := 1) sc_law_receiver.nd rfl (by first | exact .inl rfl | exact .inr rfl) (pe_ix ix_list (pe_lst (pa_cons pe_int (pa_cons pe_int (pa_cons pe_int (pa_cons (pe_op op_add pe_int (pe_go (ok_law_draw T) hr (pa_cons (pv 0) (pa_cons pe_int pa_nil)))) (pa_cons (pe_op op_pow pe_int pe_int) pa_nil)))))) (pe_go (ok_law_draw T) hr (pa_cons (pv 0) (pa_cons pe_int pa_nil))) (fun _ _ => rfl)))
    (pss_cons (ps_set (i := 2) sc_law_receiver.nd rfl (by first | exact .inl rfl | exact .inr rfl) (pe_ix ix_list (pe_lst (pa_cons pe_int (pa_cons pe_int (pa_cons (pe_op op_add pe_int (pe_go (ok_law_draw T) hr (pa_cons (pv 0) (pa_cons pe_int pa_nil)))) (pa_cons (pe_op op_add pe_int (pe_go (ok_law_draw T) hr (pa_cons (pv 0) (pa_cons (pe_op op_pow pe_int pe_int) pa_nil)))) pa_nil))))) (pe_go (ok_law_draw T) hr (pa_cons (pv 0) (pa_cons pe_int pa_nil))) (fun _ _ => rfl)))
    (pss_one (ps_ret (pe_tup (pa_cons (pv 2) (pa_cons (pe_callB (call_max2 rfl) (by rfl) T.n_max bt_max (pa_cons pe_int (pa_cons (pe_op op_sub (pe_op op_fdivW (pv 1) pe_int) (pe_go (ok_law_draw T) hr (pa_cons (pv 0) (pa_cons pe_int pa_nil)))) pa_nil))) (pa_cons (pv 1) pa_nil)))))))), ?_⟩
  refine ⟨_, rfl, src, o, B, 30, rfl, ho, hso, by omega, by decide, by decide, fun r1 H1 a1 b1 w1 => ?_⟩
  obtain ⟨n1, rfl⟩ := intN a1
  obtain ⟨o1, ho1, hs1⟩ := w1.src
  have c6 : CPow 10 6 := ⟨by decide, by decide, by decide⟩
  refine ⟨_, _, rfl, rfl, _, _, rfl, rfl, c6, (by decide : 5 ≤ sizeLine), fun p np => ?_⟩
  have nps : p ≠ src := (ne_of_none ho1 np).symm
  have sp := Same.up (o := .lst [.int 16, .int 3, .int 8, .int (2 + (n1 : Int)), .int (10 ^ (6 : Int).toNat)]) np
  refine ⟨_, rfl, src, o1, B + 1, 5, rfl, sp _ _ ho1, hs1, by omega, by decide, by decide, fun r2 H2 a2 b2 w2 => ?_⟩
  obtain ⟨n2, rfl⟩ := intN a2
  obtain ⟨o2, ho2, hs2⟩ := w2.src
  have hp2 := w2.lstIn (upd_same (H := H1) (a := p)) nps
  obtain ⟨st, st1, st2, est⟩ : ∃ st : Nat, 1 ≤ st ∧ st < 2 ^ 60 ∧ ([.int 16, .int 3, .int 8, .int (2 + (n1 : Int)), .int (10 ^ (6 : Int).toNat)] : List V)[n2]? = some (.int (st : Nat)) := by
    have : n2 = 0 ∨ n2 = 1 ∨ n2 = 2 ∨ n2 = 3 ∨ n2 = 4 := by omega
    rcases this with rfl | rfl | rfl | rfl | rfl
    · exact ⟨16, by decide, by decide, rfl⟩
    · exact ⟨3, by decide, by decide, rfl⟩
    · exact ⟨8, by decide, by decide, rfl⟩
    · exact ⟨2 + n1, by omega, by omega, by
        show some (V.int (2 + (n1 : Int))) = some (V.int ((2 + n1 : Nat) : Int))
        rw [Int.natCast_add] <;> rfl⟩
    · exact ⟨10 ^ 6, by decide, by decide, rfl⟩
  refine ⟨p, _, _, _, rfl, rfl, .inl (.inl hp2), atI_nat est, ?_⟩
  have w12 := (w1.pure sp).trans w2
  -- the grain
  refine ⟨_, rfl, src, o2, B + 1 + 1, 12, rfl, ho2, hs2, by omega, by decide, by decide, fun r3 H3 a3 b3 w3 => ?_⟩
  obtain ⟨n3, rfl⟩ := intN a3
  obtain ⟨o3, ho3, hs3⟩ := w3.src
  have c15 : CPow 10 15 := ⟨by decide, by decide, by decide⟩
  refine ⟨_, _, rfl, rfl, _, rfl, _, _, rfl, rfl, c15, src, o3, B + 1 + 1 + 1, _, rfl, ho3, hs3, by omega, (by decide : (0 : Int) < 10 ^ (15 : Int).toNat), (by decide : (10 : Int) ^ (15 : Int).toNat < 2 ^ 200), fun r4 H4 a4 b4 w4 => ?_⟩
  have b4 : r4 < 10 ^ 15 := b4
  obtain ⟨n4, rfl⟩ := intN a4
  obtain ⟨o4, ho4, hs4⟩ := w4.src
  refine ⟨_, _, rfl, rfl, (by decide : 4 ≤ sizeLine), fun p5 np5 => ?_⟩
  have nps5 : p5 ≠ src := (ne_of_none ho4 np5).symm
  have sp5 := Same.up (o := .lst [.int 1, .int 10, .int (1 + (n3 : Int)), .int (1 + (n4 : Int))]) np5
  refine ⟨_, rfl, src, o4, B + 1 + 1 + 1 + 1, 4, rfl, sp5 _ _ ho4, hs4, by omega, by decide, by decide, fun r6 H6 a6 b6 w6 => ?_⟩
  obtain ⟨n6, rfl⟩ := intN a6
  obtain ⟨o6, ho6, hs6⟩ := w6.src
  have hp6 := w6.lstIn (upd_same (H := H4) (a := p5)) nps5
  obtain ⟨g, g1, g2, eg⟩ : ∃ g : Nat, 1 ≤ g ∧ g < 2 ^ 60 ∧ ([.int 1, .int 10, .int (1 + (n3 : Int)), .int (1 + (n4 : Int))] : List V)[n6]? = some (.int (g : Nat)) := by
    have : n6 = 0 ∨ n6 = 1 ∨ n6 = 2 ∨ n6 = 3 := by omega
    rcases this with rfl | rfl | rfl | rfl
    · exact ⟨1, by decide, by decide, rfl⟩
    · exact ⟨10, by decide, by decide, rfl⟩
    · exact ⟨1 + n3, by omega, by omega, by
        show some (V.int (1 + (n3 : Int))) = some (V.int ((1 + n3 : Nat) : Int))
        rw [Int.natCast_add] <;> rfl⟩
    · exact ⟨1 + n4, by omega, by omega, by
        show some (V.int (1 + (n4 : Int))) = some (V.int ((1 + n4 : Nat) : Int))
        rw [Int.natCast_add] <;> rfl⟩
  refine ⟨p5, _, _, _, rfl, rfl, .inl (.inl hp6), atI_nat eg, ?_⟩
  have w36 := ((w3.trans w4).pure sp5).trans w6
  -- the wait
  refine ⟨_, rfl, _, rfl, _, _, rfl, rfl, ⟨by decide, log2_2⟩, _, rfl, src, o6, B + 1 + 1 + 1 + 1 + 1, 2, rfl, ho6, hs6, by omega, by decide, by decide, fun r7 H7 a7 b7 w7 => ?_⟩
  refine ⟨_, _, rfl, rfl, 0, _, rfl, _, rfl, (by decide : 3 ≤ sizeLine), fun a na => ?_⟩
  obtain ⟨wt, ewt, wt2⟩ : ∃ wt : Nat, (if ((st : Nat) : Int) / 2 - r7 > 0 then ((st : Nat) : Int) / 2 - r7 else 0) = (wt : Int) ∧ wt < 2 ^ 60 := by
    refine ⟨(if ((st : Nat) : Int) / 2 - r7 > 0 then ((st : Nat) : Int) / 2 - r7 else 0).toNat, ?_, ?_⟩
    · rw [Int.toNat_of_nonneg]
      split <;> omega
    · split <;> omega
  have ev : ([.int (g : Nat), .int (if ((st : Nat) : Int) / 2 - r7 > 0 then ((st : Nat) : Int) / 2 - r7 else 0), .int (st : Nat)] : List V) = Rc.vs ⟨g, wt, st⟩ := by
    rw [ewt]
    rfl
  refine q _ a ⟨g, wt, st⟩ ((((w12.trans w36).trans w7).pure (Same.up na)).mono (by omega)) ?_ ⟨g1, st1, g2, wt2, st2⟩
  rw [← ev]
  exact SqT.new
def frL (h : Sh) (N : Nat) : List Nat := (List.range h.n).map fun j => fl h N j
theorem div_bit (N i : Nat) : N / 2 ^ i / 2 = N / 2 ^ (i + 1) := by rw [Nat.div_div_eq_div_mul, ← Nat.pow_succ]
theorem frL_eq {h : Sh} (ok : h.Ok) (N : Nat) : frL h N = [0] ++ ((List.range h.d).map fun i => bit N i) ++ (if h.p = 0 then [] else [plv h N]) ++ List.replicate h.s 1 := by
  obtain ⟨b1, b2, b3, b4, b5⟩ := sh_small ok
  have d1 := ok.d1
  apply List.ext_getElem?
  intro j
  unfold frL
  rw [List.getElem?_map]
  have lq : (if h.p = 0 then [] else [plv h N]).length = h.q := by
    unfold Sh.q
    split <;> rfl
  by_cases hj : j < h.n
  · rw [List.getElem?_range hj]
    show some (fl h N j) = _
    by_cases j0 : j = 0
    · subst j0
      rfl
    · by_cases j1 : j ≤ h.d
      · have e : ([0] ++ ((List.range h.d).map fun i => bit N i) ++ (if h.p = 0 then [] else [plv h N]) ++ List.replicate h.s 1)[j]? = some (bit N (j - 1)) := by
          rw [List.append_assoc, List.append_assoc, List.getElem?_append_right (by simp; omega), List.getElem?_append_left (by simp; omega), List.getElem?_map, List.getElem?_range (by simp; omega)]
          rfl
        rw [e]
        unfold fl
        rw [if_neg j0, if_pos j1]
      · by_cases j2 : j < h.stop
        · have q1 : h.q = 1 := by
            have : h.q ≤ 1 := by unfold Sh.q; split <;> omega
            omega
          have p0 : h.p ≠ 0 := fun z => by
            have : h.q = 0 := if_pos z
            omega
          have e : ([0] ++ ((List.range h.d).map fun i => bit N i) ++ (if h.p = 0 then [] else [plv h N]) ++ List.replicate h.s 1)[j]? = some (plv h N) := by
            rw [if_neg p0, List.append_assoc, List.append_assoc, List.getElem?_append_right (by simp; omega), List.getElem?_append_right (by simp; omega), List.getElem?_append_left (by simp; omega)]
            have : j - [0].length - ((List.range h.d).map fun i => bit N i).length = 0 := by simp; omega
            rw [this]
            rfl
          rw [e]
          unfold fl
          rw [if_neg j0, if_neg j1, if_pos j2]
        · have e : ([0] ++ ((List.range h.d).map fun i => bit N i) ++ (if h.p = 0 then [] else [plv h N]) ++ List.replicate h.s 1)[j]? = some 1 := by
            rw [List.getElem?_append_right (by simp only [List.length_append, lq, List.length_map, List.length_range, List.length_singleton]; omega), List.getElem?_replicate, if_pos (by simp only [List.length_append, lq, List.length_map, List.length_range, List.length_singleton]; omega)]
          rw [e]
          unfold fl
          rw [if_neg j0, if_neg j1, if_neg j2]
  · rw [List.getElem?_eq_none (by rw [List.length_range]; omega), List.getElem?_eq_none]
    · rfl
    · simp only [List.length_append, lq, List.length_map, List.length_range, List.length_singleton, List.length_replicate]
      omega
theorem ok_law_frame (T : Tx K mg) : Good P w K mg base "_law_frame" 1 ["_law_shape_here", "_law_number"] [] (fun vs H Q _ => ∃ (a : Addr) (h : Sh) (N : Nat), vs = [.ref a, .int (N : Nat)] ∧ SqT K H a h.vs ∧ h.Ok ∧ sp_list (frL h N) H Q) := by
  refine mkGood T.f_law_frame T.g_law_frame sc_law_frame (fun _ _ _ _ _ _ us hl => match us, hl with | [_, _], _ => rfl) (fun vs H Q E h => by obtain ⟨_, _, _, rfl, _⟩ := h; rfl) (fun cdv A outer s H vs Q E hr h => ?_)
  obtain ⟨a, h, N, rfl, hs, ok, q⟩ := h
  refine ⟨_, (pss_cons (ps_par (i := 2) (j := 3) rfl sc_law_frame.nd rfl rfl (by decide) rfl rfl (pa_cons (pe_lst pa_nil) (pa_cons (pv 1) pa_nil)) (by rfl))
    (pss_cons (ps_for PassesOwn.never rfl (pi_range1 (by rfl) T.n_range (pa_cons (pe_ix ix_tup (pv 0) pe_int (fun _ _ => rfl)) pa_nil)) (pg_name (i := 4) sc_law_frame.nd rfl (by first | exact .inl rfl | exact .inr rfl))
    (pss_cons (ps_expr (pe_bm PySem.F.plainAttrs_list PySem.F.slot_list_append PySem.F.type_list_append mt_append (pv 2) (pa_cons (pe_op op_mod (pe_callTy call_int1 (by rfl) T.n_int bt_int (pa_cons (pv 3) pa_nil)) pe_int) pa_nil)))
    (pss_one (ps_set (i := 3) sc_law_frame.nd rfl (by first | exact .inl rfl | exact .inr rfl) (pe_op op_fdivW (pv 3) pe_int)))))
    (pss_cons (ps_if (pt_cmpR op_eq (pe_ix ix_tup (pv 0) pe_int (fun _ _ => rfl)) pe_str (nomark _))
    (pss_one (ps_expr (pe_bm PySem.F.plainAttrs_list PySem.F.slot_list_append PySem.F.type_list_append mt_append (pv 2) (pa_cons (pe_op op_mod (pe_callTy call_int1 (by rfl) T.n_int bt_int (pa_cons (pe_callB (cr_sum rfl) (by rfl) T.n_sum bt_sum (pa_cons (pv 2) pa_nil)) pa_nil)) pe_int) pa_nil)))) (pss_one (ps_if (pt_cmpR op_eq (pe_ix ix_tup (pv 0) pe_int (fun _ _ => rfl)) pe_str (nomark _))
    (pss_one (ps_expr (pe_bm PySem.F.plainAttrs_list PySem.F.slot_list_append PySem.F.type_list_append mt_append (pv 2) (pa_cons (pe_op op_sub pe_int (pe_op op_mod (pe_callTy call_int1 (by rfl) T.n_int bt_int (pa_cons (pe_callB (cr_sum rfl) (by rfl) T.n_sum bt_sum (pa_cons (pv 2) pa_nil)) pa_nil)) pe_int)) pa_nil)))) pss_nil)))
    (pss_one (ps_ret (pe_op op_cat (pe_op op_cat (pe_lst (pa_cons pe_int pa_nil)) (pv 2)) (pe_op op_rep (pe_lst (pa_cons pe_int pa_nil)) (pe_ix ix_tup (pv 0) pe_int (fun _ _ => rfl))))))))), ?_⟩
  have d9 := ok.d9
  have s2 := ok.s2
  refine ⟨by decide, fun l nl => ⟨_, rfl, _, _, rfl, ?_⟩⟩
  have s0 := Same.up (o := .lst []) nl
  refine ⟨_, rfl, _, _, _, _, rfl, rfl, s0.seqT hs, rfl, (h.d : Int), rfl, by omega, by omega, ?_⟩
  refine for_range (fun i σ H' => ∃ y4, σ = [some (.ref a), some (.int (N : Nat)), some (.ref l), some (.int ((N / 2 ^ i : Nat) : Int)), y4] ∧ Same H H' ∧ H' l = some (.lst (iv ((List.range i).map fun i => bit N i)))) ⟨none, by rw [Nat.pow_zero, Nat.div_one] <;> rfl, s0, upd_same⟩ (fun i σ H' hi hx => ?_) (fun σ H' hx => ?_)
  · obtain ⟨y4, rfl, sm, hl⟩ := hx
    rw [Int.toNat_natCast] at hi
    refine ⟨_, rfl, .inl ⟨rfl, _, .inl (.inl hl)⟩, _, rfl, .inl ⟨_, rfl, _, _, rfl, rfl, (by decide : (0 : Int) < 2), l, _, _, rfl, rfl, hl, small_len (n := 100) (by simp; omega), ?_⟩⟩
    refine ⟨_, rfl, _, _, rfl, rfl, ⟨by decide, log2_2⟩, ?_⟩
    refine ⟨some (.int (0 + ((i : Nat) : Int))), ?_, Same.onL nl sm, ?_⟩
    · have : ((N / 2 ^ i : Nat) : Int) / 2 = ((N / 2 ^ (i + 1) : Nat) : Int) := by
        rw [← div_bit]
        omega
      rw [← this]
      rfl
    · rw [upd_same, List.range_succ, List.map_append]
      unfold iv
      rw [List.map_append]
      congr 3
  · obtain ⟨y4, rfl, sm, hl⟩ := hx
    rw [Int.toNat_natCast] at hl
    have fin : ∀ (H2 : Hp) (ls : List Nat) (y4 : Option V), Same H H2 → H2 l = some (.lst (iv ls)) → [0] ++ ls ++ List.replicate h.s 1 = frL h N → ls.length ≤ 100 → ∀ y3, (tRet (tOp rCat (tOp rCat (tLst (tCons (tC (.int 0)) tNil)) (tVar 2)) (tOp rRep (tLst (tCons (tC (.int 1)) tNil)) (tOp (rIxT K) (tVar 0) (tC (.int 2))))))
        { nx := fun _ H' => Q .non H', rt := Q } [some (.ref a), some (.int (N : Nat)), some (.ref l), y3, y4] H2 := by
      intro H2 ls y4 sm2 hl2 ef len y3
      refine ⟨by decide, fun z nz => ?_⟩
      have sz := Same.up (o := .lst [.int 0]) nz
      refine ⟨_, rfl, z, l, _, _, rfl, rfl, upd_same, sz _ _ hl2, fit1000 (by simp; omega), fun c nc => ?_⟩
      have sc := Same.up (o := .lst ([.int 0] ++ iv ls)) nc
      refine ⟨by decide, fun o no => ?_⟩
      have so := Same.up (o := .lst [.int 1]) no
      refine ⟨_, rfl, _, _, _, _, rfl, rfl, so.seqT (sc.seqT (sz.seqT (sm2.seqT hs))), rfl, o, _, _, rfl, rfl, upd_same, by omega, by omega, ?_, fun rp nrp => ?_⟩
      · show 1 * ((h.s : Nat) : Int).toNat ≤ sizeLine
        have : (1 * ((h.s : Nat) : Int).toNat) < sizeLine := Nat.lt_of_le_of_lt (show 1 * ((h.s : Nat) : Int).toNat ≤ 2 by omega) (by decide)
        omega
      · have sr := Same.up (o := .lst (List.replicate ((h.s : Nat) : Int).toNat ([V.int 1] : List V)).flatten) nrp
        refine ⟨c, rp, [.int 0] ++ iv ls, _, rfl, rfl, ?_, upd_same, ?_, fun f nf => ?_⟩
        · exact (Same.up nrp) _ _ (so _ _ upd_same)
        · refine fit1000 ?_
          simp
          omega
        · refine q _ f (((((sm2.trans sz).trans sc).trans so).trans (Same.up nrp)).trans (Same.up nf)) ?_ ?_
          · exact ((((sm2.trans sz).trans sc).trans so).trans (Same.up nrp)).free nf
          · rw [upd_same]
            congr 2
            rw [← ef]
            unfold iv
            rw [List.map_append, List.map_append, Int.toNat_natCast, List.map_replicate]
            congr 1
            generalize h.s = k
            induction k with
            | zero => rfl
            | succ k ih =>
              rw [List.replicate_succ, List.replicate_succ, List.flatten_cons, ih]
              rfl
    have hd : (iv ((List.range h.d).map fun i => bit N i)) = ((List.range h.d).map fun i => ((bit N i : Nat) : Int)).map V.int := by
      unfold iv
      rw [List.map_map, List.map_map]
      rfl
    have esum : ((List.range h.d).map fun i => ((bit N i : Nat) : Int)).sum = ((ones h.d N : Nat) : Int) := by
      unfold ones
      have := sum_iv ((List.range h.d).map fun i => bit N i)
      rw [List.map_map] at this
      exact this
    have grow : ∀ (v : Int), v = ((plv h N : Nat) : Int) → h.p ≠ 0 → ∀ (y3 y4 : Option V), (tRet (tOp rCat (tOp rCat (tLst (tCons (tC (.int 0)) tNil)) (tVar 2)) (tOp rRep (tLst (tCons (tC (.int 1)) tNil)) (tOp (rIxT K) (tVar 0) (tC (.int 2))))))
        { nx := fun _ H' => Q .non H', rt := Q } [some (.ref a), some (.int (N : Nat)), some (.ref l), y3, y4] (upd H' l (.lst (iv ((List.range h.d).map fun i => bit N i) ++ [.int v]))) := by
      intro v ev p0 y3 y4
      refine fin _ (((List.range h.d).map fun i => bit N i) ++ [plv h N]) y4 (Same.onL nl sm) ?_ ?_ (by simp; omega) y3
      · rw [upd_same, ev]
        unfold iv
        rw [List.map_append]
        rfl
      · rw [frL_eq ok, if_neg p0]
        simp only [List.append_assoc]
    refine ⟨_, rfl, _, _, _, _, rfl, rfl, sm.seqT hs, rfl, rfl, _, rfl, ?_⟩
    rw [pst_even ok.p2]
    by_cases p1 : h.p = 1
    · rw [decide_eq_true p1]
      refine iteT ⟨_, rfl, .inl ⟨rfl, _, .inl (.inl hl)⟩, _, rfl, l, _, rfl, .inl (.inl (by rw [hl, hd])), .inl ⟨_, rfl, _, _, rfl, rfl, (by decide : (0 : Int) < 2), l, _, _, rfl, rfl, hl, small_len (n := 100) (by simp; omega), ?_⟩⟩
      refine grow _ ?_ (by omega) _ _
      rw [esum]
      unfold plv Sh.po
      rw [if_neg (by omega), Nat.add_zero]
      omega
    · rw [decide_eq_false p1]
      refine iteF ⟨_, rfl, _, _, _, _, rfl, rfl, sm.seqT hs, rfl, rfl, _, rfl, ?_⟩
      rw [pst_odd ok.p2]
      by_cases p2 : h.p = 2
      · rw [decide_eq_true p2]
        refine iteT ⟨_, rfl, .inl ⟨rfl, _, .inl (.inl hl)⟩, _, rfl, l, _, rfl, .inl (.inl (by rw [hl, hd])), .inl ⟨_, rfl, _, _, rfl, rfl, (by decide : (0 : Int) < 2), _, _, rfl, rfl, l, _, _, rfl, rfl, hl, small_len (n := 100) (by simp; omega), ?_⟩⟩
        refine grow _ ?_ (by omega) _ _
        rw [esum]
        unfold plv Sh.po
        rw [if_pos p2]
        omega
      · rw [decide_eq_false p2]
        refine iteF ?_
        have p0 : h.p = 0 := by
          have := ok.p2
          omega
        refine fin H' ((List.range h.d).map fun i => bit N i) _ sm hl ?_ (by simp; omega) _
        rw [frL_eq ok, if_pos p0, List.append_nil]
end
end K89

set_option maxRecDepth 100000
set_option maxHeartbeats 2000000
namespace K89
open PySem PySem.Spec PyProof.Rows L2
theorem sc_law_text : FnScope ["_law_source_here", "_law_shape_here", "_law_many", "_law_most", "_law_turn", "_law_found"] ["_law_source_here", "_law_shape_here", "_law_many"] (defScope s_law_text) := ⟨rfl, rfl, rfl, by decide +kernel, rfl, by decide +kernel, by decide +kernel⟩
theorem sc_law_line : FnScope ["_law_source_here", "_law_shape_here", "_law_numbers", "_law_low", "_law_high", "_law_found", "_law_former", "_law_tick", "_law_number", "_law_level"] ["_law_source_here", "_law_shape_here", "_law_numbers", "_law_low", "_law_high"] (defScope s_law_line) := ⟨rfl, rfl, rfl, by decide +kernel, rfl, by decide +kernel, by decide +kernel⟩
theorem sc_law_runs : FnScope ["_law_source_here", "_law_low", "_law_high", "_law_found", "_law_tick", "_law_turn", "_law_many"] ["_law_source_here", "_law_low", "_law_high"] (defScope s_law_runs) := ⟨rfl, rfl, rfl, by decide +kernel, rfl, by decide +kernel, by decide +kernel⟩
/-- the changes of a line: the level so far, the tick, what follows with its length -/
def chg : Nat → Int → List (Nat × Int) → List Int
  | _, _, [] => []
  | f, t, (l, d) :: r => (if l = f then [] else [t]) ++ chg l (t + d) r
def lastL (f : Nat) : List (Nat × Int) → Nat
  | [] => f
  | (l, _) :: r => lastL l r
def tot (its : List (Nat × Int)) : Int := (its.map (·.2)).sum
theorem tot_snoc (xs : List (Nat × Int)) (l : Nat) (d : Int) : tot (xs ++ [(l, d)]) = tot xs + d := by
  unfold tot
  simp
theorem lastL_snoc (f : Nat) : ∀ (xs : List (Nat × Int)) (l : Nat) (d : Int), lastL f (xs ++ [(l, d)]) = l
  | [], _, _ => rfl
  | (l', _) :: r, l, d => lastL_snoc l' r l d
theorem chg_snoc : ∀ (f : Nat) (t : Int) (xs : List (Nat × Int)) (l : Nat) (d : Int), chg f t (xs ++ [(l, d)]) = chg f t xs ++ (if l = lastL f xs then [] else [t + tot xs])
  | f, t, [], l, d => by
    show (if l = f then [] else [t]) ++ [] = [] ++ (if l = f then [] else [t + tot []])
    rw [List.append_nil, List.nil_append]
    have : tot [] = 0 := rfl
    rw [this, Int.add_zero]
  | f, t, (l', d') :: r, l, d => by
    show (if l' = f then [] else [t]) ++ chg l' (t + d') (r ++ [(l, d)]) = ((if l' = f then [] else [t]) ++ chg l' (t + d') r) ++ (if l = lastL l' r then [] else [t + tot ((l', d') :: r)])
    rw [chg_snoc l' (t + d') r l d, List.append_assoc]
    have : t + tot ((l', d') :: r) = t + d' + tot r := by
      unfold tot
      simp
      omega
    rw [this]
theorem chg_len : ∀ (f : Nat) (t : Int) (xs : List (Nat × Int)), (chg f t xs).length ≤ xs.length
  | _, _, [] => Nat.le_refl _
  | f, t, (l, d) :: r => by
    have := chg_len l (t + d) r
    show ((if l = f then [] else [t]) ++ chg l (t + d) r).length ≤ r.length + 1
    rw [List.length_append]
    split
    · rw [List.length_nil]
      omega
    · rw [List.length_singleton]
      omega
abbrev FrT := Nat × List (Nat × Int) × Int
def itm (x : FrT) : List (Nat × Int) := x.2.1 ++ [(1, x.2.2)]
structure FrI (h : Sh) (s : Sn) (x : FrT) : Prop where
  lt : x.1 < 2 ^ h.d
  lev : x.2.1.map (·.1) = frL h x.1
  dur : ∀ y ∈ x.2.1, (s.lo : Int) ≤ y.2 ∧ y.2 ≤ (s.hi : Int)
  gap : 0 ≤ x.2.2 ∧ x.2.2 ≤ 40 * (s.hi : Int)
/-- the line of a text -/
def LineOk (h : Sh) (s : Sn) (ns : List Nat) (ch : List Int) : Prop := ∃ (t0 : Int) (L : List FrT), (∀ x ∈ L, FrI h s x) ∧ L.map (·.1) = ns ∧ ch = chg 1 t0 (L.flatMap itm)
/-- drawn runs -/
structure RunsIn (s : Sn) (ch : List Int) : Prop where
  even : ch.length % 2 = 0
  len : ch.length ≤ 8
  gaps : ∀ i x y, ch[i]? = some x → ch[i + 1]? = some y → 1 ≤ y - x ∧ y - x ≤ 6 * (s.hi : Int)
theorem Lw.onL {src l : Addr} {H H1 : Hp} {B : Nat} {o : HO} (a : Lw src H H1 B) (nl : H l = none) (ne : l ≠ src) : Lw src H (upd H1 l o) B := ⟨Same.onL ((hid_ne ne).trans nl) a.same, by
  obtain ⟨o', h1, h2⟩ := a.src
  exact ⟨o', by rw [upd_ne ne.symm]; exact h1, h2⟩⟩
theorem Lw.someIn {src p : Addr} {H H1 : Hp} {B : Nat} {u : HO} (a : Lw src H H1 B) (hp : H p = some u) (ne : p ≠ src) : H1 p = some u := a.same _ _ ((hid_ne ne).trans hp)
theorem zv_snoc (l : List Int) (t : Int) : zv (l ++ [t]) = zv l ++ [.int t] := List.map_append
theorem pick_dur {K : PySem.W.Frag} {σ : L2.St} {H4 : Hp} {Q' : VK} {src : Addr} {B : Nat} {s : Sn} (h0 : σ[0]? = some (some (.ref src))) (h3 : σ[3]? = some (some (.int (s.lo : Nat)))) (h4 : σ[4]? = some (some (.int (s.hi : Nat)))) (lw : ∃ o, H4 src = some o ∧ SrcO o B) (hB : B ≤ 10 ^ 14 + 10 ^ 6)
    (hle : s.lo ≤ s.hi) (hbig : s.hi < 2 ^ 150) (k : ∀ (d : Int) (H5 : Hp), (s.lo : Int) ≤ d → d ≤ (s.hi : Int) → Lw src H4 H5 (B + 2) → Q' (.int d) H5) :
    (tOp (rIxL K) (tLst (tCons (tVar 3) (tCons (tVar 4) (tCons (tOp (rI0 fun i j => .int (i + j)) (tVar 3) (tCall (spDraw K) [] E0 (tCons (tVar 0) (tCons (tOp (rI0 fun i j => .int (i + j)) (tOp (rI0 fun i j => .int (i - j)) (tVar 4) (tVar 3)) (tC (.int 1))) tNil)))) tNil)))) (tCall (spDraw K) [] E0 (tCons (tVar 0) (tCons (tC (.int 3)) tNil)))) σ H4 Q' := by
  obtain ⟨o4, ho4, hs4⟩ := lw
  refine ⟨_, h3, _, h4, _, h3, _, h0, _, h4, _, h3, _, _, rfl, rfl, _, _, rfl, rfl, src, o4, _, _, rfl, ho4, hs4, by omega, by omega, by omega, fun r1 H5 a1 bb1 w1 => ?_⟩
  obtain ⟨o5, ho5, hs5⟩ := w1.src
  refine ⟨_, _, rfl, rfl, (by decide : 3 ≤ sizeLine), fun p np => ?_⟩
  have nps : p ≠ src := (ne_of_none ho5 np).symm
  have sp := Same.up (o := .lst [.int (s.lo : Nat), .int (s.hi : Nat), .int ((s.lo : Nat) + r1)]) np
  refine ⟨_, h0, src, o5, _, 3, rfl, sp _ _ ho5, hs5, by omega, by decide, by decide, fun r2 H6 a2 bb2 w2 => ?_⟩
  obtain ⟨n2, rfl⟩ := intN a2
  have hp6 := w2.lstIn (upd_same (H := H5) (a := p)) nps
  obtain ⟨d, ed, d1, d2⟩ : ∃ d : Int, ([.int (s.lo : Nat), .int (s.hi : Nat), .int ((s.lo : Nat) + r1)] : List V)[n2]? = some (.int d) ∧ (s.lo : Int) ≤ d ∧ d ≤ (s.hi : Int) := by
    have : n2 = 0 ∨ n2 = 1 ∨ n2 = 2 := by omega
    rcases this with rfl | rfl | rfl
    · exact ⟨_, rfl, by omega, by omega⟩
    · exact ⟨_, rfl, by omega, by omega⟩
    · exact ⟨_, rfl, by omega, by omega⟩
  exact ⟨p, _, _, _, rfl, rfl, .inl (.inl hp6), atI_nat ed, k d _ d1 d2 ((w1.pure sp).trans w2)⟩
theorem pick_gap {K : PySem.W.Frag} {σ : L2.St} {H4 : Hp} {Q' : VK} {src : Addr} {B : Nat} {s : Sn} (h0 : σ[0]? = some (some (.ref src))) (h4 : σ[4]? = some (some (.int (s.hi : Nat)))) (lw : ∃ o, H4 src = some o ∧ SrcO o B) (hB : B ≤ 10 ^ 14 + 10 ^ 6)
    (h1 : 1 ≤ s.hi) (hbig : s.hi < 2 ^ 150) (k : ∀ (d : Int) (H5 : Hp), 0 ≤ d → d ≤ 40 * (s.hi : Int) → Lw src H4 H5 (B + 2) → Q' (.int d) H5) :
    (tOp (rIxL K) (tLst (tCons (tC (.int 0)) (tCons (tC (.int 0)) (tCons (tC (.int 1)) (tCons (tCall (spDraw K) [] E0 (tCons (tVar 0) (tCons (tOp (rI CMul fun i j => .int (i * j)) (tC (.int 3)) (tVar 4)) tNil))) (tCons (tOp (rI CMul fun i j => .int (i * j)) (tC (.int 40)) (tVar 4)) tNil)))))) (tCall (spDraw K) [] E0 (tCons (tVar 0) (tCons (tC (.int 5)) tNil)))) σ H4 Q' := by
  obtain ⟨o4, ho4, hs4⟩ := lw
  refine ⟨_, h0, _, h4, _, _, rfl, rfl, .inl ⟨by decide, by decide⟩, src, o4, _, _, rfl, ho4, hs4, by omega, by omega, by omega, fun r1 H5 a1 bb1 w1 => ?_⟩
  obtain ⟨o5, ho5, hs5⟩ := w1.src
  refine ⟨_, h4, _, _, rfl, rfl, .inl ⟨by decide, by decide⟩, (by decide : 5 ≤ sizeLine), fun p np => ?_⟩
  have nps : p ≠ src := (ne_of_none ho5 np).symm
  have sp := Same.up (o := .lst [.int 0, .int 0, .int 1, .int r1, .int (40 * (s.hi : Nat))]) np
  refine ⟨_, h0, src, o5, _, 5, rfl, sp _ _ ho5, hs5, by omega, by decide, by decide, fun r2 H6 a2 bb2 w2 => ?_⟩
  obtain ⟨n2, rfl⟩ := intN a2
  have hp6 := w2.lstIn (upd_same (H := H5) (a := p)) nps
  obtain ⟨d, ed, d1, d2⟩ : ∃ d : Int, ([.int 0, .int 0, .int 1, .int r1, .int (40 * (s.hi : Nat))] : List V)[n2]? = some (.int d) ∧ 0 ≤ d ∧ d ≤ 40 * (s.hi : Int) := by
    have : n2 = 0 ∨ n2 = 1 ∨ n2 = 2 ∨ n2 = 3 ∨ n2 = 4 := by omega
    rcases this with rfl | rfl | rfl | rfl | rfl
    · exact ⟨_, rfl, by omega, by omega⟩
    · exact ⟨_, rfl, by omega, by omega⟩
    · exact ⟨_, rfl, by omega, by omega⟩
    · exact ⟨_, rfl, by omega, by omega⟩
    · exact ⟨_, rfl, by omega, by omega⟩
  exact ⟨p, _, _, _, rfl, rfl, .inl (.inl hp6), atI_nat ed, k d _ d1 d2 ((w1.pure sp).trans w2)⟩
section
variable {P : Program} {w : World} {K : PySem.W.Frag} {mg : PySem.Str → Option Value} {base : Heap}
theorem ok_law_text (T : Tx K mg) : Good P w K mg base "_law_text" 2 ["_law_source_here", "_law_shape_here", "_law_many"] [] (fun vs H Q _ => ∃ (src a : Addr) (B : Nat) (h : Sh) (many : Nat), vs = [.ref src, .ref a, .int (many : Nat)] ∧ SA H src B ∧ SqT K H a h.vs ∧ h.Ok ∧ many ≤ 16 ∧
    ∀ (H' : Hp) (l : Addr) (ns : List Nat), Lw src H H' (B + 100) → H' l = some (.lst (iv ns)) → H l = none → l ≠ src → ns.length = many → (∀ N ∈ ns, N < 2 ^ h.d) → Q (.ref l) H') := by
  refine mkGood T.f_law_text T.g_law_text sc_law_text (fun _ _ _ _ _ _ us hl => match us, hl with | [_, _, _], _ => rfl) (fun vs H Q E h => by obtain ⟨_, _, _, _, _, rfl, _⟩ := h; rfl) (fun cdv A outer s H vs Q E hr h => ?_)
  obtain ⟨src, a, B, h, many, rfl, ⟨⟨o, ho, hso⟩, hB⟩, hs, ok, hm, q⟩ := h
  refine ⟨_, (pss_cons (ps_set (i := 3) sc_law_text.nd rfl (by first | exact .inl rfl | exact .inr rfl) pe_int)
    (pss_cons (ps_for PassesOwn.never rfl (pi_range1 (by rfl) T.n_range (pa_cons (pe_ix ix_tup (pv 1) pe_int (fun _ _ => rfl)) pa_nil)) (pg_name (i := 4) sc_law_text.nd rfl (by first | exact .inl rfl | exact .inr rfl))
    (pss_one (ps_set (i := 3) sc_law_text.nd rfl (by first | exact .inl rfl | exact .inr rfl) (pe_op op_mul pe_int (pv 3)))))
    (pss_cons (ps_set (i := 5) sc_law_text.nd rfl (by first | exact .inl rfl | exact .inr rfl) (pe_lst pa_nil))
    (pss_cons (ps_for PassesOwn.never rfl (pi_range1 (by rfl) T.n_range (pa_cons (pv 2) pa_nil)) (pg_name (i := 4) sc_law_text.nd rfl (by first | exact .inl rfl | exact .inr rfl))
    (pss_one (ps_expr (pe_bm PySem.F.plainAttrs_list PySem.F.slot_list_append PySem.F.type_list_append mt_append (pv 5) (pa_cons (pe_ix ix_list (pe_lst (pa_cons pe_int (pa_cons (pe_op op_sub (pv 3) pe_int) (pa_cons (pe_go (ok_law_draw T) hr (pa_cons (pv 0) (pa_cons (pv 3) pa_nil))) (pa_cons (pe_go (ok_law_draw T) hr (pa_cons (pv 0) (pa_cons (pv 3) pa_nil))) pa_nil))))) (pe_go (ok_law_draw T) hr (pa_cons (pv 0) (pa_cons pe_int pa_nil))) (fun _ _ => rfl)) pa_nil)))))
    (pss_one (ps_ret (pv 5))))))), ?_⟩
  have d9 := ok.d9
  obtain ⟨xo, rfl⟩ := srcO_lst hso
  refine ⟨_, rfl, _, _, _, _, rfl, rfl, hs, rfl, (h.d : Int), rfl, by omega, by omega, ?_⟩
  refine for_range (fun i σ H' => ∃ y4, σ = [some (.ref src), some (.ref a), some (.int (many : Nat)), some (.int ((2 ^ i : Nat) : Int)), y4, none] ∧ H' = H) ⟨none, rfl, rfl⟩ (fun i σ H' hi hx => ?_) (fun σ H' hx => ?_)
  · obtain ⟨y4, rfl, rfl⟩ := hx
    refine ⟨_, rfl, _, _, rfl, rfl, .inl ⟨by decide, by decide⟩, some (.int (0 + ((i : Nat) : Int))), ?_, rfl⟩
    have : (2 : Int) * ((2 ^ i : Nat) : Int) = ((2 ^ (i + 1) : Nat) : Int) := by
      rw [Nat.pow_succ]
      omega
    rw [← this]
    rfl
  · obtain ⟨y4, rfl, rfl⟩ := hx
    rw [Int.toNat_natCast]
    have pw : 2 ^ h.d ≤ 512 := Nat.le_trans (Nat.pow_le_pow_right (by decide) d9) (by decide)
    have pw1 : 1 ≤ 2 ^ h.d := Nat.pow_pos (by decide)
    refine ⟨by decide, fun l nl => ?_⟩
    have nls : l ≠ src := (ne_of_none ho nl).symm
    refine ⟨_, rfl, (many : Int), rfl, by omega, by omega, ?_⟩
    generalize 2 ^ h.d = M at pw pw1 q
    refine for_range (fun i σ H2 => ∃ (y4 : Option V) (ns : List Nat), σ = [some (.ref src), some (.ref a), some (.int (many : Nat)), some (.int ((M : Nat) : Int)), y4, some (.ref l)] ∧ Lw src H' H2 (B + 4 * i) ∧ H2 l = some (.lst (iv ns)) ∧ ns.length = i ∧ ∀ N ∈ ns, N < M)
      ⟨_, [], rfl, (Lw.refl ho hso).onL nl nls, upd_same, rfl, fun N hN => by cases hN⟩ (fun i σ H2 hi hx => ?_) (fun σ H2 hx => ?_)
    · obtain ⟨y4, ns, rfl, lw, hl, ln, hN⟩ := hx
      rw [Int.toNat_natCast] at hi
      refine ⟨_, rfl, .inl ⟨rfl, _, .inl (.inl hl)⟩, ?_⟩
      obtain ⟨o1, ho1, hs1⟩ := lw.src
      refine ⟨_, rfl, _, _, rfl, rfl, _, rfl, _, rfl, src, o1, _, _, rfl, ho1, hs1, by omega, by omega, by omega, fun r1 H3 a1 b1 w1 => ?_⟩
      obtain ⟨n1, rfl⟩ := intN a1
      obtain ⟨o2, ho2, hs2⟩ := w1.src
      refine ⟨_, rfl, _, rfl, src, o2, _, _, rfl, ho2, hs2, by omega, by omega, by omega, fun r2 H4 a2 b2 w2 => ?_⟩
      obtain ⟨n2, rfl⟩ := intN a2
      obtain ⟨o3, ho3, hs3⟩ := w2.src
      refine ⟨(by decide : 4 ≤ sizeLine), fun p np => ?_⟩
      have nps : p ≠ src := (ne_of_none ho3 np).symm
      have sp := Same.up (o := .lst [.int 0, .int (((M : Nat) : Int) - 1), .int (n1 : Int), .int (n2 : Int)]) np
      refine ⟨_, rfl, src, o3, _, 4, rfl, sp _ _ ho3, hs3, by omega, by decide, by decide, fun r3 H5 a3 b3 w3 => ?_⟩
      obtain ⟨n3, rfl⟩ := intN a3
      have hp5 := w3.lstIn (upd_same (H := H4) (a := p)) nps
      obtain ⟨N, eN, ltN⟩ : ∃ N : Nat, ([.int 0, .int (((M : Nat) : Int) - 1), .int (n1 : Int), .int (n2 : Int)] : List V)[n3]? = some (.int (N : Nat)) ∧ N < M := by
        have : n3 = 0 ∨ n3 = 1 ∨ n3 = 2 ∨ n3 = 3 := by omega
        rcases this with rfl | rfl | rfl | rfl
        · exact ⟨0, rfl, by omega⟩
        · exact ⟨M - 1, by
            show some (V.int (((M : Nat) : Int) - 1)) = some (V.int ((M - 1 : Nat) : Int))
            rw [Int.natCast_sub pw1] <;> rfl, by omega⟩
        · exact ⟨n1, rfl, by omega⟩
        · exact ⟨n2, rfl, by omega⟩
      refine ⟨p, _, _, _, rfl, rfl, .inl (.inl hp5), atI_nat eN, ?_⟩
      have lwA := ((lw.trans (w1.trans w2)).pure sp).trans w3
      have hl5 : H5 l = some (.lst (iv ns)) := w3.someIn (sp _ _ ((w1.trans w2).someIn hl nls)) nls
      refine ⟨l, _, _, rfl, rfl, hl5, small_len (n := 100) (by rw [List.length_map]; omega), some (.int (0 + ((i : Nat) : Int))), ns ++ [N], rfl, (lwA.onL nl nls).mono (by omega), ?_, by rw [List.length_append, ln] <;> rfl, fun x hx => ?_⟩
      · rw [upd_same]
        unfold iv
        rw [List.map_append]
        rfl
      · rcases List.mem_append.mp hx with m | m
        · exact hN x m
        · rw [List.mem_singleton] at m
          rw [m]
          exact ltN
    · obtain ⟨y4, ns, rfl, lw, hl, ln, hN⟩ := hx
      rw [Int.toNat_natCast] at ln lw
      exact ⟨_, rfl, q _ l ns (lw.mono (by omega)) hl nl nls ln hN⟩
theorem ok_law_line (T : Tx K mg) : Good P w K mg base "_law_line" 2 ["_law_source_here", "_law_shape_here", "_law_numbers", "_law_low", "_law_high"] [] (fun vs H Q _ => ∃ (src a nb : Addr) (B : Nat) (h : Sh) (s : Sn) (ns : List Nat), vs = [.ref src, .ref a, .ref nb, .int (s.lo : Nat), .int (s.hi : Nat)] ∧ SA H src B ∧ SqT K H a h.vs ∧ h.Ok ∧ SqL K H nb (iv ns) ∧ nb ≠ src ∧ ns.length ≤ 16 ∧ (∀ N ∈ ns, N < 2 ^ h.d) ∧ s.lo ≤ s.hi ∧ 1 ≤ s.hi ∧ s.hi < 2 ^ 150 ∧
    ∀ (H' : Hp) (l : Addr) (ch : List Int), Lw src H H' (B + 1000) → H' l = some (.lst (zv ch)) → H l = none → l ≠ src → LineOk h s ns ch → Q (.ref l) H') := by
  refine mkGood T.f_law_line T.g_law_line sc_law_line (fun _ _ _ _ _ _ us hl => match us, hl with | [_, _, _, _, _], _ => rfl) (fun vs H Q E h => by obtain ⟨_, _, _, _, _, _, _, rfl, _⟩ := h; rfl) (fun cdv A outer s H vs Q E hr h => ?_)
  obtain ⟨src, a, nb, B, h, s, ns, rfl, ⟨⟨o, ho, hso⟩, hB⟩, hs, ok, hnb, nbs, lns, hN, hle, h1, hbig, q⟩ := h
  refine ⟨_, (pss_cons (ps_par3 (i := 5) (j := 6) (l := 7) rfl sc_law_line.nd rfl rfl rfl (by decide) (by decide) (by decide) rfl rfl rfl (pa_cons (pe_lst pa_nil) (pa_cons pe_int (pa_cons (pe_op op_sub (pe_go (ok_law_draw T) hr (pa_cons (pv 0) (pa_cons pe_int pa_nil))) pe_int) pa_nil))) (by rfl))
    (pss_cons (ps_for PassesOwn.never rfl (pi_list (pv 2)) (pg_name (i := 8) sc_law_line.nd rfl (by first | exact .inl rfl | exact .inr rfl))
    (pss_cons (ps_for PassesOwn.never rfl (pi_list (pe_go (ok_law_frame T) hr (pa_cons (pv 1) (pa_cons (pv 8) pa_nil)))) (pg_name (i := 9) sc_law_line.nd rfl (by first | exact .inl rfl | exact .inr rfl))
    (pss_cons (ps_if (pt_cmpR op_ne (pv 9) (pv 6) (nomark _))
    (pss_one (ps_expr (pe_bm PySem.F.plainAttrs_list PySem.F.slot_list_append PySem.F.type_list_append mt_append (pv 5) (pa_cons (pv 7) pa_nil)))) pss_nil)
    (pss_cons (ps_set (i := 7) sc_law_line.nd rfl (by first | exact .inl rfl | exact .inr rfl) (pe_op op_add (pv 7) (pe_ix ix_list (pe_lst (pa_cons (pv 3) (pa_cons (pv 4) (pa_cons (pe_op op_add (pv 3) (pe_go (ok_law_draw T) hr (pa_cons (pv 0) (pa_cons (pe_op op_add (pe_op op_sub (pv 4) (pv 3)) pe_int) pa_nil)))) pa_nil)))) (pe_go (ok_law_draw T) hr (pa_cons (pv 0) (pa_cons pe_int pa_nil))) (fun _ _ => rfl))))
    (pss_one (ps_set (i := 6) sc_law_line.nd rfl (by first | exact .inl rfl | exact .inr rfl) (pv 9))))))
    (pss_one (ps_set (i := 7) sc_law_line.nd rfl (by first | exact .inl rfl | exact .inr rfl) (pe_op op_add (pv 7) (pe_ix ix_list (pe_lst (pa_cons pe_int (pa_cons pe_int (pa_cons pe_int (pa_cons (pe_go (ok_law_draw T) hr (pa_cons (pv 0) (pa_cons (pe_op op_mul pe_int (pv 4)) pa_nil))) (pa_cons (pe_op op_mul pe_int (pv 4)) pa_nil)))))) (pe_go (ok_law_draw T) hr (pa_cons (pv 0) (pa_cons pe_int pa_nil))) (fun _ _ => rfl)))))))
    (pss_one (ps_ret (pv 5))))), ?_⟩
  obtain ⟨b1, b2, b3, b4, b5⟩ := sh_small ok
  obtain ⟨xo, rfl⟩ := srcO_lst hso
  refine ⟨by decide, fun l nl => ?_⟩
  have nls : l ≠ src := (ne_of_none ho nl).symm
  have s0 := Same.up (o := .lst []) nl
  refine ⟨_, rfl, src, _, B, 99, rfl, s0 _ _ ho, hso, by omega, by decide, by decide, fun r0 H1 a0 b0 w0 => ⟨_, _, rfl, rfl, _, _, _, rfl, ?_⟩⟩
  have lw0 : Lw src H H1 (B + 1) := ((Lw.refl ho hso).onL nl nls).trans w0
  have hl1 : H1 l = some (.lst []) := w0.someIn upd_same nls
  have lfr : ∀ N, (frL h N).length = h.n := fun N => by
    unfold frL
    rw [List.length_map, List.length_range]
  obtain ⟨t0, et0⟩ : ∃ t0 : Int, r0 - 50 = t0 := ⟨_, rfl⟩
  have start : [some (V.ref src), some (.ref a), some (.ref nb), some (.int (s.lo : Nat)), some (.int (s.hi : Nat)), some (.ref l), some (.int 1), some (.int (r0 - 50)), none, none] = [some (V.ref src), some (.ref a), some (.ref nb), some (.int (s.lo : Nat)), some (.int (s.hi : Nat)), some (.ref l), some (.int (lastL 1 (([] : List FrT).flatMap itm) : Nat)), some (.int (t0 + tot (([] : List FrT).flatMap itm))), none, none] := by
    have e0 : tot (([] : List FrT).flatMap itm) = 0 := rfl
    rw [e0, Int.add_zero, et0] <;> rfl
  refine ⟨_, rfl, nb, rfl, ⟨_, lw0.seq nbs hnb⟩, ?_⟩
  refine for_list (xs := iv ns) (fun k σ H' => ∃ (L : List FrT) (y8 y9 : Option V), σ = [some (.ref src), some (.ref a), some (.ref nb), some (.int (s.lo : Nat)), some (.int (s.hi : Nat)), some (.ref l), some (.int (lastL 1 (L.flatMap itm) : Nat)), some (.int (t0 + tot (L.flatMap itm))), y8, y9] ∧ Lw src H H' (B + 1 + 40 * k) ∧
      H' l = some (.lst (zv (chg 1 t0 (L.flatMap itm)))) ∧ (∀ x ∈ L, FrI h s x) ∧ L.map (·.1) = ns.take k ∧ (L.flatMap itm).length ≤ 14 * k) ⟨[], none, none, start, lw0, hl1, fun x hx => (by cases hx), rfl, Nat.le_refl _⟩ (fun k σ H' _ hx => ?_) (fun k x σ H' ex hx => ?_) (fun σ H' hx => ?_)
  · obtain ⟨_, _, _, _, lw, _⟩ := hx
    exact lw.seq nbs hnb
  · obtain ⟨L, y8, y9, rfl, lw, hl, hL, eL, lL⟩ := hx
    obtain ⟨N, rfl, eN⟩ := atN ex
    have hk : k < ns.length := (List.getElem?_eq_some_iff.mp eN).1
    have ltN := hN N (List.mem_of_getElem? eN)
    generalize eits : L.flatMap itm = its at hl lL
    refine ⟨_, rfl, _, rfl, a, h, N, rfl, lw.seqT ho hs, ok, fun H2 c s2 nc hc => ?_⟩
    obtain ⟨o1, ho1, hs1⟩ := lw.src
    have ncs : c ≠ src := (ne_of_none ho1 nc).symm
    have ncl : c ≠ l := (ne_of_none hl nc).symm
    refine ⟨c, rfl, ⟨_, .inl (.inl hc)⟩, ?_⟩
    have lz : (iv (frL h N)).length = h.n := by rw [List.length_map, lfr]
    refine for_list (xs := iv (frL h N)) (fun j σ H' => ∃ (fr : List (Nat × Int)) (y9 : Option V), σ = [some (.ref src), some (.ref a), some (.ref nb), some (.int (s.lo : Nat)), some (.int (s.hi : Nat)), some (.ref l), some (.int (lastL 1 (its ++ fr) : Nat)), some (.int (t0 + tot (its ++ fr))), some (.int (N : Nat)), y9] ∧ Lw src H H' (B + 1 + 40 * k + 2 * j) ∧
        H' l = some (.lst (zv (chg 1 t0 (its ++ fr)))) ∧ H' c = some (.lst (iv (frL h N))) ∧ fr.map (·.1) = (frL h N).take j ∧ ∀ y ∈ fr, (s.lo : Int) ≤ y.2 ∧ y.2 ≤ (s.hi : Int))
      ⟨[], y9, by rw [List.append_nil] <;> rfl, lw.pure s2, by rw [List.append_nil]; exact s2 _ _ hl, hc, by rw [List.take_zero] <;> rfl, fun y hy => by cases hy⟩ (fun j σ H' _ hx => ?_) (fun j x σ H' ex2 hx => ?_) (fun σ H' hx => ?_)
    · obtain ⟨_, _, _, _, _, hc', _⟩ := hx
      exact .inl (.inl hc')
    · obtain ⟨fr, y9, rfl, lw3, hl3, hc3, efr, hdur⟩ := hx
      obtain ⟨lv, rfl, elv⟩ := atN ex2
      have hj : j < h.n := by
        have := (List.getElem?_eq_some_iff.mp elv).1
        rw [lfr] at this
        exact this
      have lfr2 : fr.length = j := by
        have := congrArg List.length efr
        rw [List.length_map, List.length_take, lfr] at this
        omega
      have fin : ∀ (d : Int) (H5 : Hp), (s.lo : Int) ≤ d → d ≤ (s.hi : Int) → Lw src H H5 (B + 1 + 40 * k + 2 * (j + 1)) → H5 l = some (.lst (zv (chg 1 t0 (its ++ fr) ++ (if lv = lastL 1 (its ++ fr) then [] else [t0 + tot (its ++ fr)])))) → H5 c = some (.lst (iv (frL h N))) →
          ∃ (fr2 : List (Nat × Int)) (y9 : Option V), [some (V.ref src), some (.ref a), some (.ref nb), some (.int (s.lo : Nat)), some (.int (s.hi : Nat)), some (.ref l), some (.int (lv : Nat)), some (.int (t0 + tot (its ++ fr) + d)), some (.int (N : Nat)), some (.int (lv : Nat))] = [some (.ref src), some (.ref a), some (.ref nb), some (.int (s.lo : Nat)), some (.int (s.hi : Nat)), some (.ref l), some (.int (lastL 1 (its ++ fr2) : Nat)), some (.int (t0 + tot (its ++ fr2))), some (.int (N : Nat)), y9] ∧ Lw src H H5 (B + 1 + 40 * k + 2 * (j + 1)) ∧
            H5 l = some (.lst (zv (chg 1 t0 (its ++ fr2)))) ∧ H5 c = some (.lst (iv (frL h N))) ∧ fr2.map (·.1) = (frL h N).take (j + 1) ∧ ∀ y ∈ fr2, (s.lo : Int) ≤ y.2 ∧ y.2 ≤ (s.hi : Int) := by
        intro d H5 d1 d2 lw5 hl5 hc5
        refine ⟨fr ++ [(lv, d)], some (.int (lv : Nat)), ?_, lw5, ?_, hc5, ?_, fun y hy => ?_⟩
        · rw [← List.append_assoc, lastL_snoc, tot_snoc, Int.add_assoc]
        · rw [← List.append_assoc, chg_snoc]
          exact hl5
        · rw [List.map_append, efr, take_snoc elv] <;> rfl
        · rcases List.mem_append.mp hy with m | m
          · exact hdur y m
          · rw [List.mem_singleton] at m
            rw [m]
            exact ⟨d1, d2⟩
      refine ⟨_, rfl, _, rfl, rfl, _, rfl, ite2 (fun z => ?_) (fun z => ?_)⟩
      · have ne : lv ≠ lastL 1 (its ++ fr) := fun e => by
          rw [e, decide_eq_true rfl] at z
          cases z
        refine ⟨_, rfl, .inl ⟨rfl, _, .inl (.inl hl3)⟩, _, rfl, l, _, _, rfl, rfl, hl3, small_len (n := 1000) (by
          rw [List.length_map]
          refine Nat.le_trans (chg_len _ _ _) ?_
          rw [List.length_append]
          omega), ?_⟩
        have lw4 := lw3.onL (o := .lst (zv (chg 1 t0 (its ++ fr)) ++ [.int (t0 + tot (its ++ fr))])) nl nls
        have hc4 : (upd H' l (.lst (zv (chg 1 t0 (its ++ fr)) ++ [.int (t0 + tot (its ++ fr))]))) c = some (.lst (iv (frL h N))) := by
          rw [upd_ne ncl]
          exact hc3
        refine ⟨_, rfl, pick_dur (s := s) rfl rfl rfl lw4.src (by omega) hle hbig fun d H5 d1 d2 w5 => ⟨_, _, rfl, rfl, _, rfl, ?_⟩⟩
        refine fin d H5 d1 d2 ((lw4.trans w5).mono (by omega)) ?_ (w5.someIn hc4 ncs)
        rw [if_neg ne]
        refine w5.someIn ?_ nls
        rw [upd_same, zv_snoc]
      · have ne : lv = lastL 1 (its ++ fr) := by
          cases e : decide (lv = lastL 1 (its ++ fr)) with
          | true => exact of_decide_eq_true e
          | false =>
            exfalso
            apply z
            have : ¬ V.int (lv : Nat) = V.int (lastL 1 (its ++ fr) : Nat) := fun y => of_decide_eq_false e (by have := V.int.inj y; omega)
            rw [decide_eq_false this] <;> rfl
        refine ⟨_, rfl, pick_dur (s := s) rfl rfl rfl lw3.src (by omega) hle hbig fun d H5 d1 d2 w5 => ⟨_, _, rfl, rfl, _, rfl, ?_⟩⟩
        refine fin d H5 d1 d2 ((lw3.trans w5).mono (by omega)) ?_ (w5.someIn hc3 ncs)
        rw [if_pos ne, List.append_nil]
        exact w5.someIn hl3 nls
    · obtain ⟨fr, y9, rfl, lw3, hl3, hc3, efr, hdur⟩ := hx
      rw [lz] at lw3 efr
      have efr2 : fr.map (·.1) = frL h N := by
        rw [efr, ← lfr N, List.take_length]
      have lfr3 : fr.length = h.n := by
        have := congrArg List.length efr2
        rw [List.length_map, lfr] at this
        exact this
      -- the last level is that of a stop
      have last1 : lastL 1 (its ++ fr) = 1 := by
        have d1 := ok.d1
        have s1 := ok.s1
        rcases List.eq_nil_or_concat fr with e | ⟨fr0, y, e⟩
        · rw [e, List.length_nil] at lfr3
          omega
        · rw [List.concat_eq_append] at e
          subst e
          obtain ⟨lv, d⟩ := y
          rw [← List.append_assoc, lastL_snoc]
          have g : (frL h N)[h.n - 1]? = some lv := by
            rw [← efr2, List.map_append, List.getElem?_append_right (by rw [List.length_map]; rw [List.length_append, List.length_singleton] at lfr3; omega), List.length_map]
            rw [List.length_append, List.length_singleton] at lfr3
            rw [show h.n - 1 - fr0.length = 0 by omega]
            rfl
          unfold frL at g
          rw [List.getElem?_map, List.getElem?_range (by omega)] at g
          have e : fl h N (h.n - 1) = lv := Option.some.inj g
          rw [← e]
          unfold fl
          rw [if_neg (by omega), if_neg (by omega), if_neg (by omega)]
      refine ⟨_, rfl, pick_gap (s := s) rfl rfl lw3.src (by omega) h1 hbig fun d H5 d1 d2 w5 => ⟨_, _, rfl, rfl, ?_⟩⟩
      have efm : (L ++ [((N, fr, d) : FrT)]).flatMap itm = (its ++ fr) ++ [(1, d)] := by
        rw [List.flatMap_append, eits, List.flatMap_cons, List.flatMap_nil, List.append_nil, List.append_assoc]
        rfl
      refine ⟨L ++ [(N, fr, d)], some (.int (N : Nat)), y9, ?_, (lw3.trans w5).mono (by omega), ?_, fun x hx => ?_, ?_, ?_⟩
      · rw [efm, lastL_snoc, tot_snoc, last1, ← Int.add_assoc] <;> rfl
      · rw [efm, chg_snoc, if_pos last1.symm, List.append_nil]
        exact w5.someIn hl3 nls
      · rcases List.mem_append.mp hx with m | m
        · exact hL x m
        · rw [List.mem_singleton] at m
          rw [m]
          exact ⟨ltN, efr2, hdur, d1, d2⟩
      · rw [List.map_append, eL, take_snoc eN] <;> rfl
      · rw [efm, List.length_append, List.length_append, List.length_singleton]
        omega
  · obtain ⟨L, y8, y9, rfl, lw, hl, hL, eL, lL⟩ := hx
    have lz : (iv ns).length = ns.length := List.length_map _
    rw [lz] at eL lw
    rw [List.take_length] at eL
    exact ⟨_, rfl, q _ l _ (lw.mono (by omega)) hl nl nls ⟨t0, L, hL, eL, rfl⟩⟩
theorem ok_law_runs (T : Tx K mg) : Good P w K mg base "_law_runs" 2 ["_law_source_here", "_law_low", "_law_high"] [] (fun vs H Q _ => ∃ (src : Addr) (B : Nat) (s : Sn), vs = [.ref src, .int (s.lo : Nat), .int (s.hi : Nat)] ∧ SA H src B ∧ 1 ≤ s.lo ∧ s.lo ≤ s.hi ∧ s.hi < 2 ^ 150 ∧
    ∀ (H' : Hp) (l : Addr) (ch : List Int), Lw src H H' (B + 100) → H' l = some (.lst (zv ch)) → H l = none → l ≠ src → RunsIn s ch → Q (.ref l) H') := by
  refine mkGood T.f_law_runs T.g_law_runs sc_law_runs (fun _ _ _ _ _ _ us hl => match us, hl with | [_, _, _], _ => rfl) (fun vs H Q E h => by obtain ⟨_, _, _, rfl, _⟩ := h; rfl) (fun cdv A outer s H vs Q E hr h => ?_)
  obtain ⟨src, B, s, rfl, ⟨⟨o, ho, hso⟩, hB⟩, hl1, hle, hbig, q⟩ := h
  refine ⟨_, (pss_cons (ps_par (i := 3) (j := 4) rfl sc_law_runs.nd rfl rfl (by decide) rfl rfl (pa_cons (pe_lst pa_nil) (pa_cons pe_int pa_nil)) (by rfl))
    (pss_cons (ps_for PassesOwn.never rfl (pi_range1 (by rfl) T.n_range (pa_cons (pe_op op_mul pe_int (pe_op op_add pe_int (pe_go (ok_law_draw T) hr (pa_cons (pv 0) (pa_cons pe_int pa_nil))))) pa_nil)) (pg_name (i := 5) sc_law_runs.nd rfl (by first | exact .inl rfl | exact .inr rfl))
    (pss_cons (ps_expr (pe_bm PySem.F.plainAttrs_list PySem.F.slot_list_append PySem.F.type_list_append mt_append (pv 3) (pa_cons (pv 4) pa_nil)))
    (pss_cons (ps_set (i := 6) sc_law_runs.nd rfl (by first | exact .inl rfl | exact .inr rfl) (pe_op op_add pe_int (pe_go (ok_law_draw T) hr (pa_cons (pv 0) (pa_cons pe_int pa_nil)))))
    (pss_one (ps_set (i := 4) sc_law_runs.nd rfl (by first | exact .inl rfl | exact .inr rfl) (pe_op op_add (pe_op op_add (pv 4) (pe_op op_mul (pv 6) (pv 1))) (pe_go (ok_law_draw T) hr (pa_cons (pv 0) (pa_cons (pe_op op_add (pe_op op_mul (pv 6) (pe_op op_sub (pv 2) (pv 1))) pe_int) pa_nil)))))))))
    (pss_one (ps_ret (pv 3))))), ?_⟩
  obtain ⟨xo, rfl⟩ := srcO_lst hso
  refine ⟨by decide, fun l nl => ⟨_, _, rfl, ?_⟩⟩
  have nls : l ≠ src := (ne_of_none ho nl).symm
  have s0 := Same.up (o := .lst []) nl
  refine ⟨_, rfl, src, _, B, 4, rfl, s0 _ _ ho, hso, by omega, by decide, by decide, fun r0 H1 a0 b0 w0 => ⟨_, _, rfl, rfl, _, _, rfl, rfl, .inl ⟨by decide, by decide⟩, _, rfl, by omega, by omega, ?_⟩⟩
  obtain ⟨n0, rfl⟩ := intN a0
  have lw0 : Lw src H H1 (B + 1) := ((Lw.refl ho hso).onL nl nls).trans w0
  have h1l : H1 l = some (.lst []) := w0.someIn upd_same nls
  have eT : (2 * (1 + (n0 : Int))).toNat = 2 * (1 + n0) := by omega
  rw [eT]
  refine for_range (fun k σ H' => ∃ (ch : List Int) (tick : Int) (y5 y6 : Option V), σ = [some (.ref src), some (.int (s.lo : Nat)), some (.int (s.hi : Nat)), some (.ref l), some (.int tick), y5, y6] ∧ Lw src H H' (B + 1 + 2 * k) ∧ H' l = some (.lst (zv ch)) ∧ ch.length = k ∧
      (∀ i x y, ch[i]? = some x → ch[i + 1]? = some y → 1 ≤ y - x ∧ y - x ≤ 6 * (s.hi : Int)) ∧ (∀ x, ch[k - 1]? = some x → 1 ≤ tick - x ∧ tick - x ≤ 6 * (s.hi : Int))) ⟨[], 0, none, none, rfl, lw0, h1l, rfl, fun i x y e => by simp at e, fun x e => by simp at e⟩ (fun k σ H' hk hx => ?_) (fun σ H' hx => ?_)
  · obtain ⟨ch, tick, y5, y6, rfl, lw, hl, lc, hg, ht⟩ := hx
    refine ⟨_, rfl, .inl ⟨rfl, _, .inl (.inl hl)⟩, _, rfl, l, _, _, rfl, rfl, hl, small_len (n := 100) (by rw [List.length_map]; omega), ?_⟩
    have lw2 := lw.onL (o := .lst (zv ch ++ [.int tick])) nl nls
    have hl2 : (upd H' l (.lst (zv ch ++ [.int tick]))) l = some (.lst (zv (ch ++ [tick]))) := by
      rw [upd_same, zv_snoc]
    obtain ⟨o2, ho2, hs2⟩ := lw2.src
    refine ⟨_, rfl, src, o2, _, 6, rfl, ho2, hs2, by omega, by decide, by decide, fun r1 H3 a1 bb1 w1 => ⟨_, _, rfl, rfl, ?_⟩⟩
    obtain ⟨o3, ho3, hs3⟩ := w1.src
    have m0 : 0 ≤ (1 + r1) * ((s.hi : Int) - (s.lo : Int)) := Int.mul_nonneg (by omega) (by omega)
    have m1 : (1 + r1) * ((s.hi : Int) - (s.lo : Int)) ≤ 6 * ((s.hi : Int) - (s.lo : Int)) := Int.mul_le_mul_of_nonneg_right (by omega) (by omega)
    have m2 : 1 * (s.lo : Int) ≤ (1 + r1) * (s.lo : Int) := Int.mul_le_mul_of_nonneg_right (by omega) (by omega)
    have m3 : (1 + r1) * (s.lo : Int) ≤ 6 * (s.lo : Int) := Int.mul_le_mul_of_nonneg_right (by omega) (by omega)
    refine ⟨_, rfl, _, rfl, _, rfl, _, _, rfl, rfl, .inl ⟨by omega, by omega⟩, _, _, rfl, rfl, _, rfl, _, rfl, _, rfl, _, rfl, _, _, rfl, rfl, _, _, rfl, rfl, .inl ⟨by omega, by omega⟩, _, _, rfl, rfl, src, o3, _, (1 + r1) * ((s.hi : Int) - (s.lo : Int)) + 1, rfl, ho3, hs3, by omega, by omega, by omega, fun r2 H4 a2 bb2 w2 => ⟨_, _, rfl, rfl, ?_⟩⟩
    refine ⟨ch ++ [tick], tick + (1 + r1) * (s.lo : Int) + r2, some (.int (0 + ((k : Nat) : Int))), some (.int (1 + r1)), rfl, ((lw2.trans (w1.trans w2))).mono (by omega), (w1.trans w2).someIn hl2 nls, by rw [List.length_append, lc] <;> rfl, fun i x y ex ey => ?_, fun x ex => ?_⟩
    · by_cases hi : i + 1 < k
      · rw [List.getElem?_append_left (by omega)] at ex ey
        exact hg i x y ex ey
      · have h2 := (List.getElem?_eq_some_iff.mp ey).1
        rw [List.length_append, List.length_singleton, lc] at h2
        have ei : i + 1 = k := by omega
        rw [List.getElem?_append_left (by omega)] at ex
        rw [List.getElem?_append_right (by omega), lc, ei, Nat.sub_self] at ey
        have ey2 : tick = y := by simpa using ey
        rw [← ey2]
        exact ht x (by rw [← ei, Nat.add_sub_cancel]; exact ex)
    · rw [Nat.add_sub_cancel, List.getElem?_append_right (by omega), lc, Nat.sub_self] at ex
      have ex2 : tick = x := by simpa using ex
      rw [← ex2]
      omega
  · obtain ⟨ch, tick, y5, y6, rfl, lw, hl, lc, hg, ht⟩ := hx
    exact ⟨_, rfl, q _ l ch (lw.mono (by omega)) hl nl nls ⟨by omega, by omega, hg⟩⟩
end
end K89

set_option maxRecDepth 100000
set_option maxHeartbeats 2000000
namespace K89
open PySem PySem.Spec PyProof.Rows L2
theorem sc_law_read_right : FnScope ["_law_source_here", "_law_shape_here", "_law_receiver_here", "_law_signal", "_law_numbers", "_law_first", "_law_early", "_law_told", "_law_tick", "_law_word", "_law_number"] ["_law_source_here", "_law_shape_here", "_law_receiver_here", "_law_signal", "_law_numbers"] (defScope s_law_read_right) := ⟨rfl, rfl, rfl, by decide +kernel, rfl, by decide +kernel, by decide +kernel⟩
theorem sc_law_one_text : FnScope ["_law_source_here", "_law_shape_here", "_law_receiver_here", "_law_span", "_law_signal", "_law_numbers", "_law_low", "_law_high"] ["_law_source_here", "_law_shape_here", "_law_receiver_here", "_law_span", "_law_signal", "_law_numbers"] (defScope s_law_one_text) := ⟨rfl, rfl, rfl, by decide +kernel, rfl, by decide +kernel, by decide +kernel⟩
theorem sc_law_wider_right : FnScope ["_law_source_here", "_law_shape_here", "_law_span", "_law_signal", "_law_numbers", "_law_low", "_law_high", "_law_many", "_law_index", "_law_fewest", "_law_most", "_law_sure", "_law_one", "_law_other"] ["_law_source_here", "_law_shape_here", "_law_span", "_law_signal", "_law_numbers"] (defScope s_law_wider_right) := ⟨rfl, rfl, rfl, by decide +kernel, rfl, by decide +kernel, by decide +kernel⟩
theorem dp_zs {K : PySem.W.Frag} {H : Hp} : ∀ ns : List Int, DpAll K H (zv ns) (ns.map .int)
  | [] => .nil
  | N :: r => .cons (.int _) (dp_zs r)
theorem shp_zv (ns : List Int) : Shp (.list (ns.map .int)) 1 := Shp.list fun d hd => by
  obtain ⟨N, _, rfl⟩ := List.mem_map.mp hd
  exact .int
def firstOf (ch : List Int) : Int := ch.head?.getD 0
theorem first_ok {K : PySem.W.Frag} {σ : L2.St} {H : Hp} {Q' : VK} {c : Addr} {ch : List Int} (h3 : σ[3]? = some (some (.ref c))) (hc : SqL K H c (zv ch)) (k : ∀ H', Same H H' → Q' (.int (firstOf ch)) H') :
    (tIf (tTest (tOp (rNeD K) (tVar 3) (tLst tNil))) (tOp (rIxL K) (tVar 3) (tC (.int 0))) (tC (.int 0))) σ H Q' := by
  refine ⟨_, h3, by decide, fun e0 ne0 => ne_nil (ds := ch.map .int) (.lst ((Same.up ne0).seq hc) (dp_zs ch)) SqL.new (shp_zv ch) ⟨_, rfl, ?_⟩⟩
  have sE := Same.up (o := .lst []) ne0
  cases ch with
  | nil => exact iteF (k _ sE)
  | cons x ch => exact iteT ⟨_, h3, _, _, _, _, rfl, rfl, sE.seq hc, atI_nat (j := 0) rfl, k _ sE⟩
structure OneText (h : Sh) (s : Sn) (r : Rc) (ch : List Int) (ns : List Nat) : Prop where
  wy : wyA h s (rnOf ch) 0 = 1
  nth : Nth h s (rnOf ch) 0 0 ns
  tix : TIx h s (rnOf ch) 0 ns 0
  sm : ∀ i ps, StepsOk h s (rnOf ch) i ps → ps.length ≤ 512
  num : ∀ i N l, StepTo h s (rnOf ch) i N l → N < 512
  few : (meA h s (rnOf ch)).2.1 = ns.length
  sure : ∀ res : List (Option Nat), res.length = ns.length → (∀ k o, res[k]? = some o → SureAt h s (rnOf ch) k o) → res = ns.map some
  read : ∀ e : Int, 0 ≤ e → ∃ m, Rdg h r ch (firstOf ch - e) m (firstOf ch - e) ns
  len : ns.length ≤ 60
  lt : ∀ N ∈ ns, N < 2 ^ h.d
structure WideText (h : Sh) (s : Sn) (ch : List Int) (ns : List Nat) : Prop where
  idx : ∃ idx, TIx h s (rnOf ch) 0 ns idx ∧ idx < wyA h s (rnOf ch) 0 ∧ Nth h s (rnOf ch) 0 idx ns
  sm : ∀ i ps, StepsOk h s (rnOf ch) i ps → ps.length ≤ 512
  num : ∀ i N l, StepTo h s (rnOf ch) i N l → N < 512
  few : (meA h s (rnOf ch)).2.1 ≤ ns.length
  most : ns.length ≤ (meA h s (rnOf ch)).2.2
  sure : ∀ res : List (Option Nat), res.length = (meA h s (rnOf ch)).2.1 → (∀ k o, res[k]? = some o → SureAt h s (rnOf ch) k o) → ∀ (k N : Nat), res[k]? = some (some N) → ns[k]? = some N
  len : ns.length ≤ 60
  lt : ∀ N ∈ ns, N < 2 ^ h.d
section
variable {P : Program} {w : World} {K : PySem.W.Frag} {mg : PySem.Str → Option Value} {base : Heap}
theorem ok_law_read_right (T : Tx K mg) : Good P w K mg base "_law_read_right" 7 ["_law_source_here", "_law_shape_here", "_law_receiver_here", "_law_signal", "_law_numbers"] [] (fun vs H Q _ => ∃ (src a b c nb : Addr) (B : Nat) (h : Sh) (r : Rc) (ch : List Int) (ns : List Nat), vs = [.ref src, .ref a, .ref b, .ref c, .ref nb] ∧ SA H src B ∧ RdArg K H a b c h r ch ∧ c ≠ src ∧ SqL K H nb (iv ns) ∧ nb ≠ src ∧
    (∀ N ∈ ns, N < 2 ^ h.d) ∧ ns.length ≤ 60 ∧ (∀ e : Int, 0 ≤ e → ∃ m, Rdg h r ch (firstOf ch - e) m (firstOf ch - e) ns) ∧ ∀ H', Lw src H H' (B + 1) → Q (.bl true) H') := by
  refine mkGood T.f_law_read_right T.g_law_read_right sc_law_read_right (fun _ _ _ _ _ _ us hl => match us, hl with | [_, _, _, _, _], _ => rfl) (fun vs H Q E h => by obtain ⟨_, _, _, _, _, _, _, _, _, _, rfl, _⟩ := h; rfl) (fun cdv A outer s H vs Q E hr h => ?_)
  obtain ⟨src, a, b, c, nb, B, h, r, ch, ns, rfl, ⟨⟨o, ho, hso⟩, hB⟩, ra, ncs, hnb, nbs, hN, hns, hrd, q⟩ := h
  refine ⟨_, (pss_cons (ps_set (i := 5) sc_law_read_right.nd rfl (by first | exact .inl rfl | exact .inr rfl) (pe_ifExp (pt_cmpR (op_neD hr.units) (pv 3) (pe_lst pa_nil) (nomark _)) (pe_ix ix_list (pv 3) pe_int (fun _ _ => rfl)) pe_int))
    (pss_cons (ps_for PassesOwn.never rfl (pi_tup (pe_tup (pa_cons pe_int (pa_cons pe_int (pa_cons (pe_op op_sub (pe_ix ix_tup (pv 2) pe_int (fun _ _ => rfl)) pe_int) (pa_cons (pe_go (ok_law_draw T) hr (pa_cons (pv 0) (pa_cons (pe_op op_mul (pe_op op_mul pe_int (pe_ix ix_tup (pv 2) pe_int (fun _ _ => rfl))) (pe_ix ix_tup (pv 2) pe_int (fun _ _ => rfl))) pa_nil))) pa_nil)))))) (pg_name (i := 6) sc_law_read_right.nd rfl (by first | exact .inl rfl | exact .inr rfl))
    (pss_cons (ps_if (pt_cmpR op_ne (pe_callB call_repr_bl (by rfl) T.n_repr bt_repr (pa_cons (pe_go (ok_is_read_right T) hr (pa_cons (pv 1) (pa_cons (pv 2) (pa_cons (pe_op op_sub (pv 5) (pv 6)) (pa_cons (pv 3) (pa_cons (pv 4) pa_nil)))))) pa_nil)) pe_str (nomark _))
    (pss_one (ps_ret pe_bl)) pss_nil)
    (pss_cons (ps_set (i := 7) sc_law_read_right.nd rfl (by first | exact .inl rfl | exact .inr rfl) (pe_go (ok_readings T) hr (pa_cons (pv 1) (pa_cons (pv 2) (pa_cons (pe_op op_sub (pv 5) (pv 6)) (pa_cons (pv 3) pa_nil))))))
    (pss_one (ps_if (pt_cmpR (op_neD hr.units) (pe_lc rfl sc_law_read_right.nd (pi_list (pv 7)) (show BlkOk ["_law_source_here", "_law_shape_here", "_law_receiver_here", "_law_signal", "_law_numbers", "_law_first", "_law_early", "_law_told", "_law_tick", "_law_word", "_law_number"] (defScope s_law_read_right) _ [("_law_tick", 8), ("_law_word", 9), ("_law_number", 10)] from blkOk_by (by decide +kernel)) (fun _ _ _ _ _ => (pgT (K := K) (n := 3) rfl rfl (pgs_cons (pg_name (i := 8) sc_law_read_right.nd rfl (by first | exact .inl rfl | exact .inr rfl)) (pgs_cons (pg_name (i := 9) sc_law_read_right.nd rfl (by first | exact .inl rfl | exact .inr rfl)) (pgs_cons (pg_name (i := 10) sc_law_read_right.nd rfl (by first | exact .inl rfl | exact .inr rfl)) pgs_nil))))) (fun _ _ _ _ _ => pts_nil) (fun _ _ _ _ _ => (pe_tup (pa_cons (pv 9) (pa_cons (pv 10) pa_nil))))) (pe_lc rfl sc_law_read_right.nd (pi_list (pv 4)) (show BlkOk ["_law_source_here", "_law_shape_here", "_law_receiver_here", "_law_signal", "_law_numbers", "_law_first", "_law_early", "_law_told", "_law_tick", "_law_word", "_law_number"] (defScope s_law_read_right) _ [("_law_number", 10)] from blkOk_by (by decide +kernel)) (fun _ _ _ _ _ => (pg_name (i := 10) sc_law_read_right.nd rfl (by first | exact .inl rfl | exact .inr rfl))) (fun _ _ _ _ _ => pts_nil) (fun _ _ _ _ _ => (pe_tup (pa_cons pe_str (pa_cons (pv 10) pa_nil))))) (nomark _))
    (pss_one (ps_ret pe_bl)) pss_nil)))))
    (pss_one (ps_ret pe_bl)))), ?_⟩
  have g1 := ra.rok.g1
  have s1 := ra.rok.s1
  have gb := ra.rok.big
  have sb := ra.rok.bs
  refine first_ok (ch := ch) rfl ra.hc fun H1 sm1 => ?_
  have ra1 := ra.same sm1
  refine ⟨_, rfl, _, _, _, _, rfl, rfl, ra1.hr, rfl, _, _, rfl, rfl, _, rfl, _, rfl, _, _, _, _, rfl, rfl, ra1.hr, rfl, _, _, rfl, rfl, .inl ⟨by decide, by decide⟩, _, rfl, _, _, _, _, rfl, rfl, ra1.hr, rfl, _, _, rfl, rfl, .inr ⟨by omega, by omega⟩, src, o, B, 40 * (r.g : Int) * (r.st : Int), rfl, sm1 _ _ ho, hso, by omega, ?_, ?_, fun rd H2 d0 d1 w2 => ?_⟩
  · exact Int.mul_pos (by omega) (by omega)
  · have m1 : 40 * (r.g : Int) * (r.st : Int) ≤ 40 * (r.g : Int) * 2 ^ 60 := Int.mul_le_mul_of_nonneg_left (by omega) (by omega)
    omega
  refine ⟨(by decide : 4 ≤ sizeLine), fun tp ntp => ?_⟩
  have lw2 : Lw src H H2 (B + 1) := ((Lw.refl ho hso).pure sm1).trans w2
  have st := Same.up (o := .tup [.int 0, .int 1, .int ((r.g : Int) - 1), .int rd]) ntp
  have lw3 := lw2.pure st
  obtain ⟨xo, rfl⟩ := srcO_lst hso
  have raK : ∀ {H3 : Hp}, Lw src H H3 (B + 1) → RdArg K H3 a b c h r ch := fun lw => ⟨lw.seqT ho ra.hs, ra.ok, lw.seqT ho ra.hr, ra.rok, lw.seq ncs ra.hc, ra.inc, ra.len⟩
  refine ⟨tp, rfl, ⟨_, SqT.new⟩, ?_⟩
  refine for_tup (xs := [.int 0, .int 1, .int ((r.g : Int) - 1), .int rd]) (fun i σ H3 => ∃ y6 y7, σ = [some (.ref src), some (.ref a), some (.ref b), some (.ref c), some (.ref nb), some (.int (firstOf ch)), y6, y7, none, none, none] ∧ Lw src H H3 (B + 1) ∧ H3 tp = some (.tup [.int 0, .int 1, .int ((r.g : Int) - 1), .int rd])) ⟨none, none, rfl, lw3, upd_same⟩ (fun i σ H3 _ hx => ?_) (fun i x σ H3 ex hx => ?_) (fun σ H3 hx => ?_)
  · obtain ⟨_, _, _, _, e⟩ := hx
    exact .inl (.inl e)
  · obtain ⟨y6, y7, rfl, lw, htp⟩ := hx
    obtain ⟨e, e0, rfl⟩ : ∃ e : Int, 0 ≤ e ∧ x = .int e := by
      match i, ex with
      | 0, ex => exact ⟨0, by omega, (Option.some.inj ex).symm⟩
      | 1, ex => exact ⟨1, by omega, (Option.some.inj ex).symm⟩
      | 2, ex => exact ⟨_, by omega, (Option.some.inj ex).symm⟩
      | 3, ex => exact ⟨rd, d0, (Option.some.inj ex).symm⟩
      | i + 4, ex => simp at ex
    obtain ⟨m, hm⟩ := hrd e e0
    refine ⟨_, rfl, _, rfl, _, rfl, _, rfl, _, _, rfl, rfl, _, rfl, _, rfl, a, b, c, nb, h, r, firstOf ch - e, ch, m, ns, rfl, raK lw, lw.seq nbs hnb, hN, hns, hm, fun H4 s4 => ?_⟩
    refine ⟨true, rfl, rfl, _, rfl, ite2 (fun z => ?_) (fun _ => ?_)⟩
    · exact absurd z (by decide)
    have lw4 := lw.pure s4
    refine ⟨_, rfl, _, rfl, _, rfl, _, rfl, _, _, rfl, rfl, _, rfl, a, b, c, h, r, firstOf ch - e, ch, m, ns, rfl, raK lw4, by omega, hm, fun H5 l xs s5 hl hx => ?_⟩
    have lw5 := lw4.pure s5
    have htp5 := s5 _ _ (s4 _ _ htp)
    have len : xs.length = ns.length := Paired.length hx
    have hb5 : SqL K H5 nb (iv ns) := lw5.seq nbs hnb
    refine ⟨_, rfl, l, rfl, ⟨xs, hl⟩, fun D1 nD => ?_⟩
    refine cw_list (xs := xs) (fun i H' => Same H5 H' ∧ ∃ ys, H' D1 = some (.lst ys) ∧ GdL K H' ys (ns.take i)) ⟨Same.up nD, [], upd_same, .nil⟩ (fun i H' _ hp => hp.1.seq hl) (fun i x H' ex hp => ?_) (fun H6 hp => ?_)
    · obtain ⟨sm, ys, hD, hg⟩ := hp
      obtain ⟨N, eN, ta, st, rfl, ha⟩ := Paired.getl hx ex
      refine ⟨_, _, rfl, sm.seqT ha, rfl, _, _, rfl, _, _, rfl, _, _, rfl, rfl, rfl, ?_⟩
      refine ⟨_, rfl, _, rfl, (by decide : 2 ≤ sizeLine), fun p np => ?_⟩
      have hD' : (upd H' p (.tup [.str "good", .int (N : Nat)])) D1 = some (.lst ys) := by rw [upd_ne (ne_of_none hD np)]; exact hD
      refine ⟨ys, hD', small_len (n := 1000) (by rw [Paired.length hg, List.length_take]; omega), ?_⟩
      refine ⟨Same.onL nD (sm.trans (Same.up np)), _, upd_same, ?_⟩
      rw [take_snoc eN]
      refine Paired.snoc (Paired.mapP (hg.same (Same.up np)) fun _ _ ⟨a, e, z⟩ => ⟨a, e, SqT.onL hD' z⟩) ⟨p, rfl, SqT.onL hD' SqT.new⟩
    · obtain ⟨sm, ys, hD, hg⟩ := hp
      rw [len, List.take_length] at hg
      refine ⟨_, rfl, nb, rfl, ⟨_, sm.seq hb5⟩, fun D2 n2 => ?_⟩
      refine cw_list (xs := iv ns) (fun i H' => Same H6 H' ∧ ∃ zs, H' D2 = some (.lst zs) ∧ GdL K H' zs (ns.take i)) ⟨Same.up n2, [], upd_same, .nil⟩ (fun i H' _ hp => hp.1.seq (sm.seq hb5)) (fun i x H' ex hp => ?_) (fun H7 hp => ?_)
      · obtain ⟨sm2, zs, hD2, hg2⟩ := hp
        obtain ⟨N, rfl, eN⟩ := atN ex
        refine ⟨rfl, _, rfl, (by decide : 2 ≤ sizeLine), fun p np => ?_⟩
        have hD' : (upd H' p (.tup [.str "good", .int (N : Nat)])) D2 = some (.lst zs) := by rw [upd_ne (ne_of_none hD2 np)]; exact hD2
        refine ⟨zs, hD', small_len (n := 1000) (by rw [Paired.length hg2, List.length_take]; omega), ?_⟩
        refine ⟨Same.onL n2 (sm2.trans (Same.up np)), _, upd_same, ?_⟩
        rw [take_snoc eN]
        refine Paired.snoc (Paired.mapP (hg2.same (Same.up np)) fun _ _ ⟨a, e, z⟩ => ⟨a, e, SqT.onL hD' z⟩) ⟨p, rfl, SqT.onL hD' SqT.new⟩
      · obtain ⟨sm2, zs, hD2, hg2⟩ := hp
        have lz : (iv ns).length = ns.length := List.length_map _
        rw [lz, List.take_length] at hg2
        refine ne_self (d := .list (gdD ns)) (.lst (sm2.seq (.inl (.inl hD))) (hg.same sm2).dp) (.lst (.inl (.inl hD2)) hg2.dp) (shp_gd ns) ⟨_, rfl, iteF ?_⟩
        exact ⟨_, _, rfl, lw5.pure (sm.trans sm2), sm2 _ _ (sm _ _ htp5)⟩
  · obtain ⟨_, _, _, lw, _⟩ := hx
    exact q _ lw
theorem wider {s : Sn} (lo' hi' : Nat) : Sn.vs ⟨lo', hi'⟩ = [.int (lo' : Nat), .int (hi' : Nat)] := rfl
/-- the sure numbers and the numbers sent, as data -/
theorem dp_some {K : PySem.W.Frag} {H : Hp} {l : Addr} {ns : List Nat} (h : H l = some (.lst ((ns.map some).map oV))) : Dp K H (.ref l) (.list (ns.map fun N => .int (N : Nat))) := by
  refine dp_iv (.inl (.inl ?_))
  rw [h, List.map_map]
  rfl
def spOne (K : PySem.W.Frag) : Sp := fun vs H Q _ => ∃ (src a b c nb sp : Addr) (B : Nat) (h : Sh) (s : Sn) (r : Rc) (ch : List Int) (ns : List Nat), vs = [.ref src, .ref a, .ref b, .ref sp, .ref c, .ref nb] ∧ SA H src B ∧ RcArg K H a c h s ch ∧ c ≠ src ∧ SqT K H sp s.vs ∧ SqT K H b r.vs ∧ r.Ok ∧
    SqL K H nb (iv ns) ∧ nb ≠ src ∧ OneText h s r ch ns ∧ ∀ H', Lw src H H' (B + 1) → Q (.bl true) H'
theorem ok_law_one_text (T : Tx K mg) : Good P w K mg base "_law_one_text" 11 ["_law_source_here", "_law_shape_here", "_law_receiver_here", "_law_span", "_law_signal", "_law_numbers"] [] (spOne K) := by
  refine mkGood T.f_law_one_text T.g_law_one_text sc_law_one_text (fun _ _ _ _ _ _ us hl => match us, hl with | [_, _, _, _, _, _], _ => rfl) (fun vs H Q E h => by obtain ⟨_, _, _, _, _, _, _, _, _, _, _, _, rfl, _⟩ := h; rfl) (fun cdv A outer s H vs Q E hr h => ?_)
  obtain ⟨src, a, b, c, nb, sp, B, h, s, r, ch, ns, rfl, sa, ra, ncs, hsp, hb, rok, hnb, nbs, one, q⟩ := h
  refine ⟨_, (pss_cons (ps_asg (pv 3) (pg_tup rfl (pgs_cons (pg_name (i := 6) sc_law_one_text.nd rfl (by first | exact .inl rfl | exact .inr rfl)) (pgs_cons (pg_name (i := 7) sc_law_one_text.nd rfl (by first | exact .inl rfl | exact .inr rfl)) pgs_nil))))
    (pss_cons (ps_if (PW.pt (pw_or (pt_cmpR op_ne (pe_go (ok_count_texts T) hr (pa_cons (pv 1) (pa_cons (pv 6) (pa_cons (pv 7) (pa_cons (pv 4) pa_nil))))) pe_int (nomark _)) (pw_or1 (pt_cmpR (op_neD hr.units) (pe_go (ok_nth_text T) hr (pa_cons (pv 1) (pa_cons (pv 6) (pa_cons (pv 7) (pa_cons (pv 4) (pa_cons pe_int pa_nil)))))) (pv 5) (nomark _)))))
    (pss_one (ps_ret pe_bl)) pss_nil)
    (pss_cons (ps_if (PW.pt (pw_or (pt_cmpR op_ne (pe_go (ok_text_index T) hr (pa_cons (pv 1) (pa_cons (pv 6) (pa_cons (pv 7) (pa_cons (pv 4) (pa_cons (pv 5) pa_nil)))))) pe_int (nomark _)) (pw_or1 (pt_cmpR (op_neD hr.units) (pe_go (ok_sure_numbers T) hr (pa_cons (pv 1) (pa_cons (pv 6) (pa_cons (pv 7) (pa_cons (pv 4) pa_nil))))) (pv 5) (nomark _)))))
    (pss_one (ps_ret pe_bl)) pss_nil)
    (pss_one (ps_ret (pe_go (ok_law_read_right T) hr (pa_cons (pv 0) (pa_cons (pv 1) (pa_cons (pv 2) (pa_cons (pv 4) (pa_cons (pv 5) pa_nil))))))))))), ?_⟩
  obtain ⟨⟨o, ho, hso⟩, hB⟩ := sa
  have lns := one.len
  refine ⟨_, rfl, sp, _, rfl, hsp, rfl, _, _, rfl, _, _, rfl, rfl, ?_⟩
  refine ⟨_, rfl, _, rfl, _, rfl, _, rfl, a, c, h, s, ch, rfl, ra, fun H1 s1 => ⟨rfl, _, rfl, ?_⟩⟩
  rw [one.wy]
  refine ite2 (fun z => absurd z (by decide)) (fun _ => ?_)
  refine ⟨_, rfl, _, rfl, _, rfl, _, rfl, a, c, h, s, ch, 0, ns, rfl, ra.same s1, by rw [one.wy]; decide, one.nth, fun H2 l s2 nl hl => ?_⟩
  have s12 := s1.trans s2
  refine ⟨_, rfl, ne_self (dp_iv (.inl (.inl hl))) (dp_iv (s12.seq hnb)) (shp_iv ns) ⟨_, rfl, iteF ?_⟩⟩
  refine ⟨_, rfl, _, rfl, _, rfl, _, rfl, _, rfl, a, c, nb, h, s, ch, ns, 0, rfl, ra.same s12, s12.seq hnb, one.lt, by omega, by rw [one.wy]; decide, one.tix, fun H3 s3 => ⟨rfl, _, rfl, ?_⟩⟩
  refine ite2 (fun z => absurd z (by decide)) (fun _ => ?_)
  have s13 := s12.trans s3
  refine ⟨_, rfl, _, rfl, _, rfl, _, rfl, a, c, h, s, ch, rfl, ra.same s13, by rw [one.wy]; decide, one.sm, one.num, by rw [one.few]; omega, fun H4 l4 res s4 hl4 lres hsure => ?_⟩
  have eres := one.sure res (by rw [lres, one.few]) hsure
  rw [eres] at hl4
  have s14 := s13.trans s4
  refine ⟨_, rfl, ne_self (dp_some hl4) (dp_iv (s14.seq hnb)) (shp_iv ns) ⟨_, rfl, iteF ?_⟩⟩
  refine ⟨_, rfl, _, rfl, _, rfl, _, rfl, _, rfl, src, a, b, c, nb, B, h, r, ch, ns, rfl, ⟨⟨o, s14 _ _ ho, hso⟩, hB⟩, ⟨s14.seqT ra.hs, ra.ok, s14.seqT hb, rok, s14.seq ra.hc, ra.sig.inc, by have := ra.sig.len; omega⟩, ncs, s14.seq hnb, nbs, one.lt, lns, one.read, fun H5 lw => ?_⟩
  refine q _ (((Lw.refl ho hso).pure s14).trans lw)
def spWide (K : PySem.W.Frag) : Sp := fun vs H Q _ => ∃ (src a c nb sp : Addr) (B : Nat) (h : Sh) (s : Sn) (ch : List Int) (ns : List Nat), vs = [.ref src, .ref a, .ref sp, .ref c, .ref nb] ∧ SA H src B ∧ SqT K H a h.vs ∧ h.Ok ∧ SqL K H c (zv ch) ∧ c ≠ src ∧ SqT K H sp s.vs ∧ 1 ≤ s.lo ∧ s.lo ≤ s.hi ∧ s.hi < 2 ^ 150 ∧
    SqL K H nb (iv ns) ∧ nb ≠ src ∧ (∀ s2 : Sn, s2.Ok → s2.lo ≤ s.lo → s.hi ≤ s2.hi → SigOk s2 ch ∧ WideText h s2 ch ns) ∧ ∀ H', Lw src H H' (B + 2) → Q (.bl true) H'
theorem ok_law_wider_right (T : Tx K mg) : Good P w K mg base "_law_wider_right" 11 ["_law_source_here", "_law_shape_here", "_law_span", "_law_signal", "_law_numbers"] [] (spWide K) := by
  refine mkGood T.f_law_wider_right T.g_law_wider_right sc_law_wider_right (fun _ _ _ _ _ _ us hl => match us, hl with | [_, _, _, _, _], _ => rfl) (fun vs H Q E h => by obtain ⟨_, _, _, _, _, _, _, _, _, _, rfl, _⟩ := h; rfl) (fun cdv A outer s H vs Q E hr h => ?_)
  obtain ⟨src, a, c, nb, sp, B, h, s, ch, ns, rfl, ⟨⟨o, ho, hso⟩, hB⟩, hs, ok, hc, ncs, hsp, l1, le, big, hnb, nbs, wd, q⟩ := h
  refine ⟨_, (pss_cons (ps_par (i := 5) (j := 6) rfl sc_law_wider_right.nd rfl rfl (by decide) rfl rfl (pa_cons (pe_callB (call_max2 rfl) (by rfl) T.n_max bt_max (pa_cons pe_int (pa_cons (pe_op op_sub (pe_ix ix_tup (pv 2) pe_int (fun _ _ => rfl)) (pe_go (ok_law_draw T) hr (pa_cons (pv 0) (pa_cons (pe_op op_add (pe_op op_fdivW (pe_ix ix_tup (pv 2) pe_int (fun _ _ => rfl)) pe_int) pe_int) pa_nil)))) pa_nil))) (pa_cons (pe_op op_add (pe_ix ix_tup (pv 2) pe_int (fun _ _ => rfl)) (pe_go (ok_law_draw T) hr (pa_cons (pv 0) (pa_cons (pe_op op_add (pe_op op_fdivW (pe_ix ix_tup (pv 2) pe_int (fun _ _ => rfl)) pe_int) pe_int) pa_nil)))) pa_nil)) (by rfl))
    (pss_cons (ps_par (i := 7) (j := 8) rfl sc_law_wider_right.nd rfl rfl (by decide) rfl rfl (pa_cons (pe_go (ok_count_texts T) hr (pa_cons (pv 1) (pa_cons (pv 5) (pa_cons (pv 6) (pa_cons (pv 3) pa_nil))))) (pa_cons (pe_go (ok_text_index T) hr (pa_cons (pv 1) (pa_cons (pv 5) (pa_cons (pv 6) (pa_cons (pv 3) (pa_cons (pv 4) pa_nil)))))) pa_nil)) (by rfl))
    (pss_cons (ps_if (PW.pt (pw_or (pt_not (pt_chain op_le op_lt pe_int (pv 8) (pv 7))) (pw_or1 (pt_cmpR (op_neD hr.units) (pe_go (ok_nth_text T) hr (pa_cons (pv 1) (pa_cons (pv 5) (pa_cons (pv 6) (pa_cons (pv 3) (pa_cons (pv 8) pa_nil)))))) (pv 4) (nomark _)))))
    (pss_one (ps_ret pe_bl)) pss_nil)
    (pss_cons (ps_par (i := 9) (j := 10) rfl sc_law_wider_right.nd rfl rfl (by decide) rfl rfl (pa_cons (pe_go (ok_fewest_numbers T) hr (pa_cons (pv 1) (pa_cons (pv 5) (pa_cons (pv 6) (pa_cons (pv 3) pa_nil))))) (pa_cons (pe_go (ok_most_numbers T) hr (pa_cons (pv 1) (pa_cons (pv 5) (pa_cons (pv 6) (pa_cons (pv 3) pa_nil))))) pa_nil)) (by rfl))
    (pss_cons (ps_set (i := 11) sc_law_wider_right.nd rfl (by first | exact .inl rfl | exact .inr rfl) (pe_go (ok_sure_numbers T) hr (pa_cons (pv 1) (pa_cons (pv 5) (pa_cons (pv 6) (pa_cons (pv 3) pa_nil))))))
    (pss_cons (ps_if (PW.pt (pw_or (pt_not (pt_chain op_le op_le (pv 9) (pe_callB call_len_seq (by rfl) T.n_len bt_len (pa_cons (pv 4) pa_nil)) (pv 10))) (pw_or1 (pt_cmpR op_ne (pe_callB call_len_seq (by rfl) T.n_len bt_len (pa_cons (pv 11) pa_nil)) (pv 9) (nomark _)))))
    (pss_one (ps_ret pe_bl)) pss_nil)
    (pss_one (ps_ret (pe_cmpR (op_eqD hr.units) (pe_lc rfl sc_law_wider_right.nd (pi_zip (by rfl) T.n_zip (pa_cons (pv 11) (pa_cons (pv 4) pa_nil))) (show BlkOk ["_law_source_here", "_law_shape_here", "_law_span", "_law_signal", "_law_numbers", "_law_low", "_law_high", "_law_many", "_law_index", "_law_fewest", "_law_most", "_law_sure", "_law_one", "_law_other"] (defScope s_law_wider_right) _ [("_law_one", 12), ("_law_other", 13)] from blkOk_by (by decide +kernel)) (fun _ _ _ _ _ => (pgT (K := K) (n := 2) rfl rfl (pgs_cons (pg_name (i := 12) sc_law_wider_right.nd rfl (by first | exact .inl rfl | exact .inr rfl)) (pgs_cons (pg_name (i := 13) sc_law_wider_right.nd rfl (by first | exact .inl rfl | exact .inr rfl)) pgs_nil)))) (fun _ _ _ _ _ => (pts_one (PW.pt (pw_and (pt_cmpR op_notN (pv 12) pe_non (nomark _)) (pw_and1 (pt_cmpR op_ne (pv 12) (pv 13) (nomark _))))))) (fun _ _ _ _ _ => pe_int)) (pe_lst pa_nil) (nomark _)))))))))), ?_⟩
  obtain ⟨xo, rfl⟩ := srcO_lst hso
  -- the wider span
  refine ⟨_, rfl, _, _, _, _, rfl, rfl, hsp, rfl, _, rfl, _, rfl, _, _, _, _, rfl, rfl, hsp, rfl, _, _, rfl, rfl, ⟨by decide, (by decide : (3 : Int).natAbs.log2 < 9000)⟩, _, _, rfl, rfl, src, _, B, ((s.lo : Nat) : Int) / 3 + 1, rfl, ho, hso, by omega, by omega, by omega, fun r1 H1 a1 b1 w1 => ⟨_, _, rfl, rfl, 1, _, rfl, ?_⟩⟩
  obtain ⟨o1, ho1, hs1⟩ := w1.src
  have hsp1 := w1.seqT ho hsp
  refine ⟨_, rfl, _, _, _, _, rfl, rfl, hsp1, rfl, _, rfl, _, rfl, _, _, _, _, rfl, rfl, hsp1, rfl, _, _, rfl, rfl, ⟨by decide, (by decide : (3 : Int).natAbs.log2 < 9000)⟩, _, _, rfl, rfl, src, _, _, ((s.lo : Nat) : Int) / 3 + 1, rfl, ho1, hs1, by omega, by omega, by omega, fun r2 H2 a2 b2 w2 => ⟨_, _, rfl, rfl, _, _, rfl, ?_⟩⟩
  have lw2 := w1.trans w2
  obtain ⟨lo', elo, lo1, lo2⟩ : ∃ lo' : Nat, (if ((s.lo : Nat) : Int) - r1 > 1 then ((s.lo : Nat) : Int) - r1 else 1) = (lo' : Int) ∧ 1 ≤ lo' ∧ lo' ≤ s.lo := by
    refine ⟨(if ((s.lo : Nat) : Int) - r1 > 1 then ((s.lo : Nat) : Int) - r1 else 1).toNat, ?_, ?_, ?_⟩ <;> split <;> omega
  obtain ⟨hi', ehi, hi1, hi2⟩ : ∃ hi' : Nat, ((s.hi : Nat) : Int) + r2 = (hi' : Int) ∧ s.hi ≤ hi' ∧ hi' < 2 ^ 160 := ⟨(((s.hi : Nat) : Int) + r2).toNat, by omega, by omega, by omega⟩
  simp only [elo, ehi]
  obtain ⟨s2, e1, e2⟩ : ∃ s2 : Sn, s2.lo = lo' ∧ s2.hi = hi' := ⟨⟨lo', hi'⟩, rfl, rfl⟩
  subst e1 e2
  have s2ok : Sn.Ok s2 := ⟨lo1, by omega, Nat.lt_of_lt_of_le hi2 (Nat.pow_le_pow_right (by decide) (by decide))⟩
  obtain ⟨sig, wt⟩ := wd s2 s2ok lo2 hi1
  have ra : RcArg K H2 a c h s2 ch := ⟨lw2.seqT ho hs, ok, s2ok, lw2.seq ncs hc, sig⟩
  have hb2 := lw2.seq nbs hnb
  obtain ⟨idx, tix, lt, nth⟩ := wt.idx
  have pos : 0 < wyA h s2 (rnOf ch) 0 := by omega
  have lns := wt.len
  refine ⟨_, rfl, _, rfl, _, rfl, _, rfl, a, c, h, s2, ch, rfl, ra, fun H3 s3 => ?_⟩
  refine ⟨_, rfl, _, rfl, _, rfl, _, rfl, _, rfl, a, c, nb, h, s2, ch, ns, idx, rfl, ra.same s3, s3.seq hb2, wt.lt, by omega, pos, tix, fun H4 s4 => ⟨_, _, rfl, ?_⟩⟩
  have s34 := s3.trans s4
  refine ⟨_, rfl, _, _, rfl, rfl, _, rfl, ?_⟩
  rw [decide_eq_true (by omega : (0 : Int) ≤ (idx : Nat))]
  refine iteT ⟨_, rfl, _, _, rfl, rfl, _, rfl, ?_⟩
  rw [decide_eq_true (by omega : ((idx : Nat) : Int) < ((wyA h s2 (rnOf ch) 0 : Nat) : Int))]
  refine iteF ⟨_, rfl, _, rfl, _, rfl, _, rfl, _, rfl, a, c, h, s2, ch, idx, ns, rfl, ra.same s34, lt, nth, fun H5 l5 s5 nl5 hl5 => ?_⟩
  have s35 := s34.trans s5
  refine ⟨_, rfl, ne_self (dp_iv (.inl (.inl hl5))) (dp_iv (s35.seq hb2)) (shp_iv ns) ⟨_, rfl, iteF ?_⟩⟩
  refine ⟨_, rfl, _, rfl, _, rfl, _, rfl, a, c, h, s2, ch, rfl, ra.same s35, pos, fun H6 s6 => ?_⟩
  have s36 := s35.trans s6
  refine ⟨_, rfl, _, rfl, _, rfl, _, rfl, a, c, h, s2, ch, rfl, ra.same s36, pos, fun H7 s7 => ⟨_, _, rfl, ?_⟩⟩
  have s37 := s36.trans s7
  have few := wt.few
  have most := wt.most
  refine ⟨_, rfl, _, rfl, _, rfl, _, rfl, a, c, h, s2, ch, rfl, ra.same s37, pos, wt.sm, wt.num, by omega, fun H8 l8 res s8 hl8 lres hsure => ?_⟩
  have s38 := s37.trans s8
  have agree := wt.sure res lres hsure
  refine ⟨_, rfl, _, rfl, nb, _, rfl, .inl (s38.seq hb2), _, _, rfl, rfl, _, rfl, ?_⟩
  rw [List.length_map, decide_eq_true (by omega : (((meA h s2 (rnOf ch)).2.1 : Nat) : Int) ≤ ((ns.length : Nat) : Int))]
  refine iteT ⟨_, rfl, _, _, rfl, rfl, _, rfl, ?_⟩
  rw [decide_eq_true (by omega : ((ns.length : Nat) : Int) ≤ (((meA h s2 (rnOf ch)).2.2 : Nat) : Int))]
  refine iteF ⟨_, rfl, l8, _, rfl, .inl (.inl (.inl hl8)), _, rfl, rfl, _, rfl, ?_⟩
  rw [List.length_map, lres]
  refine ite2 (fun z => ?_) (fun _ => ?_)
  · rw [decide_eq_true rfl] at z
    exact absurd z (by decide)
  -- the sure numbers agree
  refine ⟨_, rfl, _, rfl, l8, nb, _, _, rfl, .inl (.inl hl8), s38.seq hb2, fun D nD => ?_⟩
  have nDl : l8 ≠ D := ne_of_none hl8 nD
  refine cw_zip (xs := res.map oV) (ys := iv ns) (fun i H' => Same H8 H' ∧ H' D = some (.lst [])) ⟨Same.up nD, upd_same⟩ (by rw [List.length_map, List.length_map]; omega) (fun i H' _ hp => ⟨.inl (.inl (hp.1 _ _ hl8)), hp.1.seq (s38.seq hb2)⟩) (fun i x y H' t ex ey nt hp => ?_) (fun H' hp => ?_)
  · obtain ⟨sm, hD⟩ := hp
    obtain ⟨N, rfl, eN⟩ := atN ey
    rw [List.getElem?_map] at ex
    obtain ⟨ov, eo, rfl⟩ := Option.map_eq_some_iff.mp ex
    have st := Same.up (o := .tup [oV ov, .int (N : Nat)]) nt
    have fin : Same H8 (upd H' t (.tup [oV ov, .int (N : Nat)])) ∧ (upd H' t (.tup [oV ov, .int (N : Nat)])) D = some (.lst []) := ⟨sm.trans st, st _ _ hD⟩
    refine ⟨t, _, rfl, SqT.new, rfl, _, _, rfl, _, _, rfl, rfl, rfl, ?_⟩
    cases ov with
    | none => exact ⟨_, rfl, rfl, false, rfl, iteF (iteF fin)⟩
    | some M =>
      have e3 := agree i M eo
      have e4 : M = N := by
        rw [eN] at e3
        exact (Option.some.inj e3).symm
      subst e4
      refine ⟨_, rfl, rfl, true, rfl, iteT ⟨_, rfl, _, rfl, rfl, false, ?_, iteF fin⟩⟩
      show V.bl (!decide (V.int (M : Nat) = V.int (M : Nat))) = .bl false
      rw [decide_eq_true rfl] <;> rfl
  · obtain ⟨sm, hD⟩ := hp
    refine ⟨by decide, fun e0 ne0 => eq_nil (ds := []) (n := 1) (.lst (.inl (.inl ((Same.up ne0) _ _ hD))) .nil) SqL.new (Shp.list fun d hd => by cases hd) ?_⟩
    exact q _ ((lw2.pure (s38.trans sm)).pure (Same.up ne0))
end
end K89

set_option maxRecDepth 100000
set_option maxHeartbeats 2000000
namespace K89
open PySem PySem.Spec PyProof.Rows L2
theorem sc_law : FnScope ["_law_script", "_law_at", "_law_source_here", "_law_shape_here", "_law_receiver_here", "_law_safe", "_law_low", "_law_high", "_law_numbers", "_law_signal", "_law_turn"] ["_law_script"] (defScope s_law) := ⟨rfl, rfl, rfl, by decide +kernel, rfl, by decide +kernel, by decide +kernel⟩
/-- what the law's mathematics must give -/
structure MathOk : Prop where
  line : ∀ (h : Sh) (r : Rc) (s : Sn) (ns : List Nat) (ch : List Int), h.Ok → r.Ok → s.Ok → lbLo h r ≤ (s.lo : Int) → (s.hi : Int) ≤ lbHi h r → ns.length ≤ 16 → LineOk h s ns ch → SigOk s ch ∧ OneText h s r ch ns
  wide : ∀ (h : Sh) (s : Sn) (ns : List Nat) (ch : List Int), h.Ok → s.Ok → ns.length ≤ 4 → LineOk h s ns ch → ∀ s2 : Sn, s2.Ok → s2.lo ≤ s.lo → s.hi ≤ s2.hi → SigOk s2 ch ∧ WideText h s2 ch ns
  runs : ∀ (h : Sh) (r : Rc) (s : Sn) (ch : List Int), h.Ok → r.Ok → s.Ok → lbLo h r ≤ (s.lo : Int) → (s.hi : Int) ≤ lbHi h r → RunsIn s ch → SigOk s ch ∧ (0 < wyA h s (rnOf ch) 0 → ∃ ns, Nth h s (rnOf ch) 0 0 ns ∧ OneText h s r ch ns)
theorem lbLo_pos {h : Sh} {r : Rc} (ok : r.Ok) : 1 ≤ lbLo h r := by
  have g1 := ok.g1
  have m : 1 * ((r.w : Int) + 1) ≤ (r.g : Int) * ((r.w : Int) + 1) := Int.mul_le_mul_of_nonneg_right (by omega) (by omega)
  unfold lbLo
  split <;> omega
theorem lbHi_big {h : Sh} {r : Rc} (hok : h.Ok) (ok : r.Ok) : lbHi h r < 2 ^ 150 := by
  obtain ⟨b1, b2, b3, b4, b5⟩ := sh_small hok
  have gb := ok.big
  have wb := ok.bw
  have sb := ok.bs
  have m1 : (r.st : Int) * (h.stop : Int) ≤ (r.st : Int) * 11 := Int.mul_le_mul_of_nonneg_left (by omega) (by omega)
  have m0 : 0 ≤ (r.st : Int) * (h.stop : Int) := Int.mul_nonneg (by omega) (by omega)
  have m2 : (r.g : Int) * ((r.w : Int) + (r.st : Int) * (h.stop : Int)) ≤ 2 ^ 60 * ((r.w : Int) + (r.st : Int) * (h.stop : Int)) := Int.mul_le_mul_of_nonneg_right (by omega) (by omega)
  have m3 : 0 ≤ (r.g : Int) * ((r.w : Int) + (r.st : Int) * (h.stop : Int)) := Int.mul_nonneg (by omega) (by omega)
  unfold lbHi
  have : (r.g : Int) * ((r.w : Int) + (r.st : Int) * (h.stop : Int)) / (h.stop : Int) ≤ (r.g : Int) * ((r.w : Int) + (r.st : Int) * (h.stop : Int)) := Int.ediv_le_self _ m3
  omega
theorem Lw.kT {K : PySem.W.Frag} {src x : Addr} {H0 H1 H2 : Hp} {B1 B2 : Nat} {xs : List V} (l : Lw src H0 H1 B1) (w : Lw src H1 H2 B2) (h : SqT K H1 x xs) : SqT K H2 x xs := by
  obtain ⟨ys, e⟩ := l.list
  exact w.seqT e h
theorem Lw.sa {src : Addr} {H H1 : Hp} {B : Nat} (l : Lw src H H1 B) (h : B ≤ 10 ^ 14) : SA H1 src B := ⟨l.src, h⟩
section
variable {P : Program} {w : World} {K : PySem.W.Frag} {mg : PySem.Str → Option Value} {base : Heap}
/-- an item of a list just made -/
theorem pick2 {K : PySem.W.Frag} {H : Hp} {p : Addr} {i : Nat} {xs : List V} {v : V} {Q : VK} (hp : H p = some (.lst xs)) (e : xs[i]? = some v) (q : Q v H) : rIxL K (.ref p) (.int (i : Nat)) H Q := ⟨p, _, _, _, rfl, rfl, .inl (.inl hp), atI_nat e, q⟩
/-- the wider spans, where the text is short -/
theorem wide_step {D : Ends} {σ : L2.St} {H : Hp} {src a c nb : Addr} {B : Nat} {h : Sh} {s : Sn} {ch : List Int} {ns : List Nat} (h2 : σ[2]? = some (some (.ref src))) (h3 : σ[3]? = some (some (.ref a))) (h6 : σ[6]? = some (some (.int (s.lo : Nat)))) (h7 : σ[7]? = some (some (.int (s.hi : Nat))))
    (h8 : σ[8]? = some (some (.ref nb))) (h9 : σ[9]? = some (some (.ref c))) (sa : ∃ o, H src = some o ∧ SrcO o B) (hB : B ≤ 10 ^ 13) (ha : SqT K H a h.vs) (ok : h.Ok) (hc : SqL K H c (zv ch)) (ncs : c ≠ src) (l1 : 1 ≤ s.lo) (le : s.lo ≤ s.hi) (big : s.hi < 2 ^ 150)
    (hnb : SqL K H nb (iv ns)) (nbs : nb ≠ src) (wd : ns.length ≤ 4 → ∀ s2 : Sn, s2.Ok → s2.lo ≤ s.lo → s.hi ≤ s2.hi → SigOk s2 ch ∧ WideText h s2 ch ns) (k : ∀ H', Lw src H H' (B + 2) → D.nx σ H') :
    (tIfS (tTest (tOp (rI0 fun i j => .bl (decide (i < j))) (tCB (fun xs H Q => ∃ p ys, xs = [.ref p] ∧ (SqL K H p ys ∨ SqT K H p ys) ∧ Q (.int ys.length) H) (tCons (tVar 8) tNil)) (tC (.int 5))))
      (tIfS (tNot (tB (tCall (spWide K) [] E0 (tCons (tVar 2) (tCons (tVar 3) (tCons (tTup (tCons (tVar 6) (tCons (tVar 7) tNil))) (tCons (tVar 9) (tCons (tVar 8) tNil)))))))) (tRet (tC (.bl false))) tNext) tNext) D σ H := by
  obtain ⟨o, ho, hso⟩ := sa
  refine ⟨_, h8, _, _, rfl, .inl hnb, _, _, rfl, rfl, _, rfl, ite2 (fun z => ?_) (fun _ => k H ((Lw.refl ho hso).mono (by omega)))⟩
  have lt : ns.length ≤ 4 := by
    have := of_decide_eq_true z
    rw [List.length_map] at this
    omega
  refine ⟨_, h2, _, h3, _, h6, _, h7, (by decide : 2 ≤ sizeLine), fun sp nsp => ?_⟩
  have s1 := Same.up (o := .tup [.int (s.lo : Nat), .int (s.hi : Nat)]) nsp
  have lw := (Lw.refl ho hso).pure s1
  refine ⟨_, h9, _, h8, src, a, c, nb, sp, B, h, s, ch, ns, rfl, lw.sa (by omega), s1.seqT ha, ok, s1.seq hc, ncs, SqT.new, l1, le, big, s1.seq hnb, nbs, wd lt, fun H2 w2 => ⟨true, rfl, iteF (k H2 (lw.trans w2))⟩⟩
theorem mkFn {x qual : PySem.Str} {st : Stmt} {N ps : List PySem.Str} {k : Nat} {sp : Sp} {fd : FuncData} (F : FunD K x qual (defArgs st) (defBody st) (defScope st) [] [] (ga K x) fd) (S : FnScope N ps (defScope st))
    (len : ∀ vs H Q E, sp vs H Q E → vs.length = ps.length) (body : BodyOk P w K mg base N qual st (ga K x) k sp) : FnOk P w K mg base CX0 (k + 1) (ga K x) fd ps sp := by
  refine F.ok S len fun cdv A outer s H vs Q E hr h => ?_
  obtain ⟨t, h1, h2⟩ := body cdv A outer s H vs Q E hr h
  exact ⟨t, h1.nox, h2⟩
/-- what law promises -/
def spLaw (K : PySem.W.Frag) : Sp := fun vs H Q _ => ∃ (sc : Addr) (ns : List Int), vs = [.ref sc] ∧ SqL K H sc (zv ns) ∧ ∀ H', Q (.bl true) H'
theorem ok_law (M : MathOk) (T : Tx K mg) {fd : FuncData} (F : FunD K "law" "law" (defArgs s_law) (defBody s_law) (defScope s_law) [] [] (ga K "law") fd) : FnOk P w K mg base CX0 12 (ga K "law") fd ["_law_script"] (spLaw K) := by
  refine mkFn F sc_law (fun vs H Q E h => by obtain ⟨_, _, rfl, _⟩ := h; rfl) (fun cdv A outer s H vs Q E hr h => ?_)
  obtain ⟨sc, script, rfl, hsc, q⟩ := h
  refine ⟨_, (pss_cons (ps_for PassesOwn.never rfl (pi_range1 (by rfl) T.n_range (pa_cons (pe_callB (call_max2 rfl) (by rfl) T.n_max bt_max (pa_cons pe_int (pa_cons (pe_callB (call_min2 rfl) (by rfl) T.n_min bt_min (pa_cons pe_int (pa_cons (pe_callB call_len_seq (by rfl) T.n_len bt_len (pa_cons (pv 0) pa_nil)) pa_nil))) pa_nil))) pa_nil)) (pg_name (i := 1) sc_law.nd rfl (by first | exact .inl rfl | exact .inr rfl))
    (pss_cons (ps_set (i := 2) sc_law.nd rfl (by first | exact .inl rfl | exact .inr rfl) (pe_go (ok_law_source T) hr (pa_cons (pv 0) (pa_cons (pv 1) pa_nil))))
    (pss_cons (ps_par (i := 3) (j := 4) rfl sc_law.nd rfl rfl (by decide) rfl rfl (pa_cons (pe_go (ok_law_shape T) hr (pa_cons (pv 2) pa_nil)) (pa_cons (pe_go (ok_law_receiver T) hr (pa_cons (pv 2) pa_nil)) pa_nil)) (by rfl))
    (pss_cons (ps_set (i := 5) sc_law.nd rfl (by first | exact .inl rfl | exact .inr rfl) (pe_go (ok_safe_lengths T) hr (pa_cons (pv 3) (pa_cons (pv 4) pa_nil))))
    (pss_one (ps_if (pt_cmpR op_notN (pv 5) pe_non (nomark _))
    (pss_cons (ps_set (i := 6) sc_law.nd rfl (by first | exact .inl rfl | exact .inr rfl) (pe_op op_add (pe_ix ix_tup (pv 5) pe_int (fun _ _ => rfl)) (pe_ix ix_list (pe_lst (pa_cons pe_int (pa_cons (pe_go (ok_law_draw T) hr (pa_cons (pv 2) (pa_cons (pe_op op_add (pe_op op_sub (pe_ix ix_tup (pv 5) pe_int (fun _ _ => rfl)) (pe_ix ix_tup (pv 5) pe_int (fun _ _ => rfl))) pe_int) pa_nil))) pa_nil))) (pe_go (ok_law_draw T) hr (pa_cons (pv 2) (pa_cons pe_int pa_nil))) (fun _ _ => rfl))))
    (pss_cons (ps_set (i := 7) sc_law.nd rfl (by first | exact .inl rfl | exact .inr rfl) (pe_ix ix_list (pe_lst (pa_cons (pe_ix ix_tup (pv 5) pe_int (fun _ _ => rfl)) (pa_cons (pv 6) (pa_cons (pe_op op_add (pv 6) (pe_go (ok_law_draw T) hr (pa_cons (pv 2) (pa_cons (pe_op op_add (pe_op op_sub (pe_ix ix_tup (pv 5) pe_int (fun _ _ => rfl)) (pv 6)) pe_int) pa_nil)))) pa_nil)))) (pe_go (ok_law_draw T) hr (pa_cons (pv 2) (pa_cons pe_int pa_nil))) (fun _ _ => rfl)))
    (pss_cons (ps_if (pt_cmpR op_ne (pe_callB call_repr_bl (by rfl) T.n_repr bt_repr (pa_cons (pe_go (ok_is_safe_span T) hr (pa_cons (pv 3) (pa_cons (pv 4) (pa_cons (pv 6) (pa_cons (pv 7) pa_nil))))) pa_nil)) pe_str (nomark _))
    (pss_one (ps_ret pe_bl)) pss_nil)
    (pss_cons (ps_set (i := 8) sc_law.nd rfl (by first | exact .inl rfl | exact .inr rfl) (pe_go (ok_law_text T) hr (pa_cons (pv 2) (pa_cons (pv 3) (pa_cons (pe_ix ix_list (pe_lst (pa_cons (pe_go (ok_law_draw T) hr (pa_cons (pv 2) (pa_cons pe_int pa_nil))) (pa_cons pe_int pa_nil))) (pe_callTy call_int1 (by rfl) T.n_int bt_int (pa_cons (pe_cmpR op_eq (pe_go (ok_law_draw T) hr (pa_cons (pv 2) (pa_cons pe_int pa_nil))) pe_int (nomark _)) pa_nil)) (fun _ _ => rfl)) pa_nil)))))
    (pss_cons (ps_set (i := 9) sc_law.nd rfl (by first | exact .inl rfl | exact .inr rfl) (pe_go (ok_law_line T) hr (pa_cons (pv 2) (pa_cons (pv 3) (pa_cons (pv 8) (pa_cons (pv 6) (pa_cons (pv 7) pa_nil)))))))
    (pss_cons (ps_if (pt_not (pt_val (pe_go (ok_law_one_text T) hr (pa_cons (pv 2) (pa_cons (pv 3) (pa_cons (pv 4) (pa_cons (pe_tup (pa_cons (pv 6) (pa_cons (pv 7) pa_nil))) (pa_cons (pv 9) (pa_cons (pv 8) pa_nil)))))))))
    (pss_one (ps_ret pe_bl)) pss_nil)
    (pss_cons (ps_if (pt_cmpR op_lt (pe_callB call_len_seq (by rfl) T.n_len bt_len (pa_cons (pv 8) pa_nil)) pe_int (nomark _))
    (pss_one (ps_if (pt_not (pt_val (pe_go (ok_law_wider_right T) hr (pa_cons (pv 2) (pa_cons (pv 3) (pa_cons (pe_tup (pa_cons (pv 6) (pa_cons (pv 7) pa_nil))) (pa_cons (pv 9) (pa_cons (pv 8) pa_nil))))))))
    (pss_one (ps_ret pe_bl)) pss_nil)) pss_nil)
    (pss_one (ps_for PassesOwn.never rfl (pi_range1 (by rfl) T.n_range (pa_cons pe_int pa_nil)) (pg_name (i := 10) sc_law.nd rfl (by first | exact .inl rfl | exact .inr rfl))
    (pss_cons (ps_set (i := 9) sc_law.nd rfl (by first | exact .inl rfl | exact .inr rfl) (pe_go (ok_law_runs T) hr (pa_cons (pv 2) (pa_cons (pv 6) (pa_cons (pv 7) pa_nil)))))
    (pss_one (ps_if (pt_val (pe_go (ok_is_possible T) hr (pa_cons (pv 3) (pa_cons (pv 6) (pa_cons (pv 7) (pa_cons (pv 9) pa_nil))))))
    (pss_cons (ps_set (i := 8) sc_law.nd rfl (by first | exact .inl rfl | exact .inr rfl) (pe_go (ok_nth_text T) hr (pa_cons (pv 3) (pa_cons (pv 6) (pa_cons (pv 7) (pa_cons (pv 9) (pa_cons pe_int pa_nil)))))))
    (pss_one (ps_if (pt_not (pt_val (pe_go (ok_law_one_text T) hr (pa_cons (pv 2) (pa_cons (pv 3) (pa_cons (pv 4) (pa_cons (pe_tup (pa_cons (pv 6) (pa_cons (pv 7) pa_nil))) (pa_cons (pv 9) (pa_cons (pv 8) pa_nil)))))))))
    (pss_one (ps_ret pe_bl)) pss_nil))) pss_nil)))))))))))) pss_nil))))))
    (pss_one (ps_ret (pe_cmpR (op_eqD hr.units) (pe_go (ok_safe_lengths T) hr (pa_cons (pe_tup (pa_cons pe_int (pa_cons pe_str (pa_cons pe_int pa_nil)))) (pa_cons (pe_tup (pa_cons pe_int (pa_cons pe_int (pa_cons pe_int pa_nil)))) pa_nil))) (pe_tup (pa_cons pe_int (pa_cons pe_int pa_nil))) (nomark _))))), ?_⟩
  refine ⟨_, rfl, _, _, rfl, .inl hsc, 4, _, rfl, 1, _, rfl, ?_⟩
  obtain ⟨n, en, n4⟩ : ∃ n : Nat, (if (if (((zv script).length : Nat) : Int) < 4 then (((zv script).length : Nat) : Int) else 4) > 1 then (if (((zv script).length : Nat) : Int) < 4 then (((zv script).length : Nat) : Int) else 4) else 1) = (n : Int) ∧ n ≤ 4 := by
    refine ⟨(if (if (((zv script).length : Nat) : Int) < 4 then (((zv script).length : Nat) : Int) else 4) > 1 then (if (((zv script).length : Nat) : Int) < 4 then (((zv script).length : Nat) : Int) else 4) else 1).toNat, ?_, ?_⟩ <;> split <;> split at * <;> omega
  rw [en]
  refine ⟨_, rfl, by omega, by omega, ?_⟩
  rw [Int.toNat_natCast]
  refine for_range (fun i σ H' => ∃ (y1 y2 y3 y4 y5 y6 y7 y8 y9 y10 : Option V), σ = [some (.ref sc), y1, y2, y3, y4, y5, y6, y7, y8, y9, y10] ∧ Same H H') ⟨none, none, none, none, none, none, none, none, none, none, rfl, .refl H⟩ (fun i σ HH hi hx => ?_) (fun σ H' hx => ?_)
  · obtain ⟨y1, y2, y3, y4, y5, y6, y7, y8, y9, y10, rfl, sm⟩ := hx
    have zi : (0 : Int) + (i : Nat) = (i : Nat) := Int.zero_add _
    rw [zi]
    refine ⟨_, rfl, _, rfl, sc, script, i, rfl, sm.seq hsc, by omega, fun src o nsrc hso => ?_⟩
    have l0 : Lw src (upd HH src o) (upd HH src o) 0 := Lw.refl upd_same hso
    have fin : ∀ {H2 : Hp} {B : Nat}, Lw src (upd HH src o) H2 B → Same H H2 := fun {H2 B} lw x u e => by
      have e1 := sm _ _ e
      have ne := ne_of_none e1 nsrc
      exact lw.same _ _ (by rw [hid_ne ne, upd_ne ne]; exact e1)
    have nscs : ∀ {H2 : Hp} {B : Nat}, Lw src (upd HH src o) H2 B → SqL K H2 sc (zv script) := fun lw => (fin lw).seq hsc
    -- the shape, the receiver
    refine ⟨_, rfl, src, 0, rfl, l0.sa (by omega), fun H1 a h w1 ha hok _ _ => ?_⟩
    have l1 := l0.trans w1
    refine ⟨_, rfl, src, _, rfl, l1.sa (by omega), fun H2 b r w2 hb rok => ⟨_, _, rfl, ?_⟩⟩
    have l2 := l1.trans w2
    have ha2 := l1.kT w2 ha
    refine ⟨_, rfl, _, rfl, a, b, h, r, rfl, ha2, hok, hb, rok, fun _ H3 s3 => ?_, fun hle H3 sf s3 hsf => ?_⟩
    · refine ⟨_, rfl, rfl, false, rfl, iteF ?_⟩
      exact ⟨_, _, _, _, _, _, _, _, _, _, rfl, fin (l2.pure s3)⟩
    · refine ⟨_, rfl, rfl, true, rfl, iteT ?_⟩
      have l3 := l2.pure s3
      have ha3 := s3.seqT ha2
      have hb3 := s3.seqT hb
      have lo1 := lbLo_pos (h := h) rok
      have hib := lbHi_big hok rok
      generalize elL : lbLo h r = L at hle hsf lo1
      generalize elG : lbHi h r = G at hle hsf hib
      -- low
      obtain ⟨o3, ho3, hs3⟩ := l3.src
      refine ⟨_, rfl, _, _, _, _, rfl, rfl, hsf, rfl, _, rfl, _, rfl, _, _, _, _, rfl, rfl, hsf, rfl, _, rfl, _, _, _, _, rfl, rfl, hsf, rfl, _, _, rfl, rfl, _, _, rfl, rfl, src, o3, _, G - L + 1, rfl, ho3, hs3, by omega, by omega, by omega, fun r1 H4 a1 b1 w4 => ⟨(by decide : 2 ≤ sizeLine), fun p4 np4 => ?_⟩⟩
      have l4 := l3.trans w4
      obtain ⟨o4, ho4, hs4⟩ := l4.src
      have np4s : p4 ≠ src := (ne_of_none ho4 np4).symm
      have s5 := Same.up (o := .lst [.int 0, .int r1]) np4
      have l5 := l4.pure s5
      obtain ⟨o5, ho5, hs5⟩ := l5.src
      refine ⟨_, rfl, src, o5, _, 2, rfl, ho5, hs5, by omega, by decide, by decide, fun r2 H6 a2 b2 w6 => ?_⟩
      obtain ⟨n2, rfl⟩ := intN a2
      have l6 := l5.trans w6
      have hp6 := w6.lstIn (upd_same (H := H4) (a := p4)) np4s
      obtain ⟨d, ed, d0, d1⟩ : ∃ d : Int, ([.int 0, .int r1] : List V)[n2]? = some (.int d) ∧ 0 ≤ d ∧ d ≤ G - L := by
        have : n2 = 0 ∨ n2 = 1 := by omega
        rcases this with rfl | rfl
        · exact ⟨_, rfl, by omega, by omega⟩
        · exact ⟨_, rfl, by omega, by omega⟩
      refine pick2 hp6 ed ⟨_, _, rfl, rfl, ?_⟩
      have hsf6 := l5.kT w6 (s5.seqT (l3.kT w4 hsf))
      have ha6 := l5.kT w6 (s5.seqT (l3.kT w4 ha3))
      have hb6 := l5.kT w6 (s5.seqT (l3.kT w4 hb3))
      obtain ⟨lo, elo⟩ := intN (r := L + d) (by omega)
      simp only [elo]
      -- high
      refine ⟨_, rfl, _, _, _, _, rfl, rfl, hsf6, rfl, _, rfl, _, rfl, _, rfl, _, rfl, _, _, _, _, rfl, rfl, hsf6, rfl, _, rfl, _, _, rfl, rfl, _, _, rfl, rfl, ?_⟩
      obtain ⟨o6, ho6, hs6⟩ := l6.src
      refine ⟨src, o6, _, G - lo + 1, rfl, ho6, hs6, by omega, by omega, by omega, fun r3 H7 a3 b3 w7 => ⟨_, _, rfl, rfl, (by decide : 3 ≤ sizeLine), fun p7 np7 => ?_⟩⟩
      have l7 := l6.trans w7
      obtain ⟨o7, ho7, hs7⟩ := l7.src
      have np7s : p7 ≠ src := (ne_of_none ho7 np7).symm
      have s8 := Same.up (o := .lst [.int G, .int (lo : Int), .int ((lo : Int) + r3)]) np7
      have l8 := l7.pure s8
      obtain ⟨o8, ho8, hs8⟩ := l8.src
      refine ⟨_, rfl, src, o8, _, 3, rfl, ho8, hs8, by omega, by decide, by decide, fun r4 H9 a4 b4 w9 => ?_⟩
      obtain ⟨n4', rfl⟩ := intN a4
      have l9 := l8.trans w9
      have hp9 := w9.lstIn (upd_same (H := H7) (a := p7)) np7s
      obtain ⟨hi, ehi, hlh, hhG⟩ : ∃ hi : Nat, ([.int G, .int (lo : Int), .int ((lo : Int) + r3)] : List V)[n4']? = some (.int (hi : Nat)) ∧ lo ≤ hi ∧ (hi : Int) ≤ G := by
        have : n4' = 0 ∨ n4' = 1 ∨ n4' = 2 := by omega
        rcases this with rfl | rfl | rfl
        · exact ⟨G.toNat, by
            show some (V.int G) = some (V.int ((G.toNat : Nat) : Int))
            rw [Int.toNat_of_nonneg (by omega)], by omega, by omega⟩
        · exact ⟨lo, rfl, by omega, by omega⟩
        · exact ⟨((lo : Int) + r3).toNat, by
            show some (V.int ((lo : Int) + r3)) = some (V.int ((((lo : Int) + r3).toNat : Nat) : Int))
            rw [Int.toNat_of_nonneg (by omega)], by omega, by omega⟩
      refine pick2 hp9 ehi ?_
      have ha9 := l8.kT w9 (s8.seqT (l6.kT w7 ha6))
      have hb9 := l8.kT w9 (s8.seqT (l6.kT w7 hb6))
      have hlo : L ≤ (lo : Int) := by omega
      have hbig : hi < 2 ^ 150 := by omega
      obtain ⟨sn, esl, esh⟩ : ∃ sn : Sn, sn.lo = lo ∧ sn.hi = hi := ⟨⟨lo, hi⟩, rfl, rfl⟩
      have snok : sn.Ok := ⟨by omega, by omega, by
        rw [esh]
        exact Nat.lt_of_lt_of_le hbig (Nat.pow_le_pow_right (by decide) (by decide))⟩
      have hlo2 : lbLo h r ≤ (sn.lo : Int) := by rw [elL, esl]; exact hlo
      have hhi2 : (sn.hi : Int) ≤ lbHi h r := by rw [elG, esh]; exact hhG
      subst esl esh
      clear s5 s8 hp6 hp9 hsf6 ha6 hb6 ho3 ho4 ho5 ho6 ho7 ho8
      -- the span is safe
      refine ⟨_, rfl, _, rfl, _, rfl, _, rfl, a, b, h, r, (sn.lo : Nat), (sn.hi : Nat), rfl, ha9, hok, hb9, rok, by omega, by omega, hlo2, hhi2, fun H10 s10 => ⟨true, rfl, rfl, _, rfl, ite2 (fun z => absurd z (by decide)) (fun _ => ?_)⟩⟩
      have l10 := l9.pure s10
      have ha10 := s10.seqT ha9
      have hb10 := s10.seqT hb9
      obtain ⟨o10, ho10, hs10⟩ := l10.src
      -- the text
      refine ⟨_, rfl, _, rfl, _, rfl, src, o10, _, 5, rfl, ho10, hs10, by omega, by decide, by decide, fun r5 H11 a5 b5 w11 => ⟨(by decide : 2 ≤ sizeLine), fun p11 np11 => ?_⟩⟩
      obtain ⟨n5, rfl⟩ := intN a5
      have l11 := l10.trans w11
      obtain ⟨o11, ho11, hs11⟩ := l11.src
      have np11s : p11 ≠ src := (ne_of_none ho11 np11).symm
      have s12 := Same.up (o := .lst [.int (n5 : Int), .int 16]) np11
      have l12 := l11.pure s12
      obtain ⟨o12, ho12, hs12⟩ := l12.src
      refine ⟨_, rfl, src, o12, _, 4, rfl, ho12, hs12, by omega, by decide, by decide, fun r6 H13 a6 b6 w13 => ⟨rfl, .inr ⟨_, rfl, ?_⟩⟩⟩
      have l13 := l12.trans w13
      have hp13 := w13.lstIn (upd_same (H := H11) (a := p11)) np11s
      obtain ⟨bi, many, ebi, emany, m16⟩ : ∃ (bi many : Nat), (if decide (V.int r6 = V.int 0) = true then (1 : Int) else 0) = (bi : Int) ∧ ([.int (n5 : Int), .int 16] : List V)[bi]? = some (.int (many : Nat)) ∧ many ≤ 16 := by
        by_cases c : V.int r6 = V.int 0
        · exact ⟨1, 16, by rw [decide_eq_true c] <;> rfl, rfl, Nat.le_refl _⟩
        · exact ⟨0, n5, by rw [decide_eq_false c] <;> rfl, rfl, by omega⟩
      rw [ebi]
      refine pick2 hp13 emany ?_
      have ha13 := l12.kT w13 (s12.seqT (l10.kT w11 ha10))
      have hb13 := l12.kT w13 (s12.seqT (l10.kT w11 hb10))
      refine ⟨src, a, _, h, many, rfl, l13.sa (by omega), ha13, hok, m16, fun H14 nb ns w14 hnb nnb nbs lns hN => ?_⟩
      have l14 := l13.trans w14
      have ha14 := l13.kT w14 ha13
      have hb14 := l13.kT w14 hb13
      have qnb : SqL K H14 nb (iv ns) := .inl (.inl hnb)
      -- the line
      refine ⟨_, rfl, _, rfl, _, rfl, _, rfl, _, rfl, src, a, nb, _, h, sn, ns, rfl, l14.sa (by omega), ha14, hok, qnb, nbs, by omega, hN, snok.le, by omega, hbig, fun H15 c ch w15 hc nc cs lineok => ?_⟩
      have l15 := l14.trans w15
      have ha15 := l14.kT w15 ha14
      have hb15 := l14.kT w15 hb14
      have qnb15 : SqL K H15 nb (iv ns) := w15.seq nbs qnb
      obtain ⟨sig, one⟩ := M.line h r sn ns ch hok rok snok hlo2 hhi2 (by omega) lineok
      refine ⟨_, rfl, _, rfl, _, rfl, _, rfl, _, rfl, (by decide : 2 ≤ sizeLine), fun sp nsp => ?_⟩
      have s16 := Same.up (o := .tup [.int (sn.lo : Nat), .int (sn.hi : Nat)]) nsp
      have l16 := l15.pure s16
      have hc16 : SqL K (upd H15 sp (.tup [.int (sn.lo : Nat), .int (sn.hi : Nat)])) c (zv ch) := s16.seq (.inl (.inl hc))
      refine ⟨_, rfl, _, rfl, src, a, b, c, nb, sp, _, h, sn, r, ch, ns, rfl, l16.sa (by omega), ⟨s16.seqT ha15, hok, snok, hc16, sig⟩, cs, SqT.new, s16.seqT hb15, rok, s16.seq qnb15, nbs, one, fun H17 w17 => ⟨true, rfl, iteF ?_⟩⟩
      have l17 := l16.trans w17
      have ha17 := l16.kT w17 (s16.seqT ha15)
      have hb17 := l16.kT w17 (s16.seqT hb15)
      have qnb17 : SqL K H17 nb (iv ns) := w17.seq nbs (s16.seq qnb15)
      have qc17 : SqL K H17 c (zv ch) := w17.seq cs hc16
      refine wide_step (s := sn) (h := h) (ch := ch) (ns := ns) rfl rfl rfl rfl rfl rfl l17.src (by omega) ha17 hok qc17 cs (by omega) snok.le hbig qnb17 nbs (fun l4 => M.wide h sn ns ch hok snok l4 lineok) fun H18 w18 => ?_
      have l18 := l17.trans w18
      have ha18 := l17.kT w18 ha17
      have hb18 := l17.kT w18 hb17
      refine ⟨4, rfl, by decide, by decide, ?_⟩
      refine for_range (fun j σ H' => ∃ (y8 y9 y10 : Option V), σ = [some (.ref sc), some (.int (i : Nat)), some (.ref src), some (.ref a), some (.ref b), some (.ref sf), some (.int (sn.lo : Nat)), some (.int (sn.hi : Nat)), y8, y9, y10] ∧ Lw src (upd HH src o) H' (2000 + 200 * j) ∧ SqT K H' a h.vs ∧ SqT K H' b r.vs) ⟨_, _, _, rfl, l18.mono (by omega), ha18, hb18⟩ (fun j σ H20 hj hx => ?_) (fun σ H20 hx => ?_)
      · obtain ⟨y8, y9, y10, rfl, l20, ha20, hb20⟩ := hx
        have hj4 : j < 4 := hj
        refine ⟨_, rfl, _, rfl, _, rfl, src, _, sn, rfl, l20.sa (by omega), by omega, snok.le, hbig, fun H21 c2 ch2 w21 hc2 nc2 c2s rin => ?_⟩
        have l21 := l20.trans w21
        have ha21 := l20.kT w21 ha20
        have hb21 := l20.kT w21 hb20
        obtain ⟨sig2, poss⟩ := M.runs h r sn ch2 hok rok snok hlo2 hhi2 rin
        have hc21 : SqL K H21 c2 (zv ch2) := .inl (.inl hc2)
        refine ⟨_, rfl, _, rfl, _, rfl, _, rfl, a, c2, h, sn, ch2, rfl, ⟨ha21, hok, snok, hc21, sig2⟩, fun H22 s22 => ⟨_, rfl, ?_⟩⟩
        have l22 := l21.pure s22
        by_cases pos : 0 < wyA h sn (rnOf ch2) 0
        · rw [decide_eq_true pos]
          obtain ⟨ns2, nth2, one2⟩ := poss pos
          have ha22 := s22.seqT ha21
          have hb22 := s22.seqT hb21
          have hc22 := s22.seq hc21
          refine iteT ⟨_, rfl, _, rfl, _, rfl, _, rfl, a, c2, h, sn, ch2, 0, ns2, rfl, ⟨ha22, hok, snok, hc22, sig2⟩, pos, nth2, fun H23 nb2 s23 nnb2 hnb2 => ?_⟩
          have l23 := l22.pure s23
          obtain ⟨o22, ho22, _⟩ := l22.src
          have nb2s : nb2 ≠ src := (ne_of_none ho22 nnb2).symm
          refine ⟨_, rfl, _, rfl, _, rfl, _, rfl, _, rfl, (by decide : 2 ≤ sizeLine), fun sp2 nsp2 => ?_⟩
          have s24 := Same.up (o := .tup [.int (sn.lo : Nat), .int (sn.hi : Nat)]) nsp2
          have s24' := s23.trans s24
          have l24 := l22.pure s24'
          refine ⟨_, rfl, _, rfl, src, a, b, c2, nb2, sp2, _, h, sn, r, ch2, ns2, rfl, l24.sa (by omega), ⟨s24'.seqT ha22, hok, snok, s24'.seq hc22, sig2⟩, c2s, SqT.new, s24'.seqT hb22, rok, s24.seq (.inl (.inl hnb2)), nb2s, one2, fun H25 w25 => ⟨true, rfl, iteF ?_⟩⟩
          exact ⟨_, _, _, rfl, (l24.trans w25).mono (by omega), l24.kT w25 (s24'.seqT ha22), l24.kT w25 (s24'.seqT hb22)⟩
        · rw [decide_eq_false pos]
          exact iteF ⟨_, _, _, rfl, l22.mono (by omega), s22.seqT ha21, s22.seqT hb21⟩
      · obtain ⟨y8, y9, y10, rfl, l20, _, _⟩ := hx
        exact ⟨_, _, _, _, _, _, _, _, _, _, rfl, fin l20⟩
  · obtain ⟨y1, y2, y3, y4, y5, y6, y7, y8, y9, y10, rfl, sm⟩ := hx
    -- the last words: the lengths of one shape and one receiver
    refine ⟨(by decide : 3 ≤ sizeLine), fun a na => ⟨(by decide : 3 ≤ sizeLine), fun b nb => ?_⟩⟩
    have hok : Sh.Ok ⟨8, 0, 1⟩ := ⟨by decide, by decide, by decide, by decide, by decide⟩
    have rok : Rc.Ok ⟨10, 8, 16⟩ := ⟨by decide, by decide, by decide, by decide, by decide⟩
    have eLo : lbLo ⟨8, 0, 1⟩ ⟨10, 8, 16⟩ = 153 := by decide +kernel
    have eHi : lbHi ⟨8, 0, 1⟩ ⟨10, 8, 16⟩ = 168 := by decide +kernel
    refine ⟨a, b, ⟨8, 0, 1⟩, ⟨10, 8, 16⟩, rfl, SqT.up SqT.new nb, hok, SqT.new, rok, fun z => ?_, fun _ H2 p s2 hp => ?_⟩
    · rw [eLo, eHi] at z
      exact absurd z (by decide)
    · rw [eLo, eHi] at hp
      refine ⟨(by decide : 2 ≤ sizeLine), fun t nt => ?_⟩
      refine eq_self (d := .tuple [.int 153, .int 168]) (n := 1) (.tup (hp.up nt) (.cons (.int _) (.cons (.int _) .nil))) (.tup SqT.new (.cons (.int _) (.cons (.int _) .nil))) (Shp.tuple fun d hd => ?_) (q _)
      rcases List.mem_cons.mp hd with rfl | hd
      · exact .int
      · rw [List.mem_singleton] at hd
        subst hd
        exact .int
end
end K89

set_option maxRecDepth 100000
set_option maxHeartbeats 2000000
/-! a number's places, and the frames that stand from a run on -/
namespace K89
open PySem L2
theorem bit_high {N d i : Nat} (h : N < 2 ^ d) (hi : d ≤ i) : bit N i = 0 := by
  unfold bit
  have : 2 ^ d ≤ 2 ^ i := Nat.pow_le_pow_right (by decide) hi
  rw [Nat.div_eq_of_lt (by omega)]
theorem low_succ (e i : Nat) : e % 2 ^ (i + 1) = e % 2 ^ i + 2 ^ i * bit e i := Nat.mod_pow_succ
theorem of_zero (b : Nat) : onesFrom b 0 = 0 := rfl
theorem of_succ (b m : Nat) : onesFrom (b + 1) (m + 1) = onesFrom (b + 1) m + 2 ^ (b + m) := by
  unfold onesFrom
  rw [List.range_succ, List.map_append, List.sum_append]
  have : b + 1 + m - 1 = b + m := by omega
  simp only [List.map_cons, List.map_nil, List.sum_cons, List.sum_nil, this, Nat.add_zero]
theorem of_lt {b num : Nat} (h : num < 2 ^ b) : ∀ m, num + onesFrom (b + 1) m < 2 ^ (b + m)
  | 0 => h
  | m + 1 => by
    have ih := of_lt h m
    rw [of_succ, ← Nat.add_assoc b m 1, Nat.pow_succ]
    omega
theorem ex_ones {b num e : Nat} (h : num < 2 ^ b) : ∀ m, e % 2 ^ (b + m) = num + onesFrom (b + 1) m → e % 2 ^ b = num ∧ ∀ i, b ≤ i → i < b + m → bit e i = 1
  | 0, he => ⟨he, fun i h1 h2 => by omega⟩
  | m + 1, he => by
    rw [of_succ, ← Nat.add_assoc b m 1, low_succ] at he
    have l1 := of_lt h m
    have l2 : e % 2 ^ (b + m) < 2 ^ (b + m) := Nat.mod_lt _ (Nat.pow_pos (by decide))
    have hb := bit_lt e (b + m)
    have e1 : bit e (b + m) = 1 := by
      have : bit e (b + m) = 0 ∨ bit e (b + m) = 1 := by omega
      rcases this with z | z
      · rw [z, Nat.mul_zero] at he
        omega
      · exact z
    rw [e1, Nat.mul_one] at he
    obtain ⟨a1, a2⟩ := ex_ones (e := e) h m (by omega)
    refine ⟨a1, fun i h1 h2 => ?_⟩
    by_cases hi : i = b + m
    · rw [hi]
      exact e1
    · exact a2 i h1 (by omega)
theorem ex_zero {a num e : Nat} (h : num < 2 ^ a) : ∀ m, e % 2 ^ (a + m) = num → e % 2 ^ a = num ∧ ∀ i, a ≤ i → i < a + m → bit e i = 0
  | 0, he => ⟨he, fun i h1 h2 => by omega⟩
  | m + 1, he => by
    rw [← Nat.add_assoc a m 1, low_succ] at he
    have l1 : 2 ^ a ≤ 2 ^ (a + m) := Nat.pow_le_pow_right (by decide) (by omega)
    have hb := bit_lt e (a + m)
    have e1 : bit e (a + m) = 0 := by
      have : bit e (a + m) = 0 ∨ bit e (a + m) = 1 := by omega
      rcases this with z | z
      · exact z
      · rw [z, Nat.mul_one] at he
        omega
    rw [e1, Nat.mul_zero, Nat.add_zero] at he
    obtain ⟨a1, a2⟩ := ex_zero (e := e) h m he
    refine ⟨a1, fun i h1 h2 => ?_⟩
    by_cases hi : i = a + m
    · rw [hi]
      exact e1
    · exact a2 i h1 (by omega)
theorem in_ones {b e : Nat} : ∀ m, (∀ i, b ≤ i → i < b + m → bit e i = 1) → e % 2 ^ (b + m) = e % 2 ^ b + onesFrom (b + 1) m
  | 0, _ => rfl
  | m + 1, h => by
    have ih := in_ones m fun i h1 h2 => h i h1 (by omega)
    rw [of_succ, ← Nat.add_assoc b m 1, low_succ, ih, h (b + m) (by omega) (by omega)]
    omega
theorem in_zero {a e : Nat} : ∀ m, (∀ i, a ≤ i → i < a + m → bit e i = 0) → e % 2 ^ (a + m) = e % 2 ^ a
  | 0, _ => rfl
  | m + 1, h => by
    have ih := in_zero m fun i h1 h2 => h i h1 (by omega)
    rw [← Nat.add_assoc a m 1, low_succ, ih, h (a + m) (by omega) (by omega)]
    omega
/-- f's levels, from a place on, fill the runs: k runs are taken -/
inductive Fr (h : Sh) (s : Sn) (f : Nat → Nat) : List Run → Nat → Nat → Prop
  | last {z : Nat} {o : Option Nat} {rs : List Run} {p many : Nat} : 1 ≤ many → many * s.lo ≤ z → z ≤ many * s.hi → p + many ≤ h.stop → (∀ j, p ≤ j → j < p + many → f j = 0) → (∀ j, p + many ≤ j → j < h.stop → f j = 1) → canEnd h s (p + many) o = true → Fr h s f ((z, o) :: rs) p 1
  | more {z o : Nat} {rs : List Run} {p many more k : Nat} : 1 ≤ many → many * s.lo ≤ z → z ≤ many * s.hi → 1 ≤ more → more * s.lo ≤ o → o ≤ more * s.hi → p + many + more < h.stop → (∀ j, p ≤ j → j < p + many → f j = 0) → (∀ j, p + many ≤ j → j < p + many + more → f j = 1) → Fr h s f rs (p + many + more) k → Fr h s f ((z, some o) :: rs) p (k + 1)
theorem fl_bit {h : Sh} {N i : Nat} (hi : i < h.d) : fl h N (i + 1) = bit N i := by
  unfold fl
  rw [if_neg (by omega), if_pos (by omega)]
  rfl
theorem fl_par {h : Sh} {N : Nat} (hp : h.p ≠ 0) : fl h N (h.d + 1) = plv h N := by
  have hq : h.q = 1 := if_neg hp
  unfold fl Sh.stop
  rw [if_neg (by omega), if_neg (by omega), if_pos (by omega)]
theorem fl_stop {h : Sh} {N j : Nat} (hj : h.stop ≤ j) : fl h N j = 1 := by
  have : h.stop = 1 + h.d + h.q := rfl
  unfold fl
  rw [if_neg (by omega), if_neg (by omega), if_neg (by omega)]
theorem fl_zero {h : Sh} {N : Nat} : fl h N 0 = 0 := rfl
theorem stop_le (h : Sh) : h.stop ≤ h.d + 2 ∧ h.d + 1 ≤ h.stop ∧ (h.p ≠ 0 → h.stop = h.d + 2) ∧ (h.p = 0 → h.stop = h.d + 1) := by
  unfold Sh.stop Sh.q
  split
  · exact ⟨by omega, by omega, fun z => absurd (by assumption) z, fun _ => by omega⟩
  · exact ⟨by omega, by omega, fun _ => by omega, fun z => absurd z (by assumption)⟩
/-- a leaf's members -/
theorem mem_lvs {h : Sh} {s : Sn} {r : Run} {rs : List Run} {p num ix : Nat} {q : Nat × Nat} : q ∈ lvs h s (r :: rs) p num ix ↔ ∃ many, many ∈ cnts s r.1 ((h.stop : Nat) - (p : Nat)) ∧ ((canEnd h s (p + many) r.2 = true ∧ ended h (p + many) num = some q.1 ∧ q.2 = ix + 1) ∨ ∃ more, more ∈ inner h s (p + many) r.2 ∧ q ∈ lvs h s rs (p + many + more) (num + onesFrom (p + many) more) (ix + 1)) := by
  show q ∈ List.flatMap _ _ ↔ _
  rw [List.mem_flatMap]
  refine exists_congr fun many => and_congr_right fun _ => ?_
  rw [List.mem_append, List.mem_flatMap]
  refine or_congr ?_ Iff.rfl
  obtain ⟨q1, q2⟩ := q
  split
  · rename_i c
    cases ee : ended h (p + many) num with
    | none =>
      simp
    | some e =>
      simp only [List.mem_singleton, Prod.mk.injEq, Option.some.injEq]
      constructor
      · rintro ⟨rfl, rfl⟩
        exact ⟨c, rfl, rfl⟩
      · rintro ⟨_, rfl, rfl⟩
        exact ⟨rfl, rfl⟩
  · rename_i c
    constructor
    · intro z
      cases z
    · exact fun z => absurd z.1 c
theorem mem_inner {h : Sh} {s : Sn} (ok : s.Ok) {r : Run} (rok : RunOk s r) {b more : Nat} : more ∈ inner h s b r.2 ↔ ∃ o, r.2 = some o ∧ 1 ≤ more ∧ more * s.lo ≤ o ∧ o ≤ more * s.hi ∧ b + more < h.stop := by
  cases e : r.2 with
  | none => simp [inner]
  | some o =>
    show more ∈ cnts s o _ ↔ _
    rw [mem_cnts ok (rok.o o e).2]
    constructor
    · rintro ⟨a1, a2, a3, a4⟩
      exact ⟨o, rfl, a1, a2, a3, by omega⟩
    · rintro ⟨o', e', a1, a2, a3, a4⟩
      obtain rfl := Option.some.inj e'
      exact ⟨a1, a2, a3, by omega⟩
end K89

set_option maxRecDepth 100000
set_option maxHeartbeats 2000000
namespace K89
open PySem L2
/-- what an ended number is -/
theorem ended_iff {h : Sh} {place num e : Nat} : ended h place num = some e ↔ e = num + onesFrom place (h.d + 1 - place) ∧ (h.p ≠ 0 → plv h e = if place ≤ h.d + 1 then 1 else 0) := by
  unfold ended
  generalize (if place ≤ h.d + 1 then 1 else 0) = X
  generalize num + onesFrom place (h.d + 1 - place) = Y
  by_cases c : h.p ≠ 0 ∧ plv h Y ≠ X
  · rw [if_pos c]
    constructor
    · intro z
      cases z
    · rintro ⟨rfl, z⟩
      exact absurd (z c.1) c.2
  · rw [if_neg c]
    constructor
    · intro z
      obtain rfl := Option.some.inj z
      refine ⟨rfl, fun hp => ?_⟩
      by_cases y : plv h Y = X
      · exact y
      · exact absurd ⟨hp, y⟩ c
    · rintro ⟨rfl, _⟩
      rfl
/-- from the bits to the levels -/
theorem zer_of {h : Sh} {p many N : Nat} (pm : p + many ≤ h.stop) (hb : ∀ i, p - 1 ≤ i → i < p + many - 1 → i < h.d → bit N i = 0) (hpl : h.p ≠ 0 → p + many = h.stop → plv h N = 0) : ∀ j, p ≤ j → j < p + many → fl h N j = 0 := fun j h1 h2 => by
  have hst := stop_le h
  match j with
  | 0 => rfl
  | i + 1 =>
    by_cases hi : i < h.d
    · rw [fl_bit hi]
      exact hb i (by omega) (by omega) hi
    · have hp0 : h.p ≠ 0 := fun z => by
        have := hst.2.2.2 z
        omega
      have e := hst.2.2.1 hp0
      have : i = h.d := by omega
      rw [this, fl_par hp0]
      exact hpl hp0 (by omega)
/-- a frame that ends -/
theorem end_piece {h : Sh} {p num many N : Nat} (hp : p < h.stop) (hn : num < 2 ^ (p - 1)) (m1 : 1 ≤ many) (pm : p + many ≤ h.stop) (ee : ended h (p + many) num = some N) : N < 2 ^ h.d ∧ N % 2 ^ (p - 1) = num ∧ (∀ j, p ≤ j → j < p + many → fl h N j = 0) ∧ ∀ j, p + many ≤ j → j < h.stop → fl h N j = 1 := by
  have hst := stop_le h
  have hnb : num < 2 ^ (p + many - 1) := Nat.lt_of_lt_of_le hn (Nat.pow_le_pow_right (by decide) (by omega))
  have eb : p + many = (p + many - 1) + 1 := by omega
  have ea : p + many - 1 = (p - 1) + (p + many - 1 - (p - 1)) := by omega
  obtain ⟨e1, epl⟩ := ended_iff.mp ee
  have ed : h.d + 1 - (p + many) = h.d - (p + many - 1) := by omega
  rw [ed] at e1
  generalize hb : p + many - 1 = b at *
  have e1' : N = num + onesFrom (b + 1) (h.d - b) := by rw [e1, eb]
  have lt : N < 2 ^ (b + (h.d - b)) := e1' ▸ of_lt hnb _
  have mm : N % 2 ^ (b + (h.d - b)) = num + onesFrom (b + 1) (h.d - b) := by rw [Nat.mod_eq_of_lt lt]; exact e1'
  obtain ⟨a1, a2⟩ := ex_ones hnb _ mm
  have ltd : N < 2 ^ h.d := by
    by_cases c : b ≤ h.d
    · have : b + (h.d - b) = h.d := by omega
      rwa [this] at lt
    · have : h.d - b = 0 := by omega
      rw [this, of_zero, Nat.add_zero] at e1'
      rw [e1']
      exact Nat.lt_of_lt_of_le hn (Nat.pow_le_pow_right (by decide) (by omega))
  rw [ea] at a1
  obtain ⟨b1, b2⟩ := ex_zero hn _ a1
  refine ⟨ltd, b1, zer_of pm (fun i h1 h2 _ => b2 i h1 (by omega)) fun hp0 hs => ?_, fun j h1 h2 => ?_⟩
  · rw [epl hp0, if_neg]
    have := hst.2.2.1 hp0
    omega
  · match j with
    | 0 => omega
    | i + 1 =>
      by_cases hi : i < h.d
      · rw [fl_bit hi]
        exact a2 i (by omega) (by omega)
      · have hp0 : h.p ≠ 0 := fun z => by
          have := hst.2.2.2 z
          omega
        have : i = h.d := by omega
        rw [this, fl_par hp0, epl hp0, if_pos (by omega)]
theorem inner_lt {h : Sh} {p num many more : Nat} (hn : num < 2 ^ (p - 1)) (m1 : 1 ≤ many) : num + onesFrom (p + many) more < 2 ^ (p + many + more - 1) := by
  have hnb : num < 2 ^ (p + many - 1) := Nat.lt_of_lt_of_le hn (Nat.pow_le_pow_right (by decide) (by omega))
  have eb : p + many = (p + many - 1) + 1 := by omega
  have := of_lt hnb more
  rw [← eb] at this
  have e : p + many + more - 1 = p + many - 1 + more := by omega
  rwa [e]
/-- a frame that goes on -/
theorem inner_piece {h : Sh} {p num many more N : Nat} (hn : num < 2 ^ (p - 1)) (m1 : 1 ≤ many) (o4 : p + many + more < h.stop) (s2 : N % 2 ^ (p + many + more - 1) = num + onesFrom (p + many) more) : N % 2 ^ (p - 1) = num ∧ (∀ j, p ≤ j → j < p + many → fl h N j = 0) ∧ ∀ j, p + many ≤ j → j < p + many + more → fl h N j = 1 := by
  have hst := stop_le h
  have hnb : num < 2 ^ (p + many - 1) := Nat.lt_of_lt_of_le hn (Nat.pow_le_pow_right (by decide) (by omega))
  have eb : p + many = (p + many - 1) + 1 := by omega
  have ea : p + many - 1 = (p - 1) + (p + many - 1 - (p - 1)) := by omega
  have e : p + many + more - 1 = p + many - 1 + more := by omega
  rw [e, eb] at s2
  have e' : p + many - 1 + 1 - 1 = p + many - 1 := by omega
  rw [e'] at s2
  obtain ⟨a1, a2⟩ := ex_ones hnb _ s2
  rw [ea] at a1
  obtain ⟨b1, b2⟩ := ex_zero hn _ a1
  by_cases m0 : more = 0
  · refine ⟨b1, zer_of (by omega) (fun i h1 h2 _ => b2 i h1 (by omega)) fun hp0 hs => absurd hs (by omega), fun j h1 h2 => by omega⟩
  refine ⟨b1, zer_of (by omega) (fun i h1 h2 _ => b2 i h1 (by omega)) fun hp0 hs => absurd hs (by omega), fun j h1 h2 => ?_⟩
  match j with
  | 0 => omega
  | i + 1 =>
    rw [fl_bit (by omega)]
    exact a2 i (by omega) (by omega)
theorem lvs_sound {h : Sh} {s : Sn} (ok : s.Ok) : ∀ (rs : List Run) (p num ix : Nat) (q : Nat × Nat), (∀ r ∈ rs, RunOk s r) → p < h.stop → num < 2 ^ (p - 1) → q ∈ lvs h s rs p num ix → q.1 < 2 ^ h.d ∧ q.1 % 2 ^ (p - 1) = num ∧ ∃ k, q.2 = ix + k ∧ k ≤ rs.length ∧ Fr h s (fl h q.1) rs p k
  | [], _, _, _, _, _, _, _, hq => by cases hq
  | r :: rs, p, num, ix, q, hr, hp, hn, hq => by
    have rok := hr r List.mem_cons_self
    obtain ⟨many, hm, hh⟩ := mem_lvs.mp hq
    obtain ⟨m1, m2, m3, m4⟩ := (mem_cnts ok rok.z1).mp hm
    have pm : p + many ≤ h.stop := by omega
    rcases hh with ⟨ce, ee, e2⟩ | ⟨more, hmo, hl⟩
    · obtain ⟨a1, a2, a3, a4⟩ := end_piece hp hn m1 pm ee
      exact ⟨a1, a2, 1, e2, by simp, .last m1 m2 m3 pm a3 a4 ce⟩
    · obtain ⟨o, eo, o1, o2, o3, o4⟩ := (mem_inner ok rok).mp hmo
      obtain ⟨s1, s2, k, s3, s4, s5⟩ := lvs_sound ok rs _ _ _ q (fun x m => hr x (List.mem_cons_of_mem _ m)) o4 (inner_lt (h := h) hn m1) hl
      obtain ⟨a1, a2, a3⟩ := inner_piece hn m1 o4 s2
      refine ⟨s1, a1, k + 1, by omega, by simp; omega, ?_⟩
      obtain ⟨z, o'⟩ := r
      simp only at eo m2 m3
      subst eo
      exact .more m1 m2 m3 o1 o2 o3 o4 a2 a3 s5
theorem lvs_full {h : Sh} {s : Sn} (ok : s.Ok) {N : Nat} (hN : N < 2 ^ h.d) : ∀ {rs : List Run} {p k : Nat}, Fr h s (fl h N) rs p k → ∀ ix, (∀ r ∈ rs, RunOk s r) → p < h.stop → (N, ix + k) ∈ lvs h s rs p (N % 2 ^ (p - 1)) ix := by
  intro rs p k F
  have hst := stop_le h
  have zer : ∀ (p many : Nat), 1 ≤ many → p + many ≤ h.stop → (∀ j, p ≤ j → j < p + many → fl h N j = 0) → N % 2 ^ (p + many - 1) = N % 2 ^ (p - 1) := fun p many h1 h2 hf => by
    have ea : p + many - 1 = (p - 1) + (p + many - 1 - (p - 1)) := by omega
    rw [ea]
    refine in_zero _ fun i i1 i2 => ?_
    by_cases hi : i < h.d
    · rw [← fl_bit hi]
      exact hf _ (by omega) (by omega)
    · exact bit_high hN (by omega)
  induction F with
  | @last z o rs p many m1 m2 m3 pm hz ho ce =>
    intro ix hr hp
    have rok := hr _ List.mem_cons_self
    refine mem_lvs.mpr ⟨many, (mem_cnts ok rok.z1).mpr ⟨m1, m2, m3, by omega⟩, .inl ⟨ce, ended_iff.mpr ⟨?_, fun hp0 => ?_⟩, rfl⟩⟩
    · have eb : p + many = (p + many - 1) + 1 := by omega
      have ed : h.d + 1 - (p + many) = h.d - (p + many - 1) := by omega
      rw [← zer p many m1 pm hz, ed]
      generalize p + many - 1 = b at *
      rw [eb, ← in_ones]
      · rw [Nat.mod_eq_of_lt]
        exact Nat.lt_of_lt_of_le hN (Nat.pow_le_pow_right (by decide) (by omega))
      · intro i i1 i2
        rw [← fl_bit (h := h) (by omega)]
        exact ho _ (by omega) (by omega)
    · have e := hst.2.2.1 hp0
      show plv h N = _
      rw [← fl_par hp0]
      split
      · exact ho _ (by omega) (by omega)
      · exact hz _ (by omega) (by omega)
  | @more z o rs p many more k m1 m2 m3 o1 o2 o3 o4 hz ho F ih =>
    intro ix hr hp
    have rok := hr _ List.mem_cons_self
    refine mem_lvs.mpr ⟨many, (mem_cnts ok rok.z1).mpr ⟨m1, m2, m3, by omega⟩, .inr ⟨more, (mem_inner ok rok).mpr ⟨o, rfl, o1, o2, o3, o4⟩, ?_⟩⟩
    have := ih (ix + 1) (fun x m => hr x (List.mem_cons_of_mem _ m)) o4
    have e : p + many + more - 1 = p + many - 1 + more := by omega
    have eb : p + many = (p + many - 1) + 1 := by omega
    rw [e, in_ones, zer p many m1 (by omega) hz, ← eb, Nat.add_right_comm ix 1 k] at this
    · exact this
    · intro i i1 i2
      rw [← fl_bit (h := h) (by omega)]
      exact ho _ (by omega) (by omega)
end K89

set_option maxRecDepth 100000
set_option maxHeartbeats 2000000
namespace K89
open PySem L2
theorem Fr.fst {h : Sh} {s : Sn} {f : Nat → Nat} {rs : List Run} {p k : Nat} (F : Fr h s f rs p k) : f p = 0 := by
  cases F with
  | last m1 _ _ _ hz _ _ => exact hz p (Nat.le_refl _) (by omega)
  | more m1 _ _ _ _ _ _ hz _ _ => exact hz p (Nat.le_refl _) (by omega)
theorem cnts_pw (s : Sn) (z : Nat) (most : Int) : (cnts s z most).Pairwise fun a b => a < b := by
  unfold cnts
  rw [List.pairwise_map]
  exact List.pairwise_lt_range.imp fun h => by omega
theorem inner_pw (h : Sh) (s : Sn) (b : Nat) (o : Option Nat) : (inner h s b o).Pairwise fun a b => a < b := by
  cases o with
  | none => exact .nil
  | some o => exact cnts_pw _ _ _
/-- no number stands twice -/
theorem lvs_pw {h : Sh} {s : Sn} (ok : s.Ok) : ∀ (rs : List Run) (p num ix : Nat), (∀ r ∈ rs, RunOk s r) → p < h.stop → num < 2 ^ (p - 1) → (lvs h s rs p num ix).Pairwise fun x y => x.1 ≠ y.1
  | [], _, _, _, _, _, _ => .nil
  | r :: rs, p, num, ix, hr, hp, hn => by
    have rok := hr r List.mem_cons_self
    have hr' : ∀ r ∈ rs, RunOk s r := fun x m => hr x (List.mem_cons_of_mem _ m)
    -- what a leaf shows
    have endL : ∀ many, many ∈ cnts s r.1 ((h.stop : Nat) - (p : Nat)) → ∀ x : Nat × Nat, x ∈ (if canEnd h s (p + many) r.2 = true then (match ended h (p + many) num with
        | some e => [(e, ix + 1)]
        | none => []) else []) → (∀ j, p ≤ j → j < p + many → fl h x.1 j = 0) ∧ ∀ j, p + many ≤ j → j < h.stop → fl h x.1 j = 1 := fun many hm x hx => by
      obtain ⟨m1, m2, m3, m4⟩ := (mem_cnts ok rok.z1).mp hm
      split at hx
      · cases ee : ended h (p + many) num with
        | none =>
          rw [ee] at hx
          cases hx
        | some e =>
          rw [ee] at hx
          obtain rfl := List.mem_singleton.mp hx
          exact (end_piece hp hn m1 (by omega) ee).2.2
      · cases hx
    have innL : ∀ many, many ∈ cnts s r.1 ((h.stop : Nat) - (p : Nat)) → ∀ more, more ∈ inner h s (p + many) r.2 → ∀ x : Nat × Nat, x ∈ lvs h s rs (p + many + more) (num + onesFrom (p + many) more) (ix + 1) → 1 ≤ more ∧ p + many + more < h.stop ∧ (∀ j, p ≤ j → j < p + many → fl h x.1 j = 0) ∧ (∀ j, p + many ≤ j → j < p + many + more → fl h x.1 j = 1) ∧ fl h x.1 (p + many + more) = 0 := fun many hm more hmo x hx => by
      obtain ⟨m1, m2, m3, m4⟩ := (mem_cnts ok rok.z1).mp hm
      obtain ⟨o, eo, o1, o2, o3, o4⟩ := (mem_inner ok rok).mp hmo
      obtain ⟨s1, s2, k, s3, s4, s5⟩ := lvs_sound ok rs _ _ _ x hr' o4 (inner_lt (h := h) hn m1) hx
      obtain ⟨a1, a2, a3⟩ := inner_piece hn m1 o4 s2
      exact ⟨o1, o4, a2, a3, s5.fst⟩
    have allL : ∀ many, many ∈ cnts s r.1 ((h.stop : Nat) - (p : Nat)) → ∀ x : Nat × Nat, x ∈ ((if canEnd h s (p + many) r.2 = true then (match ended h (p + many) num with
        | some e => [(e, ix + 1)]
        | none => []) else []) ++ (inner h s (p + many) r.2).flatMap fun more => lvs h s rs (p + many + more) (num + onesFrom (p + many) more) (ix + 1)) → (∀ j, p ≤ j → j < p + many → fl h x.1 j = 0) ∧ (p + many < h.stop → fl h x.1 (p + many) = 1) := fun many hm x hx => by
      rcases List.mem_append.mp hx with hx | hx
      · obtain ⟨a1, a2⟩ := endL many hm x hx
        exact ⟨a1, fun z => a2 _ (Nat.le_refl _) z⟩
      · obtain ⟨more, hmo, hx⟩ := List.mem_flatMap.mp hx
        obtain ⟨a1, a2, a3, a4, a5⟩ := innL many hm more hmo x hx
        exact ⟨a3, fun _ => a4 _ (Nat.le_refl _) (by omega)⟩
    show List.Pairwise _ (List.flatMap _ _)
    refine List.pairwise_flatMap.mpr ⟨fun many hm => List.pairwise_append.mpr ⟨?_, List.pairwise_flatMap.mpr ⟨fun more hmo => ?_, ?_⟩, fun x hx y hy => ?_⟩, ?_⟩
    · split
      · split
        · exact List.pairwise_singleton _ _
        · exact .nil
      · exact .nil
    · obtain ⟨m1, m2, m3, m4⟩ := (mem_cnts ok rok.z1).mp hm
      obtain ⟨o, eo, o1, o2, o3, o4⟩ := (mem_inner ok rok).mp hmo
      exact lvs_pw ok rs _ _ _ hr' o4 (inner_lt (h := h) hn m1)
    · refine List.Pairwise.imp_of_mem (fun {m m'} hmo hmo' lt x hx y hy e => ?_) (inner_pw h s (p + many) r.2)
      obtain ⟨_, _, _, _, a5⟩ := innL many hm m hmo x hx
      obtain ⟨_, _, _, b4, _⟩ := innL many hm m' hmo' y hy
      have := b4 (p + many + m) (by omega) (by omega)
      rw [← e, a5] at this
      cases this
    · intro e
      obtain ⟨more, hmo, hy⟩ := List.mem_flatMap.mp hy
      obtain ⟨_, b2, _, _, b5⟩ := innL many hm more hmo y hy
      have := (endL many hm x hx).2 (p + many + more) (by omega) b2
      rw [e, b5] at this
      cases this
    · refine List.Pairwise.imp_of_mem (fun {m m'} hm hm' lt x hx y hy e => ?_) (cnts_pw _ _ _)
      have m4 := ((mem_cnts ok rok.z1).mp hm').2.2.2
      have a := (allL m hm x hx).2 (by omega)
      have b := (allL m' hm' y hy).1 (p + m) (by omega) (by omega)
      rw [e, b] at a
      cases a
theorem pw_uniq {l : List (Nat × Nat)} (h : l.Pairwise fun x y => x.1 ≠ y.1) : ∀ {x y : Nat × Nat}, x ∈ l → y ∈ l → x.1 = y.1 → x = y := by
  induction h with
  | nil => intro x y hx
           cases hx
  | @cons a l ha _ ih =>
    intro x y hx hy e
    rcases List.mem_cons.mp hx with e1 | h1
    · rcases List.mem_cons.mp hy with e2 | h2
      · rw [e1, e2]
      · rw [e1] at e
        exact absurd e (ha y h2)
    · rcases List.mem_cons.mp hy with e2 | h2
      · rw [e2] at e
        exact absurd e.symm (ha x h1)
      · exact ih h1 h2 e
end K89

set_option maxRecDepth 100000
set_option maxHeartbeats 2000000
namespace K89
open PySem L2
theorem bit_add {x k : Nat} (hx : x < 2 ^ k) (i : Nat) : bit (x + 2 ^ k) i = bit x i + (if i = k then 1 else 0) := by
  by_cases e : i = k
  · rw [if_pos e, bit_high hx (Nat.le_of_eq e.symm), e]
    unfold bit
    have : 0 < 2 ^ k := Nat.pow_pos (by decide)
    rw [Nat.add_div_right x this, Nat.div_eq_of_lt hx]
  · rw [if_neg e, Nat.add_zero]
    by_cases lt : i < k
    · unfold bit
      obtain ⟨c, rfl⟩ : ∃ c, k = i + (c + 1) := ⟨k - i - 1, by omega⟩
      have : 0 < 2 ^ i := Nat.pow_pos (by decide)
      rw [Nat.pow_add, Nat.add_mul_div_left _ _ this, Nat.pow_succ, Nat.mul_comm, Nat.add_mul_mod_self_left]
    · have hk : x + 2 ^ k < 2 ^ (k + 1) := by
        rw [Nat.pow_succ]
        omega
      rw [bit_high hx (by omega), bit_high hk (by omega)]
theorem sum_at (k : Nat) : ∀ d, ((List.range d).map fun i => if i = k then 1 else 0).sum = if k < d then 1 else 0
  | 0 => by simp
  | d + 1 => by
    rw [List.range_succ, List.map_append, List.sum_append, sum_at k d]
    simp only [List.map_cons, List.map_nil, List.sum_cons, List.sum_nil]
    by_cases h1 : k < d
    · rw [if_pos h1, if_neg (by omega), if_pos (by omega)] <;> rfl
    · by_cases h2 : d = k
      · rw [if_neg h1, if_pos h2, if_pos (by omega)] <;> rfl
      · rw [if_neg h1, if_neg h2, if_neg (by omega)] <;> rfl
theorem ones_pow {d x k : Nat} (hx : x < 2 ^ k) (hk : k < d) : ones d (x + 2 ^ k) = ones d x + 1 := by
  unfold ones
  have e : (fun i => bit (x + 2 ^ k) i) = fun i => bit x i + (if i = k then 1 else 0) := funext (bit_add hx)
  rw [e, sum_add, sum_at, if_pos hk]
theorem ones_add {d num b : Nat} (hn : num < 2 ^ b) : ∀ m, b + m ≤ d → ones d (num + onesFrom (b + 1) m) = ones d num + m
  | 0, _ => rfl
  | m + 1, h => by
    have l := of_lt hn m
    rw [of_succ, ← Nat.add_assoc, ones_pow l (by omega), ones_add hn m (by omega)]
    rfl
theorem canPar_iff {h : Sh} (hk : h.Ok) {p num odd many : Nat} (hp : p < h.stop) (hn : num < 2 ^ (p - 1)) (ho : odd = ones h.d num % 2) (m1 : 1 ≤ many) (pm : p + many ≤ h.stop) : canPar h odd (p + many) = true ↔ ∃ e, ended h (p + many) num = some e := by
  have hst := stop_le h
  have hnb : num < 2 ^ (p + many - 1) := Nat.lt_of_lt_of_le hn (Nat.pow_le_pow_right (by decide) (by omega))
  have eb : p + many = (p + many - 1) + 1 := by omega
  have ed : h.d + 1 - (p + many) = h.d - (p + many - 1) := by omega
  have k : (∃ e, ended h (p + many) num = some e) ↔ (h.p ≠ 0 → plv h (num + onesFrom (p + many) (h.d + 1 - (p + many))) = if p + many ≤ h.d + 1 then 1 else 0) := by
    constructor
    · rintro ⟨e, he⟩
      obtain ⟨rfl, y⟩ := ended_iff.mp he
      exact y
    · exact fun y => ⟨_, ended_iff.mpr ⟨rfl, y⟩⟩
  rw [k]
  unfold canPar
  rw [decide_eq_true_iff]
  by_cases p0 : h.p = 0
  · exact ⟨fun _ z => absurd p0 z, fun _ => .inl p0⟩
  · have e2 := hst.2.2.1 p0
    have po : h.po = 0 ∨ h.po = 1 := by
      unfold Sh.po
      split
      · exact .inr rfl
      · exact .inl rfl
    have on : ones h.d (num + onesFrom (p + many) (h.d + 1 - (p + many))) = ones h.d num + (h.d + 1 - (p + many)) := by
      rw [ed]
      by_cases c : p + many - 1 ≤ h.d
      · have := ones_add (d := h.d) hnb (h.d - (p + many - 1)) (by omega)
        rw [← eb] at this
        exact this
      · have : h.d - (p + many - 1) = 0 := by omega
        rw [this]
        rfl
    unfold plv
    rw [on, e2, ho]
    generalize ones h.d num = a at *
    generalize h.po = o at *
    by_cases c : p + many ≤ h.d + 1
    · rw [if_pos c]
      constructor
      · rintro (z | z)
        · exact absurd z p0
        · intro _
          omega
      · intro z
        have := z p0
        right
        omega
    · rw [if_neg c]
      constructor
      · rintro (z | z)
        · exact absurd z p0
        · intro _
          omega
      · intro z
        have := z p0
        right
        omega
theorem odd_add {h : Sh} {p num odd many more : Nat} (hn : num < 2 ^ (p - 1)) (ho : odd = ones h.d num % 2) (m1 : 1 ≤ many) (o4 : p + many + more < h.stop) : (odd + more) % 2 = ones h.d (num + onesFrom (p + many) more) % 2 := by
  have hst := stop_le h
  have hnb : num < 2 ^ (p + many - 1) := Nat.lt_of_lt_of_le hn (Nat.pow_le_pow_right (by decide) (by omega))
  have eb : p + many = (p + many - 1) + 1 := by omega
  have := ones_add (d := h.d) hnb more (by omega)
  rw [← eb] at this
  rw [this, ho]
  omega
/-- how many ways a measure tells -/
def wv (o : Option Ms) : Nat := (o.getD (0, 0, 0)).1
theorem wv_comb (h : Sh) (s : Sn) (r : Run) (f : Stt → Option Ms) (st : Stt) : wv (comb h s r f st) = ((mvs h s r st).map fun x => wv (f x)).sum := by
  unfold comb
  generalize mvs h s r st = l
  have a : wv (msOf (soF f l)) = ((soF f l).map fun x => x.2.1).sum := by
    unfold msOf
    split
    · rename_i e
      rw [e]
      rfl
    · rfl
  rw [a]
  clear a
  induction l with
  | nil => rfl
  | cons x l ih =>
    unfold soF at ih ⊢
    rw [List.filterMap_cons, List.map_cons, List.sum_cons, ← ih]
    cases f x with
    | none => exact (Nat.zero_add _).symm
    | some t => rfl
theorem sum_fm {α β : Type} (f : α → List β) (g : β → Nat) : ∀ l : List α, ((l.flatMap f).map g).sum = (l.map fun x => ((f x).map g).sum).sum
  | [] => rfl
  | x :: l => by
    rw [List.flatMap_cons, List.map_append, List.sum_append, sum_fm f g l]
    rfl
theorem sum_cg {α : Type} {f g : α → Nat} : ∀ {l : List α}, (∀ x ∈ l, f x = g x) → (l.map f).sum = (l.map g).sum
  | [], _ => rfl
  | x :: l, h => by
    have := sum_cg (l := l) fun y m => h y (List.mem_cons_of_mem _ m)
    simp only [List.map_cons, List.sum_cons, this, h x List.mem_cons_self]
theorem drop_cons {α : Type} {rs0 rs : List α} {r : α} {ix : Nat} (e : rs0.drop ix = r :: rs) : rs0.drop (ix + 1) = rs := by
  have : rs0.drop (ix + 1) = (rs0.drop ix).drop 1 := by rw [List.drop_drop]
  rw [this, e]
  rfl
/-- the ways of a state are those of its leaves -/
theorem me_sum {h : Sh} (hk : h.Ok) {s : Sn} (ok : s.Ok) {rs0 : List Run} : ∀ (rs : List Run) (p num odd ix : Nat), rs0.drop ix = rs → (∀ r ∈ rs, RunOk s r) → p < h.stop → num < 2 ^ (p - 1) → odd = ones h.d num % 2 → (p ≠ 0 ∨ rs ≠ []) →
    wv (me h s rs (p, odd)) = ((lvs h s rs p num ix).map fun q => wv (me h s (rs0.drop q.2) (0, 0))).sum
  | [], p, _, odd, _, _, _, _, _, _, hne => by
    have p0 : p ≠ 0 := hne.elim id fun z => absurd rfl z
    show wv (fin0 (p, odd)) = 0
    unfold fin0
    rw [if_neg]
    · rfl
    · intro e
      exact p0 (congrArg Prod.fst e)
  | r :: rs, p, num, odd, ix, ers, hr, hp, hn, ho, _ => by
    have rok := hr r List.mem_cons_self
    have e1 := drop_cons ers
    show wv (comb h s r (me h s rs) (p, odd)) = _
    rw [wv_comb]
    unfold mvs lvs
    rw [sum_fm, sum_fm]
    refine sum_cg fun many hm => ?_
    obtain ⟨m1, m2, m3, m4⟩ := (mem_cnts ok rok.z1).mp hm
    have pm : p + many ≤ h.stop := by omega
    rw [List.map_append, List.map_append, List.sum_append, List.sum_append]
    congr 1
    · have cp := canPar_iff hk hp hn ho m1 pm
      show ((if (canEnd h s (p + many) r.2 && canPar h odd (p + many)) = true then [((0 : Nat), (0 : Nat))] else []).map _).sum = _
      by_cases c : canEnd h s (p + many) r.2 = true
      · by_cases c2 : canPar h odd (p + many) = true
        · obtain ⟨e, he⟩ := cp.mp c2
          rw [if_pos (by rw [c, c2] <;> rfl), if_pos c, he]
          show wv (me h s rs (0, 0)) + 0 = wv (me h s (rs0.drop (ix + 1)) (0, 0)) + 0
          rw [e1]
        · cases he : ended h (p + many) num with
          | some e => exact absurd (cp.mpr ⟨e, he⟩) c2
          | none =>
            rw [if_neg (fun z => c2 (Bool.and_eq_true_iff.mp z).2), if_pos c]
            rfl
      · rw [if_neg (fun z => c (Bool.and_eq_true_iff.mp z).1), if_neg c]
        rfl
    · show ((List.map _ (inner h s (p + many) r.2)).map _).sum = _
      rw [List.map_map, sum_fm]
      refine sum_cg fun more hmo => ?_
      obtain ⟨o, eo, o1, o2, o3, o4⟩ := (mem_inner ok rok).mp hmo
      exact me_sum hk ok rs _ _ _ _ e1 (fun x m => hr x (List.mem_cons_of_mem _ m)) o4 (inner_lt (h := h) hn m1) (odd_add hn ho m1 o4) (.inl (by omega))
end K89

set_option maxRecDepth 100000
set_option maxHeartbeats 2000000
namespace K89
open PySem L2
theorem mem_soF {f : Stt → Option Ms} {l : List Stt} {y : Nat × Ms} : y ∈ soF f l ↔ ∃ x, x ∈ l ∧ ∃ t, f x = some t ∧ y = (isAh x, t) := by
  unfold soF
  rw [List.mem_filterMap]
  refine exists_congr fun x => and_congr_right fun _ => ?_
  cases f x with
  | none =>
    constructor
    · intro z
      cases z
    · rintro ⟨t, z, _⟩
      cases z
  | some t =>
    constructor
    · intro z
      exact ⟨t, rfl, (Option.some.inj z).symm⟩
    · rintro ⟨t', z, rfl⟩
      obtain rfl := Option.some.inj z
      rfl
theorem comb_some {f : Stt → Option Ms} {l : List Stt} {t : Ms} (e : msOf (soF f l) = some t) :
    (∀ x, x ∈ l → ∀ t', f x = some t' → t.2.1 ≤ isAh x + t'.2.1 ∧ isAh x + t'.2.2 ≤ t.2.2) ∧ ∃ x, x ∈ l ∧ ∃ t', f x = some t' ∧ t.2.1 = isAh x + t'.2.1 := by
  unfold msOf at e
  split at e
  · cases e
  · rename_i ne
    obtain rfl := Option.some.inj e
    have n1 : (soF f l).map (fun x => x.1 + x.2.2.1) ≠ [] := fun z => ne (List.map_eq_nil_iff.mp z)
    have n2 : (soF f l).map (fun x => x.1 + x.2.2.2) ≠ [] := fun z => ne (List.map_eq_nil_iff.mp z)
    obtain ⟨a1, a2⟩ := mnL_ok n1
    obtain ⟨b1, b2⟩ := mxL_ok n2
    refine ⟨fun x hx t' ht => ?_, ?_⟩
    · have m : (isAh x, t') ∈ soF f l := mem_soF.mpr ⟨x, hx, t', ht, rfl⟩
      exact ⟨a2 _ (List.mem_map.mpr ⟨_, m, rfl⟩), b2 _ (List.mem_map.mpr ⟨_, m, rfl⟩)⟩
    · obtain ⟨y, hy, ey⟩ := List.mem_map.mp a1
      obtain ⟨x, hx, t', ht, rfl⟩ := mem_soF.mp hy
      exact ⟨x, hx, t', ht, ey.symm⟩
theorem sum_pos {α : Type} {f : α → Nat} : ∀ {l : List α}, 0 < (l.map f).sum ↔ ∃ x, x ∈ l ∧ 0 < f x
  | [] => by simp
  | x :: l => by
    have ih := sum_pos (f := f) (l := l)
    rw [List.map_cons, List.sum_cons]
    constructor
    · intro z
      by_cases c : 0 < f x
      · exact ⟨x, List.mem_cons_self, c⟩
      · obtain ⟨y, hy, k⟩ := ih.mp (by omega)
        exact ⟨y, List.mem_cons_of_mem _ hy, k⟩
    · rintro ⟨y, hy, k⟩
      rcases List.mem_cons.mp hy with rfl | hy
      · omega
      · have := ih.mpr ⟨y, hy, k⟩
        omega
theorem me_pos {h : Sh} {s : Sn} : ∀ (rs : List Run) (st : Stt) (t : Ms), me h s rs st = some t → 1 ≤ t.1
  | [], st, t, e => by
    have e : fin0 st = some t := e
    unfold fin0 at e
    split at e
    · obtain rfl := Option.some.inj e
      exact Nat.le_refl _
    · cases e
  | r :: rs, st, t, e => by
    have e : msOf (soF (me h s rs) (mvs h s r st)) = some t := e
    obtain ⟨_, x, hx, t', ht, _⟩ := comb_some e
    have ip := me_pos rs x t' ht
    unfold msOf at e
    split at e
    · cases e
    · obtain rfl := Option.some.inj e
      exact sum_pos.mpr ⟨(isAh x, t'), mem_soF.mpr ⟨x, hx, t', ht, rfl⟩, ip⟩
theorem wv_pos {h : Sh} {s : Sn} {rs : List Run} {st : Stt} : 0 < wv (me h s rs st) ↔ ∃ t, me h s rs st = some t := by
  cases e : me h s rs st with
  | none =>
    constructor
    · intro z
      exact absurd z (Nat.lt_irrefl _)
    · rintro ⟨t, z⟩
      cases z
  | some t => exact ⟨fun _ => ⟨t, rfl⟩, fun _ => me_pos rs st t e⟩
theorem mem_mvs {h : Sh} {s : Sn} {r : Run} {st x : Stt} : x ∈ mvs h s r st ↔ ∃ many, many ∈ cnts s r.1 ((h.stop : Nat) - (st.1 : Nat)) ∧ ((canEnd h s (st.1 + many) r.2 = true ∧ canPar h st.2 (st.1 + many) = true ∧ x = (0, 0)) ∨ ∃ more, more ∈ inner h s (st.1 + many) r.2 ∧ x = (st.1 + many + more, (st.2 + more) % 2)) := by
  unfold mvs
  rw [List.mem_flatMap]
  refine exists_congr fun many => and_congr_right fun _ => ?_
  rw [List.mem_append, List.mem_map]
  refine or_congr ?_ ⟨fun ⟨m, a, b⟩ => ⟨m, a, b.symm⟩, fun ⟨m, a, b⟩ => ⟨m, a, b.symm⟩⟩
  by_cases c1 : canEnd h s (st.1 + many) r.2 = true
  · by_cases c2 : canPar h st.2 (st.1 + many) = true
    · rw [if_pos (by rw [c1, c2] <;> rfl), List.mem_singleton]
      exact ⟨fun z => ⟨c1, c2, z⟩, fun z => z.2.2⟩
    · rw [if_neg (fun z => c2 (Bool.and_eq_true_iff.mp z).2)]
      exact ⟨fun z => (by cases z), fun z => absurd z.2.1 c2⟩
  · rw [if_neg (fun z => c1 (Bool.and_eq_true_iff.mp z).1)]
    exact ⟨fun z => (by cases z), fun z => absurd z.1 c1⟩
/-- the fewest and the most of a state, by its leaves -/
theorem me_meas {h : Sh} (hk : h.Ok) {s : Sn} (ok : s.Ok) {rs0 : List Run} : ∀ (rs : List Run) (p num odd ix : Nat), rs0.drop ix = rs → (∀ r ∈ rs, RunOk s r) → p < h.stop → num < 2 ^ (p - 1) → odd = ones h.d num % 2 → (p ≠ 0 ∨ rs ≠ []) → ∀ t, me h s rs (p, odd) = some t →
    (∀ q, q ∈ lvs h s rs p num ix → ∀ t', me h s (rs0.drop q.2) (0, 0) = some t' → t.2.1 ≤ 1 + t'.2.1 ∧ 1 + t'.2.2 ≤ t.2.2) ∧ ∃ q, q ∈ lvs h s rs p num ix ∧ ∃ t', me h s (rs0.drop q.2) (0, 0) = some t' ∧ t.2.1 = 1 + t'.2.1
  | [], p, _, odd, _, _, _, _, _, _, hne, t, ht => by
    have p0 : p ≠ 0 := hne.elim id fun z => absurd rfl z
    have ht : fin0 (p, odd) = some t := ht
    unfold fin0 at ht
    rw [if_neg (fun e => p0 (congrArg Prod.fst e))] at ht
    cases ht
  | r :: rs, p, num, odd, ix, ers, hr, hp, hn, ho, _, t, ht => by
    have rok := hr r List.mem_cons_self
    have hr' : ∀ r ∈ rs, RunOk s r := fun x m => hr x (List.mem_cons_of_mem _ m)
    have e1 := drop_cons ers
    have ht : msOf (soF (me h s rs) (mvs h s r (p, odd))) = some t := ht
    obtain ⟨c1, x, hx, t1, ht1, e2⟩ := comb_some ht
    have ah1 : isAh (0, 0) = 1 := rfl
    have ah0 : ∀ (a b : Nat), a ≠ 0 → isAh (a, b) = 0 := fun a b z => if_neg fun e => z (congrArg Prod.fst e)
    constructor
    · intro q hq t' ht'
      obtain ⟨many, hm, hh⟩ := mem_lvs.mp hq
      obtain ⟨m1, m2, m3, m4⟩ := (mem_cnts ok rok.z1).mp hm
      have pm : p + many ≤ h.stop := by omega
      rcases hh with ⟨ce, ee, eq2⟩ | ⟨more, hmo, hl⟩
      · have cp := (canPar_iff hk hp hn ho m1 pm).mpr ⟨_, ee⟩
        rw [eq2, e1] at ht'
        have := c1 (0, 0) (mem_mvs.mpr ⟨many, hm, .inl ⟨ce, cp, rfl⟩⟩) t' ht'
        rwa [ah1] at this
      · obtain ⟨o, eo, o1, o2, o3, o4⟩ := (mem_inner ok rok).mp hmo
        have hn2 := inner_lt (h := h) (more := more) hn m1
        have ho2 := odd_add (h := h) hn ho m1 o4
        have pos : 0 < wv (me h s rs (p + many + more, (odd + more) % 2)) := by
          rw [me_sum hk ok (rs0 := rs0) rs _ _ _ _ e1 hr' o4 hn2 ho2 (.inl (by omega))]
          exact sum_pos.mpr ⟨q, hl, wv_pos.mpr ⟨t', ht'⟩⟩
        obtain ⟨t2, ht2⟩ := wv_pos.mp pos
        have i1 := (me_meas hk ok rs _ _ _ _ e1 hr' o4 hn2 ho2 (.inl (by omega)) t2 ht2).1 q hl t' ht'
        have i2 := c1 _ (mem_mvs.mpr ⟨many, hm, .inr ⟨more, hmo, rfl⟩⟩) t2 ht2
        rw [ah0 _ _ (by show p + many + more ≠ 0; omega)] at i2
        omega
    · obtain ⟨many, hm, hh⟩ := mem_mvs.mp hx
      obtain ⟨m1, m2, m3, m4⟩ := (mem_cnts ok rok.z1).mp hm
      have pm : p + many ≤ h.stop := by
        simp only at m4
        omega
      rcases hh with ⟨ce, cp, rfl⟩ | ⟨more, hmo, rfl⟩
      · obtain ⟨e, ee⟩ := (canPar_iff hk hp hn ho m1 pm).mp cp
        refine ⟨(e, ix + 1), mem_lvs.mpr ⟨many, hm, .inl ⟨ce, ee, rfl⟩⟩, t1, ?_, ?_⟩
        · show me h s (rs0.drop (ix + 1)) (0, 0) = _
          rw [e1]
          exact ht1
        · rw [ah1] at e2
          exact e2
      · obtain ⟨o, eo, o1, o2, o3, o4⟩ := (mem_inner ok rok).mp hmo
        have hn2 := inner_lt (h := h) (more := more) hn m1
        have ho2 := odd_add (h := h) hn ho m1 o4
        obtain ⟨q, hq, t2, ht2, e3⟩ := (me_meas hk ok rs _ _ _ _ e1 hr' o4 hn2 ho2 (.inl (by simp only; omega)) t1 ht1).2
        refine ⟨q, mem_lvs.mpr ⟨many, hm, .inr ⟨more, hmo, hq⟩⟩, t2, ht2, ?_⟩
        rw [ah0 _ _ (by simp only; omega)] at e2
        omega
theorem at_drop {α : Type} {rs0 rs : List α} {r : α} {ix : Nat} (e : rs0.drop ix = r :: rs) : rs0[ix]? = some r := by
  have : (rs0.drop ix)[0]? = rs0[ix + 0]? := List.getElem?_drop
  rw [e] at this
  exact this.symm
/-- what a leaf leads to is reached -/
theorem reach {h : Sh} (hk : h.Ok) {s : Sn} (ok : s.Ok) {rs0 : List Run} : ∀ (rs : List Run) (p num odd ix : Nat), rs0.drop ix = rs → (∀ r ∈ rs, RunOk s r) → p < h.stop → num < 2 ^ (p - 1) → odd = ones h.d num % 2 → (p, odd) ∈ stA h s rs0 ix → ∀ q, q ∈ lvs h s rs p num ix → (0, 0) ∈ stA h s rs0 q.2
  | [], _, _, _, _, _, _, _, _, _, _, _, hq => by cases hq
  | r :: rs, p, num, odd, ix, ers, hr, hp, hn, ho, hin, q, hq => by
    have rok := hr r List.mem_cons_self
    have hr' : ∀ r ∈ rs, RunOk s r := fun x m => hr x (List.mem_cons_of_mem _ m)
    have nxt : ∀ x, x ∈ mvs h s r (p, odd) → x ∈ stA h s rs0 (ix + 1) := fun x hx => by
      unfold stA
      rw [at_drop ers]
      exact dd_mem.mpr (List.mem_flatMap.mpr ⟨_, hin, hx⟩)
    obtain ⟨many, hm, hh⟩ := mem_lvs.mp hq
    obtain ⟨m1, m2, m3, m4⟩ := (mem_cnts ok rok.z1).mp hm
    have pm : p + many ≤ h.stop := by omega
    rcases hh with ⟨ce, ee, eq2⟩ | ⟨more, hmo, hl⟩
    · have cp := (canPar_iff hk hp hn ho m1 pm).mpr ⟨_, ee⟩
      rw [eq2]
      exact nxt _ (mem_mvs.mpr ⟨many, hm, .inl ⟨ce, cp, rfl⟩⟩)
    · obtain ⟨o, eo, o1, o2, o3, o4⟩ := (mem_inner ok rok).mp hmo
      exact reach hk ok rs _ _ _ _ (drop_cons ers) hr' o4 (inner_lt (h := h) hn m1) (odd_add hn ho m1 o4) (nxt _ (mem_mvs.mpr ⟨many, hm, .inr ⟨more, hmo, rfl⟩⟩)) q hl
theorem wy_eq {h : Sh} {s : Sn} {rs : List Run} {i : Nat} (hi : i ≤ rs.length) (hr : (0, 0) ∈ stA h s rs i) : wyA h s rs i = wv (me h s (rs.drop i) (0, 0)) := by
  have e : rs.length - (rs.length - i) = i := by omega
  unfold wyA wv
  rw [rowK_me h s rs (rs.length - i) (by omega) (0, 0) (.inl (by rw [e]; exact hr)), e]
theorem meA_eq (h : Sh) (s : Sn) (rs : List Run) : meA h s rs = (me h s rs (0, 0)).getD (0, 0, 0) := by
  unfold meA
  have e : rs.length - rs.length = 0 := by omega
  rw [rowK_me h s rs rs.length (Nat.le_refl _) (0, 0) (.inl (by rw [e]; simp [stA])), e]
  rfl
end K89

set_option maxRecDepth 100000
set_option maxHeartbeats 2000000
namespace K89
open PySem L2
structure Cx (h : Sh) (s : Sn) (rs : List Run) : Prop where
  hk : h.Ok
  ok : s.Ok
  hr : ∀ r ∈ rs, RunOk s r
/-- a text that the runs may stand for -/
inductive Chn (h : Sh) (s : Sn) (rs : List Run) : Nat → List Nat → Prop
  | nil : Chn h s rs rs.length []
  | cons {i N l : Nat} {ns : List Nat} : (N, l) ∈ lvs h s (rs.drop i) 0 0 i → Chn h s rs l ns → Chn h s rs i (N :: ns)
theorem ones_zero (d : Nat) : ones d 0 = 0 := by
  unfold ones bit
  induction d with
  | zero => rfl
  | succ d ih =>
    rw [List.range_succ, List.map_append, List.sum_append, ih]
    simp
section
variable {h : Sh} {s : Sn} {rs : List Run}
theorem Cx.hp (c : Cx h s rs) : 0 < h.stop := by
  have := stop_le h
  omega
theorem Cx.dr (c : Cx h s rs) (i : Nat) : ∀ r ∈ rs.drop i, RunOk s r := fun r m => c.hr r (List.mem_of_mem_drop m)
theorem odd0 (h : Sh) : 0 = ones h.d 0 % 2 := by rw [ones_zero]
theorem Cx.leaf (c : Cx h s rs) {i : Nat} {q : Nat × Nat} (hq : q ∈ lvs h s (rs.drop i) 0 0 i) : i < q.2 ∧ q.2 ≤ rs.length ∧ q.1 < 2 ^ h.d ∧ ∃ k, q.2 = i + k ∧ Fr h s (fl h q.1) (rs.drop i) 0 k := by
  have hi := lvs_ix hq
  rw [List.length_drop] at hi
  obtain ⟨a1, _, k, a3, a4, a5⟩ := lvs_sound c.ok _ _ _ _ q (c.dr i) c.hp (by decide) hq
  exact ⟨hi.1, by omega, a1, k, a3, a5⟩
theorem Cx.ne (c : Cx h s rs) {i : Nat} {q : Nat × Nat} (hq : q ∈ lvs h s (rs.drop i) 0 0 i) : rs.drop i ≠ [] := fun z => by
  rw [z] at hq
  cases hq
theorem Cx.go (c : Cx h s rs) {i : Nat} (hin : (0, 0) ∈ stA h s rs i) {q : Nat × Nat} (hq : q ∈ lvs h s (rs.drop i) 0 0 i) : (0, 0) ∈ stA h s rs q.2 :=
  reach c.hk c.ok _ _ _ _ _ rfl (c.dr i) c.hp (by decide) (odd0 h) hin q hq
theorem Cx.wy (c : Cx h s rs) {i : Nat} (hi : i < rs.length) (hin : (0, 0) ∈ stA h s rs i) : wyA h s rs i = ((lvs h s (rs.drop i) 0 0 i).map fun q => wyA h s rs q.2).sum := by
  have ne : rs.drop i ≠ [] := fun z => by
    have := congrArg List.length z
    rw [List.length_drop, List.length_nil] at this
    omega
  rw [wy_eq (by omega) hin, me_sum c.hk c.ok (rs0 := rs) _ _ _ _ i rfl (c.dr i) c.hp (by decide) (odd0 h) (.inr ne)]
  exact sum_cg fun q hq => (wy_eq (c.leaf hq).2.1 (c.go hin hq)).symm
theorem wy_end : wyA h s rs rs.length = 1 := by
  unfold wyA
  rw [Nat.sub_self]
  rfl
theorem start_in : (0, 0) ∈ stA h s rs 0 := by simp [stA]
theorem Cx.i_le (c : Cx h s rs) {i : Nat} {q : Nat × Nat} (hq : q ∈ lvs h s (rs.drop i) 0 0 i) : i < rs.length := by
  have := c.leaf hq
  omega
theorem Cx.chn_pos (c : Cx h s rs) {i : Nat} {ns : List Nat} (C : Chn h s rs i ns) : (0, 0) ∈ stA h s rs i → 0 < wyA h s rs i := by
  induction C with
  | nil => intro _
           rw [wy_end]
           decide
  | @cons i N l ns hq C ih =>
    intro hin
    rw [c.wy (c.i_le hq) hin]
    exact sum_pos.mpr ⟨_, hq, ih (c.go hin hq)⟩
theorem Cx.pos_chn (c : Cx h s rs) : ∀ (n i : Nat), rs.length - i = n → i ≤ rs.length → (0, 0) ∈ stA h s rs i → 0 < wyA h s rs i → ∃ ns, Chn h s rs i ns
  | 0, i, e, hi, _, _ => by
    have : i = rs.length := by omega
    rw [this]
    exact ⟨[], .nil⟩
  | n + 1, i, e, hi, hin, pos => by
    rw [c.wy (by omega) hin] at pos
    obtain ⟨q, hq, pq⟩ := sum_pos.mp pos
    have lf := c.leaf hq
    obtain ⟨ns, C⟩ := pos_chn c (rs.length - q.2) q.2 rfl lf.2.1 (c.go hin hq) pq
    exact ⟨q.1 :: ns, .cons hq C⟩
termination_by n i e => rs.length - i
theorem Cx.chn_len (c : Cx h s rs) {i : Nat} {ns : List Nat} (C : Chn h s rs i ns) : i ≤ rs.length ∧ ns.length ≤ rs.length - i := by
  induction C with
  | nil => simp
  | @cons i N l ns hq C ih =>
    have := c.leaf hq
    rw [List.length_cons]
    omega
theorem Cx.chn_lt (c : Cx h s rs) {i : Nat} {ns : List Nat} (C : Chn h s rs i ns) : ∀ N ∈ ns, N < 2 ^ h.d := by
  induction C with
  | nil => intro N m
           cases m
  | @cons i N l ns hq C ih =>
    intro M m
    rcases List.mem_cons.mp m with rfl | m
    · exact (c.leaf hq).2.2.1
    · exact ih M m
/-- the text's length against the measures -/
theorem Cx.chn_meas (c : Cx h s rs) {i : Nat} {ns : List Nat} (C : Chn h s rs i ns) : (0, 0) ∈ stA h s rs i → ∃ t, me h s (rs.drop i) (0, 0) = some t ∧ t.2.1 ≤ ns.length ∧ ns.length ≤ t.2.2 := by
  induction C with
  | nil =>
    intro _
    rw [List.drop_length]
    exact ⟨(1, 0, 0), rfl, Nat.le_refl _, Nat.le_refl _⟩
  | @cons i N l ns hq C ih =>
    intro hin
    obtain ⟨t', e', b1, b2⟩ := ih (c.go hin hq)
    have pos : 0 < wv (me h s (rs.drop i) (0, 0)) := by
      rw [← wy_eq (Nat.le_of_lt (c.i_le hq)) hin]
      exact c.chn_pos (.cons hq C) hin
    obtain ⟨t, ht⟩ := wv_pos.mp pos
    have := (me_meas c.hk c.ok (rs0 := rs) _ _ _ _ i rfl (c.dr i) c.hp (by decide) (odd0 h) (.inr (c.ne hq)) t ht).1 _ hq t' e'
    refine ⟨t, ht, ?_⟩
    rw [List.length_cons]
    omega
/-- some text is as short as the fewest -/
theorem Cx.few_chn (c : Cx h s rs) : ∀ (n i : Nat), rs.length - i = n → i ≤ rs.length → (0, 0) ∈ stA h s rs i → ∀ t, me h s (rs.drop i) (0, 0) = some t → ∃ ns, Chn h s rs i ns ∧ ns.length = t.2.1
  | n, i, e, hi, hin, t, ht => by
    by_cases c0 : i = rs.length
    · rw [c0, List.drop_length] at ht
      obtain rfl := Option.some.inj (show some (1, 0, 0) = some t from ht)
      rw [c0]
      exact ⟨[], .nil, rfl⟩
    · have ne : rs.drop i ≠ [] := fun z => by
        have := congrArg List.length z
        rw [List.length_drop, List.length_nil] at this
        omega
      obtain ⟨q, hq, t', ht', e2⟩ := (me_meas c.hk c.ok (rs0 := rs) _ _ _ _ i rfl (c.dr i) c.hp (by decide) (odd0 h) (.inr ne) t ht).2
      have lf := c.leaf hq
      obtain ⟨ns, C, el⟩ := few_chn c (rs.length - q.2) q.2 rfl lf.2.1 (c.go hin hq) t' ht'
      refine ⟨q.1 :: ns, .cons hq C, ?_⟩
      rw [List.length_cons, el]
      omega
termination_by n i e => rs.length - i
/-- the ways before a number's -/
def Kx (h : Sh) (s : Sn) (rs : List Run) (i N : Nat) : Nat := (((lvs h s (rs.drop i) 0 0 i).filter fun q => decide (q.1 < N)).map fun q => wyA h s rs q.2).sum
theorem flt_sum (W : Nat × Nat → Nat) (p : Nat × Nat → Bool) : ∀ l : List (Nat × Nat), (((l.filter fun q => decide (0 < W q)).filter p).map W).sum = ((l.filter p).map W).sum
  | [] => rfl
  | x :: l => by
    have ih := flt_sum W p l
    by_cases c : 0 < W x
    · rw [List.filter_cons_of_pos (by exact decide_eq_true c)]
      by_cases c2 : p x = true
      · rw [List.filter_cons_of_pos c2, List.filter_cons_of_pos c2, List.map_cons, List.map_cons, List.sum_cons, List.sum_cons, ih]
      · rw [List.filter_cons_of_neg c2, List.filter_cons_of_neg c2, ih]
    · rw [List.filter_cons_of_neg (by simpa using c), ih]
      by_cases c2 : p x = true
      · rw [List.filter_cons_of_pos c2, List.map_cons, List.sum_cons]
        omega
      · rw [List.filter_cons_of_neg c2]
theorem flt_le (W : Nat × Nat → Nat) {N l : Nat} : ∀ {L : List (Nat × Nat)}, (N, l) ∈ L → ((L.filter fun q => decide (q.1 < N)).map W).sum + W (N, l) ≤ (L.map W).sum
  | [], hm => by cases hm
  | x :: L, hm => by
    have sub : ∀ M : List (Nat × Nat), ((M.filter fun q => decide (q.1 < N)).map W).sum ≤ (M.map W).sum := fun M => by
      induction M with
      | nil => exact Nat.le_refl _
      | cons y M ih =>
        by_cases c : y.1 < N
        · rw [List.filter_cons_of_pos (by exact decide_eq_true c), List.map_cons, List.map_cons, List.sum_cons, List.sum_cons]
          omega
        · rw [List.filter_cons_of_neg (by simpa using c), List.map_cons, List.sum_cons]
          omega
    rcases List.mem_cons.mp hm with e | hm
    · rw [← e, List.filter_cons_of_neg (by simp), List.map_cons, List.sum_cons]
      have := sub L
      omega
    · have ih := flt_le W hm
      by_cases c : x.1 < N
      · rw [List.filter_cons_of_pos (by exact decide_eq_true c), List.map_cons, List.map_cons, List.sum_cons, List.sum_cons]
        omega
      · rw [List.filter_cons_of_neg (by simpa using c), List.map_cons, List.sum_cons]
        omega
/-- the steps are sorted, their numbers differ -/
theorem Cx.steps_pw (c : Cx h s rs) {i : Nat} {ps : List (Nat × Nat)} (k : StepsOk h s rs i ps) : ps.Pairwise fun a b => a.1 < b.1 := by
  obtain ⟨qs, hp, hs, rfl⟩ := k.ex
  refine List.Pairwise.filter _ ?_
  have a := hp.symm.pairwise (lvs_pw c.ok (rs.drop i) 0 0 i (c.dr i) c.hp (by decide)) fun z => Ne.symm z
  exact (hs.and a).imp fun {x y} z => Nat.lt_of_le_of_ne z.1 z.2
theorem Cx.split (c : Cx h s rs) {i N l : Nat} (hq : (N, l) ∈ lvs h s (rs.drop i) 0 0 i) (pos : 0 < wyA h s rs l) (ps : List (Nat × Nat)) (k : StepsOk h s rs i ps) :
    ∃ pre post, ps = pre ++ (N, l) :: post ∧ (∀ q ∈ pre, q.1 < N) ∧ (∀ q ∈ post, N < q.1) ∧ (pre.map fun q => wyA h s rs q.2).sum = Kx h s rs i N := by
  have m : (N, l) ∈ ps := (stepsOk_mem k (N, l)).mpr ⟨hq, pos⟩
  have pw := c.steps_pw k
  obtain ⟨pre, post, e⟩ := List.append_of_mem m
  rw [e] at pw
  obtain ⟨_, p2, p3⟩ := List.pairwise_append.mp pw
  have h1 : ∀ q ∈ pre, q.1 < N := fun q hq => p3 q hq _ List.mem_cons_self
  have h2 : ∀ q ∈ post, N < q.1 := fun q hq => (List.pairwise_cons.mp p2).1 q hq
  refine ⟨pre, post, e, h1, h2, ?_⟩
  obtain ⟨qs, hp, hs, e2⟩ := k.ex
  have e3 : ps.filter (fun q => decide (q.1 < N)) = pre := by
    rw [e, List.filter_append, List.filter_cons_of_neg (by simp), List.filter_eq_self.mpr fun q hq => decide_eq_true (h1 q hq), List.filter_eq_nil_iff.mpr fun q hq => by have := h2 q hq; simp; omega, List.append_nil]
  rw [← e3, e2]
  unfold Kx
  rw [flt_sum (fun q => wyA h s rs q.2)]
  exact ((hp.filter _).map _).sum_nat
/-- the index of a text -/
theorem Cx.index (c : Cx h s rs) {i : Nat} {ns : List Nat} (C : Chn h s rs i ns) : (0, 0) ∈ stA h s rs i → ∃ idx, TIx h s rs i ns idx ∧ idx < wyA h s rs i ∧ Nth h s rs i idx ns := by
  induction C with
  | nil =>
    intro _
    refine ⟨0, .nil rfl, ?_, .done rfl⟩
    rw [wy_end]
    decide
  | @cons i N l ns hq C ih =>
    intro hin
    have hin2 := c.go hin hq
    obtain ⟨r, t1, t2, t3⟩ := ih hin2
    have lf := c.leaf hq
    have ln : i < l := lf.1
    have ll : l ≤ rs.length := lf.2.1
    have pos := c.chn_pos C hin2
    have lt : Kx h s rs i N + wyA h s rs l ≤ wyA h s rs i := by
      rw [c.wy (by omega) hin]
      exact flt_le (fun q => wyA h s rs q.2) hq
    refine ⟨Kx h s rs i N + r, .cons (by omega) _ (fun ps k => ?_) ll t1, by omega, .step (by omega) (fun ps k => ?_) t2 ln ll t3⟩
    · obtain ⟨pre, post, e, h1, h2, h3⟩ := c.split hq pos ps k
      exact ⟨pre, post, e, h1, h2, h3.symm⟩
    · obtain ⟨pre, post, e, h1, h2, h3⟩ := c.split hq pos ps k
      exact ⟨pre, post, e, by rw [h3]⟩
theorem Cx.sm (c : Cx h s rs) {i : Nat} {ps : List (Nat × Nat)} (k : StepsOk h s rs i ps) : ps.length ≤ 512 := by
  have pw := c.steps_pw k
  have nd : (ps.map fun q => q.1).Nodup := List.pairwise_map.mpr (pw.imp fun z => Nat.ne_of_lt z)
  have := nd_len (m := List.range 512) nd fun x hx => by
    obtain ⟨q, hq, rfl⟩ := List.mem_map.mp hx
    have lt := (c.leaf ((stepsOk_mem k q).mp hq).1).2.2.1
    have : 2 ^ h.d ≤ 2 ^ 9 := Nat.pow_le_pow_right (by decide) c.hk.d9
    exact List.mem_range.mpr (by omega)
  rwa [List.length_map, List.length_range] at this
theorem Cx.num (c : Cx h s rs) {i N l : Nat} (k : StepTo h s rs i N l) : N < 512 := by
  have lt : N < 2 ^ h.d := (c.leaf k.1).2.2.1
  have : 2 ^ h.d ≤ 2 ^ 9 := Nat.pow_le_pow_right (by decide) c.hk.d9
  omega
/-- the text's k-th frame stands where k frames lead -/
theorem Cx.rset (c : Cx h s rs) {i : Nat} {ns : List Nat} (C : Chn h s rs i ns) : ∀ k0, (0, 0) ∈ stA h s rs i → Rset h s rs k0 i → ∀ k N, ns[k]? = some N → ∃ i' l, Rset h s rs (k0 + k) i' ∧ StepTo h s rs i' N l := by
  induction C with
  | nil => intro _ _ _ k N e
           cases e
  | @cons i N l ns hq C ih =>
    intro k0 hin hR k M e
    have hin2 := c.go hin hq
    have st : StepTo h s rs i N l := ⟨hq, c.chn_pos C hin2⟩
    match k with
    | 0 =>
      obtain rfl := Option.some.inj e
      exact ⟨i, l, hR, st⟩
    | k + 1 =>
      obtain ⟨i', l', a, b⟩ := ih (k0 + 1) hin2 ⟨i, N, hR, st⟩ k M e
      have e2 : k0 + 1 + k = k0 + (k + 1) := by omega
      rw [e2] at a
      exact ⟨i', l', a, b⟩
theorem Cx.sure (c : Cx h s rs) {ns : List Nat} (C : Chn h s rs 0 ns) {k N N' : Nat} (e : ns[k]? = some N) (sr : SureAt h s rs k (some N')) : N = N' := by
  obtain ⟨i', l, a, b⟩ := c.rset C 0 start_in rfl k N e
  rw [Nat.zero_add] at a
  exact sr i' N l a b
theorem Cx.meas0 (c : Cx h s rs) {ns : List Nat} (C : Chn h s rs 0 ns) : (meA h s rs).2.1 ≤ ns.length ∧ ns.length ≤ (meA h s rs).2.2 := by
  obtain ⟨t, e, b⟩ := c.chn_meas C start_in
  rw [List.drop_zero] at e
  rw [meA_eq, e]
  exact b
theorem wide_text {ch : List Int} (c : Cx h s (rnOf ch)) {ns : List Nat} (C : Chn h s (rnOf ch) 0 ns) (l4 : ns.length ≤ 60) : WideText h s ch ns where
  idx := c.index C start_in
  sm := fun i ps k => c.sm k
  num := fun i N l k => c.num k
  few := (c.meas0 C).1
  most := (c.meas0 C).2
  sure := fun res hl hs k N e => by
    have k1 := (List.getElem?_eq_some_iff.mp e).1
    have k2 := (c.meas0 C).1
    have k3 : k < ns.length := by omega
    have e3 : ns[k]? = some ns[k] := List.getElem?_eq_getElem k3
    rw [e3, c.sure C e3 (hs k _ e)]
  len := l4
  lt := c.chn_lt C
end
end K89

set_option maxRecDepth 100000
set_option maxHeartbeats 2000000
namespace K89
open PySem L2
/-- a receiver that is safe for the span, in whole numbers -/
structure Safe (h : Sh) (r : Rc) (s : Sn) : Prop where
  up : ∀ p, p ≤ h.stop → p * s.hi ≤ r.g * (r.w + r.st * p)
  dn : ∀ j, j < h.n → r.g * (r.w + r.st * j + 1) ≤ (j + 1) * s.lo
  g1 : 1 ≤ r.g
theorem lin_up {A B hi S p : Nat} (H : hi * S ≤ A + B * S) (hp : p ≤ S) : p * hi ≤ A + B * p := by
  by_cases c : hi ≤ B
  · have : p * hi ≤ p * B := Nat.mul_le_mul_left _ c
    rw [Nat.mul_comm p B] at this
    omega
  · obtain ⟨e, rfl⟩ : ∃ e, hi = B + e := ⟨hi - B, by omega⟩
    rw [Nat.add_mul] at H
    have : e * p ≤ e * S := Nat.mul_le_mul_left _ hp
    rw [Nat.mul_add, Nat.mul_comm p B, Nat.mul_comm p e]
    omega
theorem lin_dn {A B lo m j : Nat} (h0 : A ≤ lo) (H : A + B * m ≤ lo + m * lo) (hj : j ≤ m) : A + B * j ≤ lo + j * lo := by
  by_cases c : B ≤ lo
  · have : j * B ≤ j * lo := Nat.mul_le_mul_left _ c
    rw [Nat.mul_comm j B] at this
    omega
  · obtain ⟨f, rfl⟩ : ∃ f, B = lo + f := ⟨B - lo, by omega⟩
    rw [Nat.add_mul, Nat.mul_comm lo m] at H
    have : f * j ≤ f * m := Nat.mul_le_mul_left _ hj
    rw [Nat.add_mul, Nat.mul_comm lo j]
    omega
theorem safe_of {h : Sh} {r : Rc} {s : Sn} (hk : h.Ok) (rk : r.Ok) (hlo : lbLo h r ≤ (s.lo : Int)) (hhi : (s.hi : Int) ≤ lbHi h r) : Safe h r s := by
  have hst := stop_le h
  have en : h.n = h.stop + h.s := rfl
  have s1 := hk.s1
  refine ⟨fun p hp => ?_, fun j hj => ?_, rk.g1⟩
  · unfold lbHi at hhi
    have k := (Int.le_ediv_iff_mul_le (by omega)).mp hhi
    have k2 : s.hi * h.stop ≤ r.g * (r.w + r.st * h.stop) := by exact_mod_cast k
    rw [Nat.mul_add, ← Nat.mul_assoc] at k2 ⊢
    exact lin_up k2 hp
  · have l1 : lateI h r ≤ (s.lo : Int) ∧ (r.g : Int) * ((r.w : Int) + 1) ≤ (s.lo : Int) := by
      unfold lbLo at hlo
      split at hlo <;> omega
    obtain ⟨l1, l2⟩ := l1
    have k2 : r.g * (r.w + 1) ≤ s.lo := by exact_mod_cast l2
    obtain ⟨m, em⟩ : ∃ m, h.n = m + 1 := ⟨h.n - 1, by omega⟩
    have k1 : r.g * (r.w + r.st * m + 1) ≤ (m + 1) * s.lo := by
      unfold lateI at l1
      have a : -(s.lo : Int) ≤ -((r.g : Int) * ((r.w : Int) + (r.st : Int) * ((h.n : Int) - 1) + 1)) / (h.n : Int) := by omega
      have b := (Int.le_ediv_iff_mul_le (by omega)).mp a
      have e : (h.n : Int) - 1 = (m : Int) := by omega
      rw [e] at b
      have e2 : (h.n : Int) = (m : Int) + 1 := by omega
      rw [e2, Int.neg_mul] at b
      have b2 : (r.g : Int) * ((r.w : Int) + (r.st : Int) * (m : Int) + 1) ≤ ((m : Int) + 1) * (s.lo : Int) := by
        rw [Int.mul_comm ((m : Int) + 1)]
        omega
      exact_mod_cast b2
    have ex : ∀ x, r.g * (r.w + r.st * x + 1) = r.g * (r.w + 1) + r.g * r.st * x := fun x => by
      rw [Nat.add_right_comm, Nat.mul_add, Nat.mul_assoc]
    have ey : ∀ x, (x + 1) * s.lo = s.lo + x * s.lo := fun x => by
      rw [Nat.add_mul, Nat.one_mul, Nat.add_comm]
    rw [ex, ey] at k1 ⊢
    exact lin_dn k2 k1 (by omega)
section
variable {h : Sh} {r : Rc} {s : Sn}
theorem Safe.see1 (f : Safe h r s) {t look T : Int} {p j : Nat} (hp : p ≤ h.stop) (hj : p ≤ j) (hl : t ≤ look) (hT : T ≤ t + ((p * s.hi : Nat) : Int)) : T ≤ r.look look j := by
  have a := f.up p hp
  have b : r.g * (r.w + r.st * p) ≤ r.g * (r.w + r.st * j) := Nat.mul_le_mul_left _ (Nat.add_le_add_left (Nat.mul_le_mul_left _ hj) _)
  have c : r.look look j = look + ((r.g * (r.w + r.st * j) : Nat) : Int) := by
    unfold Rc.look
    push_cast
    rfl
  rw [c]
  omega
theorem Safe.see2 (f : Safe h r s) {t look T : Int} {p j : Nat} (hn : j < h.n) (hj : j < p) (hl : look < t + r.g) (hT : t + ((p * s.lo : Nat) : Int) ≤ T) : r.look look j < T := by
  have a := f.dn j hn
  have b : (j + 1) * s.lo ≤ p * s.lo := Nat.mul_le_mul_right _ hj
  have c : r.look look j = look + ((r.g * (r.w + r.st * j) : Nat) : Int) := by
    unfold Rc.look
    push_cast
    rfl
  rw [Nat.mul_add, Nat.mul_one] at a
  rw [c]
  omega
end
/-- the changes about a run -/
theorem run_at {ch : List Int} {i z : Nat} {o : Option Nat} {rs : List Run} (e : (rnOf ch).drop i = (z, o) :: rs) : ∃ a b, ch[2 * i]? = some a ∧ ch[2 * i + 1]? = some b ∧ z = (b - a).toNat ∧ o = (ch[2 * i + 2]?).map fun c => (c - b).toNat := by
  have k := at_drop e
  have lt := (List.getElem?_eq_some_iff.mp k).1
  rw [rn_len] at lt
  have e1 : ch[2 * i]? = some ch[2 * i] := List.getElem?_eq_getElem (by omega)
  have e2 : ch[2 * i + 1]? = some ch[2 * i + 1] := List.getElem?_eq_getElem (by omega)
  have k2 := rn_at e1 e2
  rw [k] at k2
  have k3 := Option.some.inj k2
  exact ⟨_, _, e1, e2, congrArg Prod.fst k3, congrArg Prod.snd k3⟩
theorem fr_see {h : Sh} {r : Rc} {s : Sn} {ch : List Int} {f : Nat → Nat} (ok : s.Ok) (hk : h.Ok) (sf : Safe h r s) (inc : Inc ch) (hf : ∀ j, h.stop ≤ j → f j = 1) {t look : Int} (hl : t ≤ look) (hl2 : look < t + r.g) {rs : List Run} {p k : Nat} (F : Fr h s f rs p k) :
    ∀ i a, (rnOf ch).drop i = rs → ch[2 * i]? = some a → t + ((p * s.lo : Nat) : Int) ≤ a → a ≤ t + ((p * s.hi : Nat) : Int) → ∀ j, p ≤ j → j < h.n → (cnt ch (r.look look j) + 1) % 2 = f j ∧ (h.stop ≤ j → cnt ch (r.look look j) = 2 * (i + k)) := by
  have l1 := ok.l1
  have en : h.n = h.stop + h.s := rfl
  have s1 := hk.s1
  induction F with
  | @last z o rs p many m1 m2 m3 pm hz ho ce =>
    intro i a er ea ha1 ha2 j hj hn
    obtain ⟨a', b, ea', eb, rfl, rfl⟩ := run_at er
    obtain rfl := Option.some.inj (ea.symm.trans ea')
    have ml : 1 ≤ many * s.lo := Nat.mul_pos m1 l1
    have q1 : (p + many) * s.lo = p * s.lo + many * s.lo := Nat.add_mul _ _ _
    have q2 : (p + many) * s.hi = p * s.hi + many * s.hi := Nat.add_mul _ _ _
    have hb1 : t + (((p + many) * s.lo : Nat) : Int) ≤ b := by omega
    have hb2 : b ≤ t + (((p + many) * s.hi : Nat) : Int) := by omega
    have A := (cnt_iff (t := r.look look j) inc ea).mp (sf.see1 (by omega) hj hl ha2)
    by_cases c : j < p + many
    · have B : ¬ (2 * i + 1 < cnt ch (r.look look j)) := fun z => by
        have := (cnt_iff inc eb).mpr z
        have := sf.see2 hn c hl2 hb1
        omega
      refine ⟨?_, fun z => absurd z (by omega)⟩
      rw [hz j hj c]
      omega
    · have B := (cnt_iff (t := r.look look j) inc eb).mp (sf.see1 pm (by omega) hl hb2)
      have C : ¬ (2 * i + 2 < cnt ch (r.look look j)) := fun z => by
        cases ec : ch[2 * i + 2]? with
        | none =>
          have := List.getElem?_eq_none_iff.mp ec
          have := cnt_le ch (r.look look j)
          omega
        | some c =>
          rw [ec] at ce
          have ce' : (h.n - (p + many)) * s.lo ≤ (c - b).toNat := of_decide_eq_true ce
          have q3 : (p + many + (h.n - (p + many))) * s.lo = (p + many) * s.lo + (h.n - (p + many)) * s.lo := Nat.add_mul _ _ _
          have q4 : p + many + (h.n - (p + many)) = h.n := by omega
          have q5 : 1 ≤ (h.n - (p + many)) * s.lo := Nat.mul_pos (by omega) l1
          rw [q4] at q3
          have := (cnt_iff inc ec).mpr z
          have := sf.see2 (T := c) (p := h.n) hn hn hl2 (by omega)
          omega
      refine ⟨?_, fun _ => by omega⟩
      have e1 : f j = 1 := by
        by_cases y : j < h.stop
        · exact ho j (by omega) y
        · exact hf j (by omega)
      rw [e1]
      omega
  | @more z o rs p many more k m1 m2 m3 o1 o2 o3 o4 hz ho F ih =>
    intro i a er ea ha1 ha2 j hj hn
    obtain ⟨a', b, ea', eb, rfl, eo⟩ := run_at er
    obtain rfl := Option.some.inj (ea.symm.trans ea')
    have ml : 1 ≤ many * s.lo := Nat.mul_pos m1 l1
    have ml2 : 1 ≤ more * s.lo := Nat.mul_pos o1 l1
    have q1 : (p + many) * s.lo = p * s.lo + many * s.lo := Nat.add_mul _ _ _
    have q2 : (p + many) * s.hi = p * s.hi + many * s.hi := Nat.add_mul _ _ _
    have q3 : (p + many + more) * s.lo = (p + many) * s.lo + more * s.lo := Nat.add_mul _ _ _
    have q4 : (p + many + more) * s.hi = (p + many) * s.hi + more * s.hi := Nat.add_mul _ _ _
    have hb1 : t + (((p + many) * s.lo : Nat) : Int) ≤ b := by omega
    have hb2 : b ≤ t + (((p + many) * s.hi : Nat) : Int) := by omega
    cases ec : ch[2 * i + 2]? with
    | none =>
      rw [ec] at eo
      cases eo
    | some c =>
      rw [ec] at eo
      have eo' : o = (c - b).toNat := Option.some.inj eo
      subst eo'
      have hc1 : t + (((p + many + more) * s.lo : Nat) : Int) ≤ c := by omega
      have hc2 : c ≤ t + (((p + many + more) * s.hi : Nat) : Int) := by omega
      by_cases c3 : p + many + more ≤ j
      · have := ih (i + 1) c (drop_cons er) ec hc1 hc2 j c3 hn
        have e2 : i + 1 + k = i + (k + 1) := by omega
        rw [e2] at this
        exact this
      · have A := (cnt_iff (t := r.look look j) inc ea).mp (sf.see1 (by omega) hj hl ha2)
        by_cases c : j < p + many
        · have B : ¬ (2 * i + 1 < cnt ch (r.look look j)) := fun z => by
            have := (cnt_iff inc eb).mpr z
            have := sf.see2 hn c hl2 hb1
            omega
          refine ⟨?_, fun z => absurd z (by omega)⟩
          rw [hz j hj c]
          omega
        · have B := (cnt_iff (t := r.look look j) inc eb).mp (sf.see1 (by omega) (by omega) hl hb2)
          have C : ¬ (2 * i + 2 < cnt ch (r.look look j)) := fun z => by
            have := (cnt_iff inc ec).mpr z
            have := sf.see2 hn (by omega : j < p + many + more) hl2 hc1
            omega
          refine ⟨?_, fun z => absurd z (by omega)⟩
          rw [ho j (by omega) (by omega)]
          omega
end K89

set_option maxRecDepth 100000
set_option maxHeartbeats 2000000
namespace K89
open PySem L2
theorem low_eq {N M : Nat} : ∀ d, (∀ i, i < d → bit N i = bit M i) → N % 2 ^ d = M % 2 ^ d
  | 0, _ => by rw [Nat.pow_zero, Nat.mod_one, Nat.mod_one]
  | d + 1, h => by rw [low_succ, low_succ, low_eq d fun i hi => h i (by omega), h d (by omega)]
theorem pw_one {L : List (Nat × Nat)} {q : Nat × Nat} (h : L.Pairwise fun x y => x.1 ≠ y.1) (hq : q ∈ L) (ha : ∀ x ∈ L, x = q) : L = [q] := by
  match L, h with
  | [], _ => cases hq
  | [x], _ => rw [ha x List.mem_cons_self]
  | x :: y :: L, h =>
    have e1 := ha x List.mem_cons_self
    have e2 := ha y (List.mem_cons_of_mem _ List.mem_cons_self)
    have := (List.pairwise_cons.mp h).1 y List.mem_cons_self
    rw [e1, e2] at this
    exact absurd rfl this
theorem cnt_eq {ch : List Int} {t : Int} {m : Nat} (inc : Inc ch) (h1 : ∀ k, m = k + 1 → ∃ x, ch[k]? = some x ∧ x ≤ t) (h2 : ∀ x, ch[m]? = some x → t < x) : cnt ch t = m := by
  have a : m ≤ cnt ch t := by
    match m, h1 with
    | 0, _ => omega
    | k + 1, h1 =>
      obtain ⟨x, e, l⟩ := h1 k rfl
      exact (cnt_iff inc e).mp l
  have b : ¬ m < cnt ch t := fun z => by
    have := cnt_le ch t
    have e : ch[m]? = some ch[m] := List.getElem?_eq_getElem (by omega)
    have := (cnt_iff inc e).mpr z
    have := h2 _ e
    omega
  omega
/-- a safe signal's world -/
structure Sx (h : Sh) (r : Rc) (s : Sn) (ch : List Int) : Prop where
  c : Cx h s (rnOf ch)
  f : Safe h r s
  inc : Inc ch
  even : ch.length % 2 = 0
section
variable {h : Sh} {r : Rc} {s : Sn} {ch : List Int}
theorem Sx.n1 (x : Sx h r s ch) : h.stop < h.n := by
  have : h.n = h.stop + h.s := rfl
  have := x.c.hk.s1
  omega
/-- what a look at a leaf's frame sees -/
theorem Sx.see (x : Sx h r s ch) {i : Nat} {q : Nat × Nat} (hq : q ∈ lvs h s ((rnOf ch).drop i) 0 0 i) : ∃ t b, ch[2 * i]? = some t ∧ ch[2 * i + 1]? = some b ∧ t + (s.lo : Int) ≤ b ∧ ∀ look, t ≤ look → look < t + r.g → ∀ j, j < h.n → (cnt ch (r.look look j) + 1) % 2 = fl h q.1 j ∧ (h.stop ≤ j → cnt ch (r.look look j) = 2 * q.2) := by
  obtain ⟨_, _, _, k, e2, F⟩ := x.c.leaf hq
  obtain ⟨z, o, rs', er, zlo⟩ : ∃ z o rs', (rnOf ch).drop i = (z, o) :: rs' ∧ s.lo ≤ z := by
    generalize (rnOf ch).drop i = rs at F
    cases F with
    | @last z o rs p many m1 m2 m3 pm hz ho ce => exact ⟨_, _, _, rfl, Nat.le_trans (Nat.le_mul_of_pos_left _ m1) m2⟩
    | @more z o rs p many more k m1 m2 m3 o1 o2 o3 o4 hz ho F => exact ⟨_, _, _, rfl, Nat.le_trans (Nat.le_mul_of_pos_left _ m1) m2⟩
  obtain ⟨t, b, et, eb, ez, _⟩ := run_at er
  have l1 := x.c.ok.l1
  refine ⟨t, b, et, eb, by omega, fun look h1 h2 j hj => ?_⟩
  rw [e2]
  exact fr_see x.c.ok x.c.hk x.f x.inc (fun j hj => fl_stop hj) h1 h2 F i t rfl et (by omega) (by omega) j (Nat.zero_le _) hj
theorem Sx.uniq (x : Sx h r s ch) {i : Nat} {q q' : Nat × Nat} (hq : q ∈ lvs h s ((rnOf ch).drop i) 0 0 i) (hq' : q' ∈ lvs h s ((rnOf ch).drop i) 0 0 i) : q' = q := by
  obtain ⟨t, b, et, eb, _, A⟩ := x.see hq
  obtain ⟨t', b', et', eb', _, A'⟩ := x.see hq'
  obtain rfl := Option.some.inj (et.symm.trans et')
  have g1 := x.f.g1
  have hst := stop_le h
  have n1 := x.n1
  have hb : ∀ i, i < h.d → bit q'.1 i = bit q.1 i := fun i hi => by
    rw [← fl_bit hi, ← fl_bit hi, ← (A t (Int.le_refl _) (by omega) (i + 1) (by omega)).1, ← (A' t (Int.le_refl _) (by omega) (i + 1) (by omega)).1]
  have e := low_eq h.d hb
  rw [Nat.mod_eq_of_lt (x.c.leaf hq).2.2.1, Nat.mod_eq_of_lt (x.c.leaf hq').2.2.1] at e
  exact pw_uniq (lvs_pw x.c.ok _ 0 0 i (x.c.dr i) x.c.hp (by decide)) hq' hq e
theorem Sx.one (x : Sx h r s ch) {i : Nat} {q : Nat × Nat} (hq : q ∈ lvs h s ((rnOf ch).drop i) 0 0 i) : lvs h s ((rnOf ch).drop i) 0 0 i = [q] :=
  pw_one (lvs_pw x.c.ok _ 0 0 i (x.c.dr i) x.c.hp (by decide)) hq fun _ hy => x.uniq hq hy
theorem Sx.wy1 (x : Sx h r s ch) {i : Nat} {ns : List Nat} (C : Chn h s (rnOf ch) i ns) : (0, 0) ∈ stA h s (rnOf ch) i → wyA h s (rnOf ch) i = 1 := by
  induction C with
  | nil => exact fun _ => wy_end
  | @cons i N l ns hq C ih =>
    intro hin
    rw [x.c.wy (x.c.i_le hq) hin, x.one hq]
    show wyA h s (rnOf ch) l + 0 = 1
    rw [ih (x.c.go hin hq)]
theorem Sx.chn_uniq (x : Sx h r s ch) {i : Nat} {ns : List Nat} (C : Chn h s (rnOf ch) i ns) : ∀ ms, Chn h s (rnOf ch) i ms → ms = ns := by
  induction C with
  | nil =>
    intro ms D
    generalize ei : (rnOf ch).length = i at D
    cases D with
    | nil => rfl
    | cons hq D =>
      have := x.c.i_le hq
      omega
  | @cons i N l ns hq C ih =>
    intro ms D
    have li := x.c.i_le hq
    generalize ei : i = i' at D
    cases D with
    | nil => omega
    | @cons i2 M l2 ms hq2 D =>
      subst ei
      have e := x.uniq hq hq2
      have e1 : M = N := congrArg Prod.fst e
      have e2 : l2 = l := congrArg Prod.snd e
      subst e1 e2
      rw [ih ms D]
theorem Sx.rset_at (x : Sx h r s ch) {ns : List Nat} (C : Chn h s (rnOf ch) 0 ns) : ∀ k i, Rset h s (rnOf ch) k i → Chn h s (rnOf ch) i (ns.drop k)
  | 0, i, hR => by
    have : i = 0 := hR
    rw [this]
    exact C
  | k + 1, l, hR => by
    obtain ⟨i, N, h1, h2⟩ := hR
    have D := rset_at x C k i h1
    have li := x.c.i_le h2.1
    generalize ed : ns.drop k = ms at D
    generalize ei : i = i' at D
    cases D with
    | nil => omega
    | @cons i2 M l2 ms hq2 D =>
      subst ei
      have e := x.uniq hq2 h2.1
      have e2 : l = l2 := congrArg Prod.snd e
      have e3 : ns.drop (k + 1) = ms := drop_cons ed
      rw [e2, e3]
      exact D
theorem Sx.sure (x : Sx h r s ch) {ns : List Nat} (C : Chn h s (rnOf ch) 0 ns) (res : List (Option Nat)) (hl : res.length = ns.length) (hs : ∀ k o, res[k]? = some o → SureAt h s (rnOf ch) k o) : res = ns.map some := by
  apply List.ext_getElem?
  intro k
  rw [List.getElem?_map]
  by_cases hk : k < res.length
  · have e1 : res[k]? = some res[k] := List.getElem?_eq_getElem hk
    have e2 : ns[k]? = some (ns[k]'(by omega)) := List.getElem?_eq_getElem (by omega)
    generalize ns[k]'(by omega) = N at e2
    have sr := hs k _ e1
    generalize res[k] = o at e1 sr
    rw [e1, e2]
    cases o with
    | some M => rw [x.c.sure C e2 sr] <;> rfl
    | none =>
      exfalso
      apply sr
      obtain ⟨i', l, a, b⟩ := x.c.rset C 0 start_in rfl k N e2
      rw [Nat.zero_add] at a
      refine ⟨N, ⟨i', l, a, b⟩, fun i N' l' h1 h2 => ?_⟩
      have D := x.rset_at C k i h1
      have li := x.c.i_le h2.1
      generalize ed : ns.drop k = ms at D
      generalize ei : i = i' at D
      cases D with
      | nil => omega
      | @cons i2 M l2 ms hq2 D =>
        subst ei
        have e := x.uniq hq2 h2.1
        have e3 : N' = M := congrArg Prod.fst e
        have e4 := at_drop ed
        rw [e2] at e4
        rw [e3]
        exact (Option.some.inj e4).symm
  · rw [List.getElem?_eq_none_iff.mpr (by omega), List.getElem?_eq_none_iff.mpr (by omega)]
    rfl
theorem lookFrom_at {r : Rc} (g1 : 1 ≤ r.g) {phase t : Int} (h : phase ≤ t) : t ≤ lookFrom r phase t ∧ lookFrom r phase t < t + r.g := by
  unfold lookFrom
  split
  · omega
  · have p : (0 : Int) < (r.g : Int) := by omega
    generalize (r.g : Int) = g at *
    have e := Int.mul_ediv_add_emod (t - phase + g - 1) g
    have l1 := Int.emod_nonneg (t - phase + g - 1) (Int.ne_of_gt p)
    have l2 := Int.emod_lt_of_pos (t - phase + g - 1) p
    generalize g * ((t - phase + g - 1) / g) = y at *
    omega
theorem Sx.g_lo (x : Sx h r s ch) : (r.g : Int) ≤ (s.lo : Int) := by
  have n1 := x.n1
  have a := x.f.dn 0 (by omega)
  have : r.g * 1 ≤ r.g * (r.w + r.st * 0 + 1) := Nat.mul_le_mul_left _ (by omega)
  omega
/-- the machine reads the text -/
theorem Sx.read (x : Sx h r s ch) {phase : Int} (hph : ∀ (i : Nat) (t : Int), ch[i]? = some t → phase ≤ t) {i : Nat} {ns : List Nat} (C : Chn h s (rnOf ch) i ns) : ∀ look, cnt ch look = 2 * i ∨ (∃ t, ch[2 * i]? = some t ∧ t ≤ look ∧ look < t + r.g ∧ cnt ch look = 2 * i + 1) → ∃ m, Rdg h r ch phase m look ns := by
  have elen : (rnOf ch).length = ch.length / 2 := rn_len ch
  have even := x.even
  have n1 := x.n1
  have glo := x.g_lo
  have g1 := x.f.g1
  induction C with
  | nil =>
    intro look hl
    rcases hl with hl | ⟨t, et, _⟩
    · exact ⟨0, .stop (by omega) (by omega)⟩
    · have := (List.getElem?_eq_some_iff.mp et).1
      omega
  | @cons i N l ns hq C ih =>
    obtain ⟨t, b, et, eb, tb, A⟩ := x.see hq
    have lf := x.c.leaf hq
    have fr : ∀ look, t ≤ look → look < t + r.g → cnt ch look = 2 * i + 1 → ∃ m, Rdg h r ch phase m look (N :: ns) := fun look h1 h2 h3 => by
      have S := A look h1 h2
      have cl : cnt ch (r.look look (h.n - 1)) = 2 * l := (S (h.n - 1) (by omega)).2 (by omega)
      obtain ⟨m, R⟩ := ih (r.look look (h.n - 1) + r.g) (by
        have nl : l = l := rfl
        have old : ∀ k, 2 * l = k + 1 → ∃ y, ch[k]? = some y ∧ y ≤ r.look look (h.n - 1) := fun k hk => by
          have := cnt_le ch (r.look look (h.n - 1))
          have e : ch[k]? = some ch[k] := List.getElem?_eq_getElem (by omega)
          exact ⟨_, e, (cnt_iff x.inc e).mpr (by omega)⟩
        cases ec : ch[2 * l]? with
        | none =>
          refine .inl (cnt_eq x.inc (fun k hk => ?_) fun y ey => ?_)
          · obtain ⟨y, e, ly⟩ := old k hk
            exact ⟨y, e, by omega⟩
          · rw [ec] at ey
            cases ey
        | some c =>
          have cgt : r.look look (h.n - 1) < c := by
            have : ¬ (c ≤ r.look look (h.n - 1)) := fun z => by
              have := (cnt_iff x.inc ec).mp z
              omega
            omega
          by_cases lc : r.look look (h.n - 1) + r.g < c
          · refine .inl (cnt_eq x.inc (fun k hk => ?_) fun y ey => ?_)
            · obtain ⟨y, e, ly⟩ := old k hk
              exact ⟨y, e, by omega⟩
            · rw [ec] at ey
              obtain rfl := Option.some.inj ey
              exact lc
          · refine .inr ⟨c, rfl, by omega, by omega, cnt_eq x.inc (fun k hk => ?_) fun y ey => ?_⟩
            · have : k = 2 * l := by omega
              rw [this]
              exact ⟨c, ec, by omega⟩
            · -- the next frame's first run is long enough
              generalize el : l = l' at C
              cases C with
              | nil =>
                have := (List.getElem?_eq_some_iff.mp ec).1
                omega
              | cons hq2 C =>
                subst el
                obtain ⟨t2, b2, et2, eb2, tb2, _⟩ := x.see hq2
                have e1 := Option.some.inj (ec.symm.trans et2)
                have e2 := Option.some.inj (ey.symm.trans eb2)
                omega)
      exact ⟨m + 1, .frame lf.2.2.1 (by omega) (fun j hj => (S j hj).1) R⟩
    intro look hl
    rcases hl with hl | ⟨t', et', h1, h2, h3⟩
    · have lk := lookFrom_at (r := r) g1 (hph _ _ et)
      obtain ⟨m, R⟩ := fr (lookFrom r phase t) lk.1 lk.2 (cnt_eq x.inc (fun k hk => by
        have : k = 2 * i := by omega
        rw [this]
        exact ⟨t, et, lk.1⟩) fun y ey => by
        have e2 := Option.some.inj (ey.symm.trans eb)
        omega)
      exact ⟨m + 1, .skip (by omega) (by rw [hl]; exact et) R⟩
    · obtain rfl := Option.some.inj (et.symm.trans et')
      exact fr look h1 h2 h3
theorem first_le {ch : List Int} (inc : Inc ch) {i : Nat} {t : Int} (e : ch[i]? = some t) : firstOf ch ≤ t := by
  cases ch with
  | nil => cases e
  | cons a ch =>
    show a ≤ t
    match i with
    | 0 =>
      have := Option.some.inj (show some a = some t from e)
      omega
    | i + 1 =>
      have := (List.pairwise_cons.mp inc).1 t (List.mem_of_getElem? (show ch[i]? = some t from e))
      omega
/-- all that one text means -/
theorem Sx.text (x : Sx h r s ch) {ns : List Nat} (C : Chn h s (rnOf ch) 0 ns) (l60 : ns.length ≤ 60) : OneText h s r ch ns := by
  have w1 := x.wy1 C start_in
  obtain ⟨idx, t1, t2, t3⟩ := x.c.index C start_in
  have i0 : idx = 0 := by omega
  subst i0
  refine ⟨w1, t3, t1, fun i ps k => x.c.sm k, fun i N l k => x.c.num k, ?_, x.sure C, fun e he => ?_, l60, x.c.chn_lt C⟩
  · obtain ⟨t, e, _⟩ := x.c.chn_meas C start_in
    rw [List.drop_zero] at e
    obtain ⟨ms, D, el⟩ := x.c.few_chn _ 0 rfl (Nat.zero_le _) start_in t (by rw [List.drop_zero]; exact e)
    rw [meA_eq, e, ← x.chn_uniq C ms D, el]
    rfl
  · have hph : ∀ (i : Nat) (t : Int), ch[i]? = some t → firstOf ch - e ≤ t := fun i t et => by
      have := first_le x.inc et
      omega
    refine x.read hph C _ ?_
    cases ech : ch with
    | nil => exact .inl rfl
    | cons a ch' =>
      have e0 : ch[0]? = some a := by rw [ech] <;> rfl
      have ef : firstOf ch = a := by rw [ech] <;> rfl
      rw [← ech, ef]
      by_cases c : e = 0
      · have g1 := x.f.g1
        refine .inr ⟨a, e0, by omega, by omega, cnt_eq x.inc (fun k hk => ?_) fun y ey => ?_⟩
        · have : k = 0 := by omega
          rw [this]
          exact ⟨a, e0, by omega⟩
        · have p := x.inc
          rw [ech] at p ey
          have := (List.pairwise_cons.mp p).1 y (List.mem_of_getElem? (show ch'[0]? = some y from ey))
          omega
      · refine .inl (cnt_eq x.inc (fun k hk => by omega) fun y ey => ?_)
        have := Option.some.inj (e0.symm.trans ey)
        omega
end
end K89

set_option maxRecDepth 100000
set_option maxHeartbeats 2000000
namespace K89
open PySem L2
theorem fl_two (h : Sh) (N j : Nat) : fl h N j = 0 ∨ fl h N j = 1 := by
  have b := bit_lt N (j - 1)
  have c : plv h N < 2 := Nat.mod_lt _ (by decide)
  unfold fl
  split
  · exact .inl rfl
  · split
    · omega
    · split
      · omega
      · exact .inr rfl
theorem frL_drop (h : Sh) (N p : Nat) (hp : p < h.n) : (frL h N).drop p = fl h N p :: (frL h N).drop (p + 1) := by
  have l : (frL h N).length = h.n := by
    unfold frL
    rw [List.length_map, List.length_range]
  rw [List.drop_eq_getElem_cons (by omega)]
  congr 1
  unfold frL
  rw [List.getElem_map, List.getElem_range]
theorem frL_len (h : Sh) (N : Nat) : (frL h N).length = h.n := by
  unfold frL
  rw [List.length_map, List.length_range]
theorem rn_two (a b : Int) (X : List Int) : rnOf (a :: b :: X) = ((b - a).toNat, X.head?.map fun c => (c - b).toNat) :: rnOf X := rfl
/-- from a place of a frame on: what the line's changes are -/
theorem line_go {h : Sh} {s : Sn} (hk : h.Ok) (ok : s.Ok) {N : Nat} {R : List (Nat × Int)} {E : Int} {X : List Int} (eX : X = chg 1 E R) (hX : ∀ x, X.head? = some x → E ≤ x) : ∀ (its : List (Nat × Int)) (p : Nat) (t : Int), its.map (·.1) = (frL h N).drop p → p ≤ h.n → E = t + tot its → (∀ y ∈ its, (s.lo : Int) ≤ y.2 ∧ y.2 ≤ (s.hi : Int)) →
    (∀ (p0 m : Nat) (a : Int), p = p0 + m → 1 ≤ m → p ≤ h.stop → (∀ j, p0 ≤ j → j < p → fl h N j = 0) → a + ((m * s.lo : Nat) : Int) ≤ t → t ≤ a + ((m * s.hi : Nat) : Int) →
      ∃ C k, chg 0 t (its ++ R) = C ++ X ∧ C.length + 1 = 2 * k ∧ C.length ≤ h.stop + 1 - p ∧ Fr h s (fl h N) (rnOf (a :: (C ++ X))) p0 k) ∧
    (∀ (p0 m : Nat) (b : Int), p = p0 + m → 1 ≤ m → (∀ j, p0 ≤ j → j < p → fl h N j = 1) → b + ((m * s.lo : Nat) : Int) ≤ t → t ≤ b + ((m * s.hi : Nat) : Int) →
      ∃ C, chg 1 t (its ++ R) = C ++ X ∧ C.length ≤ h.stop + 1 - p ∧ ((C = [] ∧ (∀ j, p0 ≤ j → j < h.stop → fl h N j = 1) ∧ b + (((h.n - p0) * s.lo : Nat) : Int) ≤ E) ∨
        ∃ m2 c C' k, C = c :: C' ∧ 1 ≤ m2 ∧ p0 + m2 < h.stop ∧ (∀ j, p0 ≤ j → j < p0 + m2 → fl h N j = 1) ∧ b + ((m2 * s.lo : Nat) : Int) ≤ c ∧ c ≤ b + ((m2 * s.hi : Nat) : Int) ∧ C'.length + 1 = 2 * k ∧ Fr h s (fl h N) (rnOf (c :: (C' ++ X))) (p0 + m2) k))
  | [], p, t, hl, hp, hE, _ => by
    have n1 : h.stop < h.n := by
      have : h.n = h.stop + h.s := rfl
      have := hk.s1
      omega
    have pn : p = h.n := by
      have := congrArg List.length hl
      rw [List.length_drop, frL_len] at this
      simp only [List.map_nil, List.length_nil] at this
      omega
    have et : E = t := by
      have : tot [] = 0 := rfl
      omega
    refine ⟨fun p0 m a e1 e2 e3 => by omega, fun p0 m b e1 e2 e3 e4 e5 => ⟨[], ?_, Nat.zero_le _, .inl ⟨rfl, fun j h1 h2 => e3 j h1 (by omega), ?_⟩⟩⟩
    · rw [List.nil_append, List.nil_append, eX, et]
    · have : h.n - p0 = m := by omega
      rw [this, et]
      exact e4
  | (l, d) :: its, p, t, hl, hp, hE, hd => by
    have n1 : h.stop < h.n := by
      have : h.n = h.stop + h.s := rfl
      have := hk.s1
      omega
    have pn : p < h.n := by
      have := congrArg List.length hl
      rw [List.length_drop, frL_len, List.length_map, List.length_cons] at this
      omega
    rw [frL_drop h N p pn, List.map_cons] at hl
    have el : l = fl h N p := (List.cons.inj hl).1
    have hl2 := (List.cons.inj hl).2
    have d1 := hd _ List.mem_cons_self
    simp only at d1
    have l1 := ok.l1
    have hE2 : E = t + d + tot its := by
      have : tot ((l, d) :: its) = d + tot its := by simp [tot]
      omega
    obtain ⟨A0, A1⟩ := line_go hk ok eX hX its (p + 1) (t + d) hl2 (by omega) hE2 fun y m => hd y (List.mem_cons_of_mem _ m)
    have mm : ∀ m x : Nat, (m + 1) * x = m * x + x := fun m x => Nat.succ_mul m x
    have ch1 : ∀ f, l = f → chg f t ((l, d) :: its ++ R) = chg l (t + d) (its ++ R) := fun f e => by
      show (if l = f then [] else [t]) ++ chg l (t + d) (its ++ R) = _
      rw [if_pos e]
      rfl
    have ch2 : ∀ f, l ≠ f → chg f t ((l, d) :: its ++ R) = t :: chg l (t + d) (its ++ R) := fun f e => by
      show (if l = f then [] else [t]) ++ chg l (t + d) (its ++ R) = _
      rw [if_neg e]
      rfl
    rcases fl_two h N p with e0 | e0
    · -- a zero
      have l0 : l = 0 := by omega
      have ps : p < h.stop := by
        have : ¬ h.stop ≤ p := fun z => by
          have := fl_stop (N := N) z
          omega
        omega
      constructor
      · intro p0 m a e1 e2 e3 e4 e5 e6
        rw [ch1 0 l0, l0]
        obtain ⟨C, k, c1, c2, c3, c4⟩ := A0 p0 (m + 1) a (by omega) (by omega) (by omega) (fun j h1 h2 => by
          by_cases c : j = p
          · rw [c]
            exact e0
          · exact e4 j h1 (by omega)) (by rw [mm]; omega) (by rw [mm]; omega)
        exact ⟨C, k, c1, c2, by omega, c4⟩
      · intro p0 m b e1 e2 e4 e5 e6
        rw [ch2 1 (by omega), l0]
        obtain ⟨C, k, c1, c2, c3, c4⟩ := A0 p 1 t rfl (by omega) (by omega) (fun j h1 h2 => by
          have : j = p := by omega
          rw [this]
          exact e0) (by omega) (by omega)
        rw [c1]
        refine ⟨t :: C, rfl, by rw [List.length_cons]; omega, .inr ⟨m, t, C, k, rfl, e2, by omega, fun j h1 h2 => e4 j h1 (by omega), e5, e6, c2, ?_⟩⟩
        rw [← e1]
        exact c4
    · -- a one
      have l0 : l = 1 := by omega
      constructor
      · intro p0 m a e1 e2 e3 e4 e5 e6
        rw [ch2 0 (by omega), l0]
        have ml : 1 ≤ m * s.lo := Nat.mul_pos e2 l1
        obtain ⟨C, c1, c3, cc⟩ := A1 p 1 t rfl (by omega) (fun j h1 h2 => by
          have : j = p := by omega
          rw [this]
          exact e0) (by omega) (by omega)
        rw [c1]
        rcases cc with ⟨rfl, c4, c5⟩ | ⟨m2, c, C', k, rfl, c4, c5, c6, c7, c8, c9, c10⟩
        · refine ⟨[t], 1, rfl, rfl, by simp; omega, ?_⟩
          show Fr h s (fl h N) (rnOf (a :: t :: X)) p0 1
          rw [rn_two]
          refine .last e2 (by omega) (by omega) (by omega) (fun j h1 h2 => e4 j h1 (by omega)) (fun j h1 h2 => c4 j (by omega) h2) ?_
          cases ex : X.head? with
          | none => rfl
          | some x =>
            have := hX x ex
            have en : p0 + m = p := e1.symm
            show decide ((h.n - (p0 + m)) * s.lo ≤ (x - t).toNat) = true
            rw [en]
            exact decide_eq_true (by omega)
        · refine ⟨t :: c :: C', k + 1, rfl, by simp only [List.length_cons]; omega, by simp only [List.length_cons] at c3 ⊢; omega, ?_⟩
          show Fr h s (fl h N) (rnOf (a :: t :: c :: (C' ++ X))) p0 (k + 1)
          rw [rn_two]
          have ml2 : 1 ≤ m2 * s.lo := Nat.mul_pos c4 l1
          refine .more (many := m) (more := m2) e2 (by omega) (by omega) c4 (by simp only; omega) (by simp only; omega) (by omega) (fun j h1 h2 => e4 j h1 (by omega)) (fun j h1 h2 => c6 j (by omega) (by omega)) ?_
          rw [← e1]
          exact c10
      · intro p0 m b e1 e2 e4 e5 e6
        rw [ch1 1 l0, l0]
        obtain ⟨C, c1, c3, cc⟩ := A1 p0 (m + 1) b (by omega) (by omega) (fun j h1 h2 => by
          by_cases c : j = p
          · rw [c]
            exact e0
          · exact e4 j h1 (by omega)) (by rw [mm]; omega) (by rw [mm]; omega)
        exact ⟨C, c1, Nat.le_trans c3 (Nat.sub_le_sub_left (Nat.le_succ p) _), cc⟩
/-- changes that follow one another -/
def Gd : Nat → List (Nat × Int) → Prop
  | _, [] => True
  | f, (l, d) :: r => 0 ≤ d ∧ (l ≠ f → 1 ≤ d) ∧ Gd l r
theorem gd_inc : ∀ (its : List (Nat × Int)) (f : Nat) (t : Int), Gd f its → Inc (chg f t its) ∧ 0 ≤ tot its ∧ ∀ x ∈ chg f t its, t ≤ x ∧ x ≤ t + tot its
  | [], _, _, _ => ⟨.nil, Int.le_refl _, fun x m => by cases m⟩
  | (l, d) :: its, f, t, ⟨h1, h2, h3⟩ => by
    obtain ⟨a, b, c⟩ := gd_inc its l (t + d) h3
    have et : tot ((l, d) :: its) = d + tot its := by simp [tot]
    show Inc ((if l = f then [] else [t]) ++ chg l (t + d) its) ∧ _ ∧ ∀ x ∈ (if l = f then [] else [t]) ++ chg l (t + d) its, _
    rw [et]
    by_cases e : l = f
    · rw [if_pos e]
      refine ⟨a, by omega, fun x m => ?_⟩
      have := c x m
      omega
    · rw [if_neg e]
      have := h2 e
      refine ⟨List.pairwise_cons.mpr ⟨fun x m => ?_, a⟩, by omega, fun x m => ?_⟩
      · have := c x m
        omega
      · rcases List.mem_cons.mp m with rfl | m
        · omega
        · have := c x m
          omega
theorem gd_pos : ∀ (its : List (Nat × Int)) (f : Nat) {R : List (Nat × Int)}, (∀ y ∈ its, 1 ≤ y.2) → Gd (lastL f its) R → Gd f (its ++ R)
  | [], _, _, _, h => h
  | (l, d) :: its, f, R, hy, h => by
    have := hy _ List.mem_cons_self
    simp only at this
    exact ⟨by omega, fun _ => this, gd_pos its l (fun y m => hy y (List.mem_cons_of_mem _ m)) h⟩
theorem lastL_one {h : Sh} (hk : h.Ok) {N : Nat} {its : List (Nat × Int)} (e : its.map (·.1) = frL h N) (f : Nat) : lastL f its = 1 := by
  have n1 : h.stop < h.n := by
    have : h.n = h.stop + h.s := rfl
    have := hk.s1
    omega
  obtain ⟨m, em⟩ : ∃ m, h.n = m + 1 := ⟨h.n - 1, by omega⟩
  unfold frL at e
  rw [em, List.range_succ, List.map_append] at e
  obtain ⟨l1, l2, rfl, _, e2⟩ := List.map_eq_append_iff.mp e
  match l2, e2 with
  | [(l, d)], e2 =>
    have : l = fl h N m := (List.cons.inj e2).1
    rw [lastL_snoc, this]
    exact fl_stop (by omega)
theorem frs_gd {h : Sh} {s : Sn} (hk : h.Ok) (ok : s.Ok) : ∀ (L : List FrT), (∀ x ∈ L, FrI h s x) → Gd 1 (L.flatMap itm)
  | [], _ => trivial
  | x :: L, hL => by
    have x0 := hL x List.mem_cons_self
    have l1 := ok.l1
    rw [List.flatMap_cons]
    unfold itm
    rw [List.append_assoc]
    refine gd_pos _ _ (fun y m => by have := x0.dur y m; omega) ?_
    rw [lastL_one hk x0.lev]
    exact ⟨x0.gap.1, fun z => absurd rfl z, frs_gd hk ok L fun y m => hL y (List.mem_cons_of_mem _ m)⟩
end K89

set_option maxRecDepth 100000
set_option maxHeartbeats 2000000
namespace K89
open PySem L2
theorem rn_drop {X : List Int} : ∀ (k : Nat) (A : List Int), A.length = 2 * k → (rnOf (A ++ X)).drop k = rnOf X
  | 0, A, h => by
    have : A = [] := List.length_eq_zero_iff.mp (by omega)
    rw [this]
    rfl
  | k + 1, A, h => by
    match A, h with
    | a :: b :: A, h =>
      have ih := rn_drop (X := X) k A (by simp only [List.length_cons] at h; omega)
      show (rnOf (a :: b :: (A ++ X))).drop (k + 1) = _
      rw [rn_two, List.drop_succ_cons, ih]
    | [a], h => simp at h; omega
    | [], h => simp at h
theorem frs_head {h : Sh} {s : Sn} (hk : h.Ok) : ∀ (L : List FrT) (t : Int), (∀ x ∈ L, FrI h s x) → ∀ x, (chg 1 t (L.flatMap itm)).head? = some x → x = t
  | [], _, _, _, e => by cases e
  | y :: L, t, hL, x, e => by
    have y0 := hL y List.mem_cons_self
    have n1 : h.stop < h.n := by
      have : h.n = h.stop + h.s := rfl
      have := hk.s1
      omega
    have lev := y0.lev
    have := frL_drop h y.1 0 (by omega)
    rw [List.drop_zero] at this
    rw [this] at lev
    rw [List.flatMap_cons] at e
    unfold itm at e
    generalize y.2.1 = its at lev e
    match its, lev, e with
    | (l, d) :: its, lev, e =>
      have l0 : l = 0 := (List.cons.inj lev).1
      subst l0
      exact (Option.some.inj e).symm
/-- the first frame of a line -/
theorem frm_one {h : Sh} {s : Sn} (hk : h.Ok) (ok : s.Ok) {x : FrT} {L : List FrT} {t : Int} (hL : ∀ y ∈ x :: L, FrI h s y) : ∃ E C k, chg 1 t ((x :: L).flatMap itm) = t :: (C ++ chg 1 E (L.flatMap itm)) ∧ C.length + 1 = 2 * k ∧ C.length ≤ h.stop ∧ Fr h s (fl h x.1) (rnOf (t :: (C ++ chg 1 E (L.flatMap itm)))) 0 k := by
  have n1 : h.stop < h.n := by
    have : h.n = h.stop + h.s := rfl
    have := hk.s1
    omega
  have hst := stop_le h
  have x0 := hL x List.mem_cons_self
  obtain ⟨N, fr, gap⟩ := x
  have lev : fr.map (·.1) = frL h N := x0.lev
  have dur : ∀ y ∈ fr, (s.lo : Int) ≤ y.2 ∧ y.2 ≤ (s.hi : Int) := x0.dur
  have gp : 0 ≤ gap := x0.gap.1
  have e0 := frL_drop h N 0 (by omega)
  rw [List.drop_zero] at e0
  rw [e0] at lev
  rw [List.flatMap_cons]
  show ∃ E C k, chg 1 t ((fr ++ [(1, gap)]) ++ L.flatMap itm) = _ ∧ _
  match fr, lev, dur with
  | (l, d) :: its, lev, dur =>
    have l0 : l = 0 := (List.cons.inj lev).1
    have hl2 := (List.cons.inj lev).2
    subst l0
    have d1 := dur _ List.mem_cons_self
    simp only at d1
    have eX : chg 1 (t + d + tot its + gap) (L.flatMap itm) = chg 1 (t + d + tot its) ((1, gap) :: L.flatMap itm) := rfl
    have A := (line_go hk ok (N := N) eX (fun z ez => by
      have := frs_head hk L _ (fun y m => hL y (List.mem_cons_of_mem _ m)) z ez
      omega) its 1 (t + d) hl2 (by omega) rfl fun y m => dur y (List.mem_cons_of_mem _ m)).1 0 1 t rfl (by omega) (by omega) (fun j h1 h2 => by
        have : j = 0 := by omega
        rw [this]
        rfl) (by omega) (by omega)
    obtain ⟨C, k, c1, c2, c3, c4⟩ := A
    refine ⟨_, C, k, ?_, c2, by omega, c4⟩
    show t :: chg 0 (t + d) (its ++ [(1, gap)] ++ L.flatMap itm) = _
    rw [List.append_assoc]
    show t :: chg 0 (t + d) (its ++ (1, gap) :: L.flatMap itm) = _
    rw [c1]
theorem frs_len {h : Sh} {s : Sn} (hk : h.Ok) (ok : s.Ok) : ∀ (L : List FrT) (t : Int), (∀ y ∈ L, FrI h s y) → (chg 1 t (L.flatMap itm)).length % 2 = 0 ∧ (chg 1 t (L.flatMap itm)).length ≤ 12 * L.length
  | [], _, _ => ⟨rfl, Nat.le_refl _⟩
  | x :: L, t, hL => by
    have b := sh_small hk
    obtain ⟨E, C, k, e, c1, c2, _⟩ := frm_one (t := t) hk ok hL
    obtain ⟨a1, a2⟩ := frs_len hk ok L E fun y m => hL y (List.mem_cons_of_mem _ m)
    rw [e, List.length_cons, List.length_append, List.length_cons]
    omega
theorem frs_chn {h : Sh} {s : Sn} {rs : List Run} (c : Cx h s rs) : ∀ (L : List FrT) (t : Int) (i : Nat), (∀ y ∈ L, FrI h s y) → i ≤ rs.length → rs.drop i = rnOf (chg 1 t (L.flatMap itm)) → Chn h s rs i (L.map (·.1))
  | [], _, i, _, hi, e => by
    have : rs.drop i = [] := e
    have := congrArg List.length this
    rw [List.length_drop, List.length_nil] at this
    have : i = rs.length := by omega
    rw [this]
    exact .nil
  | x :: L, t, i, hL, hi, er => by
    obtain ⟨E, C, k, e, c1, c2, F⟩ := frm_one (t := t) c.hk c.ok hL
    rw [e] at er
    rw [← er] at F
    have lt := (hL x List.mem_cons_self).lt
    have m := lvs_full c.ok lt F i (c.dr i) c.hp
    rw [Nat.zero_sub, Nat.pow_zero, Nat.mod_one] at m
    have lf := c.leaf m
    refine .cons m (frs_chn c L E (i + k) (fun y m => hL y (List.mem_cons_of_mem _ m)) lf.2.1 ?_)
    rw [← List.drop_drop, er]
    have := rn_drop (X := chg 1 E (L.flatMap itm)) k (t :: C) (by rw [List.length_cons]; omega)
    exact this
theorem inc_lt {ch : List Int} (inc : Inc ch) {i j : Nat} {a b : Int} (ea : ch[i]? = some a) (eb : ch[j]? = some b) (lt : i < j) : a < b := by
  obtain ⟨h1, rfl⟩ := List.getElem?_eq_some_iff.mp ea
  obtain ⟨h2, rfl⟩ := List.getElem?_eq_some_iff.mp eb
  exact List.pairwise_iff_getElem.mp inc i j h1 h2 lt
theorem sig_of {s : Sn} {ch : List Int} (inc : Inc ch) (even : ch.length % 2 = 0) (len : ch.length ≤ 200) (hb : ∀ i x y, ch[i]? = some x → ch[i + 1]? = some y → y - x ≤ 2 ^ 60 * (s.hi : Int)) : SigOk s ch := by
  have key : ∀ {i : Nat} {r : Run}, (rnOf ch)[i]? = some r → ∃ a b, ch[2 * i]? = some a ∧ ch[2 * i + 1]? = some b ∧ r.1 = (b - a).toNat ∧ r.2 = (ch[2 * i + 2]?).map fun c => (c - b).toNat := fun {i r} e => by
    have lt := (List.getElem?_eq_some_iff.mp e).1
    rw [rn_len] at lt
    have e1 : ch[2 * i]? = some ch[2 * i] := List.getElem?_eq_getElem (by omega)
    have e2 : ch[2 * i + 1]? = some ch[2 * i + 1] := List.getElem?_eq_getElem (by omega)
    have k2 := rn_at e1 e2
    rw [e] at k2
    have k3 := Option.some.inj k2
    exact ⟨_, _, e1, e2, congrArg Prod.fst k3, congrArg Prod.snd k3⟩
  refine ⟨inc, even, len, fun r m => ?_, fun i r o e eo => ?_⟩
  · obtain ⟨i, e⟩ := List.getElem?_of_mem m
    obtain ⟨a, b, ea, eb, e1, e2⟩ := key e
    have l1 := inc_lt inc ea eb (by omega)
    have l2 := hb _ _ _ ea eb
    refine ⟨by rw [e1]; omega, by rw [e1]; omega, fun o eo => ?_⟩
    rw [e2] at eo
    cases ec : ch[2 * i + 2]? with
    | none =>
      rw [ec] at eo
      cases eo
    | some c =>
      rw [ec] at eo
      have eo' : (c - b).toNat = o := Option.some.inj eo
      have l3 := inc_lt inc eb ec (by omega)
      have l4 := hb _ _ _ eb ec
      omega
  · obtain ⟨a, b, ea, eb, e1, e2⟩ := key e
    rw [e2] at eo
    cases ec : ch[2 * i + 2]? with
    | none =>
      rw [ec] at eo
      cases eo
    | some c =>
      have := (List.getElem?_eq_some_iff.mp ec).1
      rw [rn_len]
      omega
theorem tot_le {D : Int} : ∀ (its : List (Nat × Int)), (∀ y ∈ its, y.2 ≤ D) → tot its ≤ its.length * D
  | [], _ => by simp [tot]
  | (l, d) :: its, hy => by
    have ih := tot_le its fun y m => hy y (List.mem_cons_of_mem _ m)
    have := hy _ List.mem_cons_self
    simp only at this
    have et : tot ((l, d) :: its) = d + tot its := by simp [tot]
    rw [et, List.length_cons, Int.natCast_add, Int.add_mul]
    omega
theorem itm_len {h : Sh} {s : Sn} (hk : h.Ok) : ∀ (L : List FrT), (∀ y ∈ L, FrI h s y) → (L.flatMap itm).length ≤ 20 * L.length ∧ ∀ y ∈ L.flatMap itm, y.2 ≤ 40 * (s.hi : Int)
  | [], _ => ⟨Nat.le_refl _, fun y m => by cases m⟩
  | x :: L, hL => by
    have b := sh_small hk
    have x0 := hL x List.mem_cons_self
    obtain ⟨a1, a2⟩ := itm_len hk L fun y m => hL y (List.mem_cons_of_mem _ m)
    have e := congrArg List.length x0.lev
    rw [List.length_map, frL_len] at e
    rw [List.flatMap_cons]
    unfold itm at a1 a2 ⊢
    refine ⟨?_, fun y m => ?_⟩
    · rw [List.length_append, List.length_append, List.length_cons, List.length_cons, List.length_nil]
      omega
    · rcases List.mem_append.mp m with m | m
      · rcases List.mem_append.mp m with m | m
        · have := (x0.dur y m).2
          omega
        · obtain rfl := List.mem_singleton.mp m
          exact x0.gap.2
      · exact a2 y m
theorem line_sig {h : Sh} {s : Sn} {ns : List Nat} {ch : List Int} (hk : h.Ok) (ok : s.Ok) (l16 : ns.length ≤ 16) (ln : LineOk h s ns ch) : SigOk s ch ∧ Chn h s (rnOf ch) 0 ns := by
  obtain ⟨t0, L, hL, rfl, rfl⟩ := ln
  rw [List.length_map] at l16
  obtain ⟨b1, b2⟩ := frs_len hk ok L t0 hL
  obtain ⟨g1, g2, g3⟩ := gd_inc _ _ t0 (frs_gd hk ok L hL)
  obtain ⟨i1, i2⟩ := itm_len hk L hL
  have tl := tot_le _ i2
  have big : tot (L.flatMap itm) ≤ 2 ^ 60 * (s.hi : Int) := by
    have : ((L.flatMap itm).length : Int) * (40 * (s.hi : Int)) ≤ 320 * (40 * (s.hi : Int)) := Int.mul_le_mul_of_nonneg_right (by omega) (by omega)
    omega
  have sg : SigOk s (chg 1 t0 (L.flatMap itm)) := sig_of g1 b1 (by omega) fun i x y ex ey => by
    have := g3 x (List.mem_of_getElem? ex)
    have := g3 y (List.mem_of_getElem? ey)
    omega
  exact ⟨sg, frs_chn ⟨hk, ok, sg.runs.all⟩ L t0 0 hL (Nat.zero_le _) rfl⟩
theorem inc_gaps : ∀ (ch : List Int), (∀ i x y, ch[i]? = some x → ch[i + 1]? = some y → x < y) → Inc ch
  | [], _ => .nil
  | [a], _ => List.pairwise_singleton _ _
  | a :: b :: ch, hg => by
    have ih := inc_gaps (b :: ch) fun i x y e1 e2 => hg (i + 1) x y e1 e2
    have ab : a < b := hg 0 a b rfl rfl
    refine List.pairwise_cons.mpr ⟨fun x m => ?_, ih⟩
    rcases List.mem_cons.mp m with rfl | m
    · exact ab
    · have := (List.pairwise_cons.mp ih).1 x m
      omega
theorem runs_sig {s : Sn} {ch : List Int} (R : RunsIn s ch) : SigOk s ch := by
  have l8 := R.len
  exact sig_of (inc_gaps ch fun i x y e1 e2 => by have := R.gaps i x y e1 e2; omega) R.even (by omega) fun i x y e1 e2 => by
    have := R.gaps i x y e1 e2
    omega
theorem math_ok : MathOk where
  line := fun h r s ns ch hk rk ok hlo hhi l16 ln => by
    obtain ⟨sg, C⟩ := line_sig hk ok l16 ln
    exact ⟨sg, Sx.text ⟨⟨hk, ok, sg.runs.all⟩, safe_of hk rk hlo hhi, sg.inc, sg.even⟩ C (by omega)⟩
  wide := fun h s ns ch hk ok l4 ln s2 ok2 h1 h2 => by
    have ln2 : LineOk h s2 ns ch := by
      obtain ⟨t0, L, hL, e1, e2⟩ := ln
      refine ⟨t0, L, fun x m => ?_, e1, e2⟩
      have x0 := hL x m
      exact ⟨x0.lt, x0.lev, fun y m => by have := x0.dur y m; omega, by have := x0.gap; omega⟩
    obtain ⟨sg, C⟩ := line_sig hk ok2 (by omega) ln2
    exact ⟨sg, wide_text ⟨hk, ok2, sg.runs.all⟩ C (by omega)⟩
  runs := fun h r s ch hk rk ok hlo hhi R => by
    have sg := runs_sig R
    have c : Cx h s (rnOf ch) := ⟨hk, ok, sg.runs.all⟩
    refine ⟨sg, fun pos => ?_⟩
    obtain ⟨ns, C⟩ := c.pos_chn _ 0 rfl (Nat.zero_le _) start_in pos
    have l := c.chn_len C
    rw [rn_len] at l
    have l8 := R.len
    have T := Sx.text ⟨c, safe_of hk rk hlo hhi, sg.inc, sg.even⟩ C (by omega)
    exact ⟨ns, T.nth, T⟩
end K89

set_option maxRecDepth 100000
set_option maxHeartbeats 2000000
namespace K89
open PySem PySem.Spec PyProof.Rows L2
theorem facts (M : MathOk) {P : Program} {w : World} {K : PySem.W.Frag} {h : Heap} {mg : PySem.Str → Option Value} {f : Addr} (X : K.In h) (G : h.Ns mainGlobals mg) (hfa : mg ("law" : PySem.Str) = some (.ref f)) (c : SaysX K) :
    ∃ fd : FuncData, (∀ (s : Shared) (v : Value), BindsTo s fd ⟨[v], []⟩ [("_law_script", v)]) ∧ ∀ base : Heap, K.In base → base.Ns mainGlobals mg → FnOk P w K mg base CX0 12 f fd ["_law_script"] (spLaw K) := by
  have T : Tx K mg := ⟨c, h, X, G⟩
  obtain ⟨fd, F⟩ := T.f_law
  have e := hfa.symm.trans T.g_law
  have e2 : f = ga K "law" := by
    have e3 := Option.some.inj e
    exact Value.ref.inj e3
  subst e2
  have b := FunD.bindsA (ps := ["_law_script"]) F fun _ _ _ _ _ _ us hl => match us, hl with | [_], _ => rfl
  exact ⟨fd, fun s v => b s [v] rfl, fun base _ _ => ok_law M T F⟩
end K89
open PySem PySem.W PySem.Calls PyProof.Rows
theorem last_step (M : K89.MathOk) : PySem.Challenge.rw_startbits_k89_whole_records_of_what_is_r.Holds := by
  w_on; o_law
  refine HandSHeadRun.head_any (r := OpenLaw.row PySem.Challenge.rw_startbits_k89_whole_records_of_what_is_r) (q := view (OpenLaw.row PySem.Challenge.rw_startbits_k89_whole_records_of_what_is_r).prog [90]) (H := K89.hk) (ob := K89.ob) (M := 6000) (loose := K89.names) (d := HandSHeadRun.topDef (OpenLaw.row PySem.Challenge.rw_startbits_k89_whole_records_of_what_is_r).prog 90) (kwd := []) K89.ob_eq
    (by kernel_rfl) (fun s => by kernel_rfl) K89.run (by kernel_rfl) (by kernel_rfl) (by kernel_rfl) (by rfl) (by first | assumption | decide +kernel) (by decide +kernel) ⟨rfl, rfl, rfl, rfl, rfl, by decide +kernel⟩ ?hw ?hc
  case hw => w_witness2
  case hc =>
    refine L2.walk_ofE (l := PySem.Challenge.rw_startbits_k89_whole_records_of_what_is_r) (n := 63) (k := 12) (x := "_law_script") (CX := L2.CX0) rfl (by decide) (by kernel_rfl) ⟨rfl, by decide, by decide⟩ ?F (fun _ _ _ _ z => z)
    intro w mg fa h Y G hmg0
    obtain ⟨K, KX, c⟩ := Y
    have hmg : mg ("law" : PySem.Str) = some (.ref fa) := by
      have e : (HandSHeadRun.topDef (OpenLaw.row PySem.Challenge.rw_startbits_k89_whole_records_of_what_is_r).prog 90).name = ("law" : PySem.Str) := by kernel_rfl
      rw [← e]
      exact hmg0
    obtain ⟨fd, hb, hF⟩ := K89.facts M (P := (PySem.Challenge.rw_startbits_k89_whole_records_of_what_is_r).prog) (w := w) KX G hmg c
    exact ⟨K, fd, K89.spLaw K, KX, hb, fun H a ns hl _ hS => ⟨a, ns, rfl, hS, fun _ => rfl⟩, hF⟩

theorem PySem.Challenge.cw_startbits_k89_whole_records_of_what_is_r_holds : PySem.Challenge.rw_startbits_k89_whole_records_of_what_is_r.Holds := by
  exact last_step K89.math_ok
