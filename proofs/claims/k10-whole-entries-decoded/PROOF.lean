import PyProof.Rows.All
import Wide.All
import OpenK.AllK
import Wide.FinOn
import HandS.ForMost
import HandS.ExcInit
import KE.GoesRaise
import HandS.ClsMeth
import HandS.WordsExc
import HandS.IsInst
import HandS.ExcIs
import HandS.ExcField
import HandS.HotCalls
import HandS.ExcInitHot
import KE.KTryMore
import KE.KStateDown
import HandS.Style
import HandS.Zip
import HandS.StrMore
import HandS.Lambda
import HandS.EndTab
import HandS.HeadWalk
import HandS.Defaults
import HandS.HeadHook4
import PySem.Challenge.RW_blocksearch_k10_whole_entries_decoded
import HandS.Conv
import PyProof.Rows.ListStrD
import PyProof.Rows.StrStep
import KE.DataEq
import Lean
import HandS.Head0
import HandS.Head1
import HandS.Head2
import KE.KNestM
import HandS.HeadEnd
set_option Elab.async false
set_option linter.all false
set_option maxRecDepth 100000
set_option maxHeartbeats 4000000
/-! A list comprehension out of which an exception goes (made in a callee of its element). -/
namespace PySem
namespace HandSPX
theorem FlyingZ.sub {B B' h : Heap} {l : List Env} {e : Addr} {Z : Obj → Prop} (x : FlyingZ B l e Z h) (k : ∀ b o, B'.get? b = some o → B.get? b = some o) : FlyingZ B' l e Z h := by
  have no : ∀ b, B.get? b = none → B'.get? b = none := fun b n => by
    cases q : B'.get? b with
    | none => rfl
    | some o => rw [k b o q] at n; cases n
  obtain ⟨x1, x2, x3, oe, vs, T, oT, ts, he, hz, hd, h1, hT, r⟩ := x
  exact ⟨fun b o e => x1 b o (k b o e), no _ x2, L2.funFrames_none x3 (fun L hL => no _ (x3.mem hL).1), oe, vs, T, oT, ts, he, hz, hd, h1, no _ hT, r⟩
theorem HeldZ.sameBut {B h h' : Heap} {l : List Env} {e L C : Addr} {Z : Obj → Prop} {m m' : Str → Option Value} (x : HeldZ B l e Z L h) (hB : B.get? C = none) (hn : h.Ns C m) (hn' : h'.Ns C m') (hs : Heap.SameBut C h h') : HeldZ B l e Z L h' := by
  obtain ⟨x1, x2, x3, oe, vs, T, oT, ts, he, hz, hd, h1, hT, hTe, hoT, hdT, h3⟩ := x
  have nC : ∀ b o vs, h.get? b = some o → o.data = .fields vs → b ≠ C := fun b o vs e d q => by
    obtain ⟨oC, es, ep, hC, dC, _⟩ := hn
    rw [q, hC] at e; cases e
    rw [d] at dC; cases dC
  exact ⟨fun b o e => (hs.2 b fun q => by rw [q, hB] at e; cases e).trans (x1 b o e), x2, Heap.FunFrames.sameBut hs hn' x3, oe, vs, T, oT, ts,
    (hs.2 _ (nC _ _ _ he hd)).trans he, hz, hd, h1, hT, hTe, (hs.2 _ (nC _ _ _ hoT hdT)).trans hoT, hdT, h3⟩
end HandSPX
end PySem
namespace L2
open PySem PySem.Spec PyProof.Rows
/-- a call's exception: the state without it -/
theorem XE.of_call2 {X : Cx} {pins : List (Addr × Obj)} {σ : St} {H : Hp} {s s' : Shared} {E : XK} (I : Inv X pins σ H s) {u : Value} (c : CX X.prog X.w X.stack H s E u s') :
    ∃ (a : Addr) (B : Heap) (sI : Shared) (H' : Hp) (cls : Value) (d : Option Addr), u = .ref a ∧ Inv X pins σ H' sI ∧ (∀ b o, sI.heap.get? b = some o → b ∉ frs X.stack → B.get? b = some o) ∧ sI.heap.UpToSlots s'.heap ∧
      HandSPX.FlyingZ B X.stack a (Zc cls d) s'.heap ∧ H' a = none ∧ s'.os = sI.os ∧ AllBare s'.gens ∧ E cls d H' := by
  obtain ⟨a, B, H', cls, d, rfl, fl, hok, ub, na, os, ag, hE⟩ := c
  obtain ⟨G, g1, g2⟩ := restrict s'.heap fun b => (B.get? b).isSome || decide (b ∈ frs X.stack)
  have st : B.StaysIn s'.heap := fl.1
  have gB : ∀ b o, B.get? b = some o → G.get? b = some o := fun b o e => by
    rw [g1 b (by simp [e])]
    exact st b o e
  have gF : ∀ b, b ∈ frs X.stack → G.get? b = s'.heap.get? b := fun b hb => g1 b (by simp [hb])
  have og : ∀ b o, G.get? b = some o → s'.heap.get? b = some o ∧ ((B.get? b).isSome = true ∨ b ∈ frs X.stack) := fun b o e => by
    cases q : ((B.get? b).isSome || decide (b ∈ frs X.stack)) with
    | false => rw [g2 b q] at e; cases e
    | true =>
      rw [g1 b q] at e
      exact ⟨e, by simpa [Bool.or_eq_true] using q⟩
  refine ⟨a, B, { s with heap := G, gens := s'.gens, drawn := s'.drawn, toks := s'.toks }, H', cls, d, rfl, ?_, fun b o e hb => ?_, Heap.UpToSlots.of_keeps fun b o e => (og b o e).1, fl, na, os, ag, hE⟩
  · refine I.call (ch := []) ⟨fun b o e n hb _ => gB b o (ub.keep b o e n hb), fun b o e n hb _ => ?_, fun b o e n _ => ub.free b o e n, fun b o e _ => ?_, ub.tups, ub.frzs, ub.tbls⟩ (hok.kept gB) ag (fun _ z => nomatch z)
    · obtain ⟨sl, q⟩ := ub.slot b o e hb
      exact ⟨sl, by rw [gF b hb]; exact q⟩
    · by_cases hb : b ∈ frs X.stack
      · obtain ⟨sl, q⟩ := ub.slot b o e hb
        exact ⟨_, by rw [gF b hb]; exact q⟩
      · obtain ⟨o', q⟩ := ub.there b o e hb
        exact ⟨o', gB b o' q⟩
  · obtain ⟨e', h⟩ := og b o e
    rcases h with h | h
    · obtain ⟨o', q⟩ := Option.isSome_iff_exists.mp h
      have z := st b o' q
      rw [e'] at z; cases z
      exact q
    · exact absurd h hb
/-- a block's context with a wish about exceptions -/
abbrev Cx.blkX (X : Cx) (s : Shared) (H : Hp) (scope : Scope) (cenv : Env) (fp : List Addr) (xe : Value → Shared → Prop) : Cx := (X.blk s H scope cenv fp).wish xe
section
variable {X : Cx}
theorem lc_coreX {pins : List (Addr × Obj)} {s : Shared} {σ : St} {H : Hp} {Q : VK} {elt tg iter : Expr} {ifs : List Expr} {scope : Scope} {own : List (Str × Nat)} {pos pos' : Pos} {wi : TI} {g : TG} {tt : TT} {te : TE} {Ech : XK} {use : Option (Value → Sem Unit)} {Qf : Value → Shared → Prop}
    (hst : X.stack = X.env :: X.outer) (hfr : X.env.frame = some X.env.locals) (tk : Takes X (fun cls d _ H => Ech cls d H))
    (hc : X.calm = true) (hN : X.N.Nodup) (I : Inv X pins σ H s) (hi : PI X tg iter wi) (ok : BlkOk X.N X.env.scope scope own)
    (hg : ∀ (s : Shared) (H : Hp) (C : Addr) (cl : List (Str × Addr)) (fp : List Addr) (xe : Value → Shared → Prop), PG (X.blkX s H scope (compEnvC scope cl C X.env) fp xe) tg g)
    (ht : ∀ (s : Shared) (H : Hp) (C : Addr) (cl : List (Str × Addr)) (fp : List Addr) (xe : Value → Shared → Prop), PTs (X.blkX s H scope (compEnvC scope cl C X.env) fp xe) ifs tt)
    (he : ∀ (s : Shared) (H : Hp) (C : Addr) (cl : List (Str × Addr)) (fp : List Addr) (xe : Value → Shared → Prop), Passes (L2.CX X.prog X.w) (X.blkX s H scope (compEnvC scope cl C X.env) fp xe) Ech → PE (X.blkX s H scope (compEnvC scope cl C X.env) fp xe) elt te)
    (hs : ∀ x, foldedSetIterable iter X.env x = pure x)
    (h : tLc wi g tt te (own.map (·.2)) σ H Q)
    (hRR : ∀ (D : Addr) (cenv : Env) (s' : Shared) (m : Str → Option Value) (H' : Hp), Inv X pins σ H' s' → Q (.ref D) H' → s'.heap.Ns cenv.locals m → FpOk X pins H' cenv.locals → compEnds (model X.prog X.w) X.A X.xe use Qf (.ref D) cenv (.ok .next) s') :
    wpAny (model X.prog X.w) X.A (comprehension (.ListComp elt [⟨tg, iter, ifs, 0⟩] scope pos) scope X.env pos' (newList []) false (eval iter X.env) use) Qf X.xe s := by
  have hfree : ∀ y ∈ scope.names, y.2 = .free → ∃ c, X.env.cells.lookup y.1 = some c := fun y hy e => by
    rcases ok.free y hy e with k | k
    · exact I.ok.has _ (.inl k)
    · exact I.ok.has _ (.inr k)
  refine comprehension_at (use := use) rfl hs (closure_ok hfree) ok.kind (fun y hy e => by rw [ok.uniq y hy, e])
    (thn (hi.run pins s σ H _ I h) fun xv s1 hx => thn hx fun itv s2 h2 => ?_)
  obtain ⟨it, fp, tn, J, H2, e, I2, T, st2, f2, q⟩ := h2
  subst e
  refine wpAny_newObj_type (newEnv_comp ?_) (by show 0 ≤ sizeLine; decide)
  generalize hD : s2.heap.objs.size = D
  have hDn : H2 D = none := I2.hok.fresh (Nat.le_of_eq hD)
  obtain ⟨W, ⟨m0, w0⟩, turn⟩ := q D hDn
  generalize hs3 : ({ s2 with heap := s2.heap.push { cls := .type "list", data := .seq ([] : List Value).toArray } } : Shared) = s3
  have I3 : Inv X pins σ (upd H2 D (.lst [])) s3 := by
    rw [← hs3]
    refine I2.laid (t' := s2.toks) (fun b o e => Heap.get?_push_of_some _ e) (Nat.le_of_eq hD) ⟨Nat.zero_le _, [], 0, .nil, ?_⟩
    rw [← hD]
    exact Heap.get?_push_size _ rfl
  have h3 : s3.heap = s2.heap.push { cls := .type "list", data := .seq ([] : List Value).toArray } := by rw [← hs3]
  have sz : ∀ b ∈ fp, b < s2.heap.objs.size := fun b hb => by
    obtain ⟨o, e, _⟩ := T.obj _ _ st2 b hb
    exact Heap.lt_size e
  have f3 : ∀ b ∈ fp, FpOk X pins (upd H2 D (.lst [])) b ∧ b < s3.heap.objs.size := fun b hb => by
    have hlt := sz b hb
    refine ⟨⟨?_, (f2 b hb).2⟩, by rw [h3, Heap.size_push]; exact Nat.lt_succ_of_lt hlt⟩
    rw [upd_ne (by rw [← hD]; exact Nat.ne_of_lt hlt)]
    exact (f2 b hb).1
  have st3 : tn 0 s3.heap := T.keep _ _ _ st2 fun b _ o e => by rw [h3]; exact Heap.get?_push_of_some _ e
  have I4 := block_start I3 ok hN f3
  have pg := hg s3 (upd H2 D (.lst [])) s3.heap.objs.size (cellsFrom (s3.heap.objs.size + 1) scope.names (cloFrom X.env.cells scope.names [])) fp
  have pt := ht s3 (upd H2 D (.lst [])) s3.heap.objs.size (cellsFrom (s3.heap.objs.size + 1) scope.names (cloFrom X.env.cells scope.names [])) fp
  have pe := he s3 (upd H2 D (.lst [])) s3.heap.objs.size (cellsFrom (s3.heap.objs.size + 1) scope.names (cloFrom X.env.cells scope.names [])) fp
  show codeAny _ _ (.compStart (.ListComp elt [⟨tg, iter, ifs, 0⟩] scope pos) 0 (.ref it) (.ref D) (compEnvC scope (cellsFrom (s3.heap.objs.size + 1) scope.names (cloFrom X.env.cells scope.names [])) s3.heap.objs.size X.env)) (compEnds (model X.prog X.w) X.A X.xe use Qf (.ref D) (compEnvC scope (cellsFrom (s3.heap.objs.size + 1) scope.names (cloFrom X.env.cells scope.names [])) s3.heap.objs.size X.env)) { s3 with heap := pushCells (s3.heap.push { cls := .type "dict", data := .dict #[] }) scope.names }
  have nfp : ∀ b ∈ fp, (upd H2 D (.lst [])) b = none := fun b hb => (f3 b hb).1.1
  have cFr : (compEnvC scope (cellsFrom (s3.heap.objs.size + 1) scope.names (cloFrom X.env.cells scope.names [])) s3.heap.objs.size X.env).frame = X.env.frame := rfl
  generalize hce : compEnvC scope (cellsFrom (s3.heap.objs.size + 1) scope.names (cloFrom X.env.cells scope.names [])) s3.heap.objs.size X.env = ce at I4 pg pt pe cFr ⊢
  have cL : ce.locals = s3.heap.objs.size := by subst hce; rfl
  generalize hH3 : upd H2 D (.lst []) = H3 at I3 I4 pg pt pe w0 nfp f3
  generalize hs4 : ({ s3 with heap := pushCells (s3.heap.push { cls := .type "dict", data := .dict #[] }) scope.names } : Shared) = s4 at I4 ⊢
  have st4 : tn 0 s4.heap := T.keep _ _ _ st3 fun b _ o e => by rw [← hs4]; exact pushCells_keeps _ _ _ _ (Heap.get?_push_of_some _ e)
  have stat : ∀ {σ' : St} {H' : Hp} {s' : Shared}, Inv (X.blk s3 H3 scope ce fp) [] σ' H' s' → (∀ b ∈ fp, H' b = none) → ∀ b ∈ fp, FpOk (X.blk s3 H3 scope ce fp) [] H' b := fun {σ' H' s'} I' hn b hb =>
    ⟨hn b hb, (I'.ok.exf b hb).1, I'.ok.exfs b hb, .inl hb, fun x c e => (I'.ok.exf b hb).2 x c e, fun p hp => absurd (show p ∈ ([] : List (Addr × Obj)) ++ [] from hp) (by simp)⟩
  -- the wish
  have hA : X.A.frames = some (X.env :: X.outer) := by rw [I.ok.frames, hst]
  generalize hxe : (notedBy (model X.prog X.w) X.A ce fun e s' => compEnds (model X.prog X.w) X.A X.xe use Qf (.ref D) ce (.error e) s') = xe
  have pass : Passes (L2.CX X.prog X.w) (X.blkX s3 H3 scope ce fp xe) Ech := by
    intro pins5 σ5 H5 s5 u s6 J5 c5
    obtain ⟨a, B, sI, H', cls, d, rfl, J6, nb, up, fl, na, os, ag, hE⟩ := XE.of_call2 J5 c5
    have J6 := J6.unwish
    rw [← hxe]
    have ee : (fun (_ : Unit) s' => compEnds (model X.prog X.w) X.A X.xe use Qf (.ref D) ce (.error (.ref a)) s') = fun _ s' => CompFails (model X.prog X.w) X.A X.xe ce (.ref a) s' := by
      funext _ s'
      cases use <;> rfl
    show wpAny _ X.A (noteFrame (.ref a) ce) (fun _ s' => compEnds (model X.prog X.w) X.A X.xe use Qf (.ref D) ce (.error (.ref a)) s') _ s6
    rw [ee]
    rw [noteFrame_env _ cFr]
    -- the ground without the block's names
    obtain ⟨B', b1, b2⟩ := restrict B fun b => decide (b ≠ ce.locals)
    have bC : B'.get? ce.locals = none := b2 _ (by simp)
    have bk : ∀ b o, B'.get? b = some o → B.get? b = some o := fun b o e => by
      by_cases q : b = ce.locals
      · rw [q, bC] at e; cases e
      · rw [← b1 b (decide_eq_true q)]; exact e
    have fl' : HandSPX.FlyingZ B' (X.env :: X.outer) a (Zc cls d) s6.heap := by
      have z := fl.sub bk
      rw [show (X.blkX s3 H3 scope ce fp xe).stack = X.stack from rfl, hst] at z
      exact z
    obtain ⟨m, hn, _⟩ := J6.loc
    have hn : sI.heap.Ns ce.locals m := hn
    refine HandSPX.looks_onZ Zc.steady hA hfr fl' fun h7 hh7 up7 => ?_
    have hn6 : s6.heap.Ns ce.locals m := hn.upToSlots up
    have hn7 : h7.Ns ce.locals m := hn6.upToSlots up7
    refine ⟨m, hn7, fun h8 m8 hn8 hs8 => ?_⟩
    have hh8 := hh7.sameBut bC hn7 hn8 hs8
    obtain ⟨k1, k2, k3, oe, vs, T0, oT, ts, ho, hz, hd, h1, hr⟩ := id hh8
    unfold PySem.passOn
    refine wpAny_bind (wpAny_field ho hd h1 ?_)
    rw [if_neg (show ¬ ((Value.ref T0 == Value.none) = true) from by simp)]
    rw [cFr, hfr]
    refine wpAny_bind (HandSPX.setFlight_onZ hh8 fun h9 hh9 up9 => wpAny_throw (tk _ _ ?_))
    -- the state without the exception and the block
    obtain ⟨G, g1, g2⟩ := restrict sI.heap fun b => decide (b ≠ ce.locals)
    have gk : ∀ b, b ≠ ce.locals → G.get? b = sI.heap.get? b := fun b hb => g1 b (decide_eq_true hb)
    have gC : G.get? ce.locals = none := g2 _ (by simp)
    have ne3 : ∀ b o, s3.heap.get? b = some o → b ≠ ce.locals := fun b o e => by rw [cL]; exact Nat.ne_of_lt (Heap.lt_size e)
    have HC : H' ce.locals = none := J6.free
    have IG : Inv X pins σ H' { sI with heap := G } := by
      have base := J6.base
      refine I3.call' (ch := fp) J6.os ⟨fun b o e n hb hx => ?_, fun b o e n hb hx => ?_, base.free, fun b o e hx => ?_, base.tups, base.frzs, base.tbls⟩ (fun b o e => (J6.hok b o e).stay (fun c v hc q => ?_) (fun _ q => q) fun _ _ q => q) J6.bare fun b hb => ⟨(f3 b hb).1.2.2.2.1, (f3 b hb).1.2.1, (f3 b hb).1.2.2.2.2.1, (f3 b hb).1.2.2.2.2.2⟩
      · exact (gk b (ne3 b o e)).trans (base.keep b o e n hb hx)
      · obtain ⟨sl, q⟩ := base.slot b o e n hb hx
        exact ⟨sl, (gk b (ne3 b o e)).trans q⟩
      · obtain ⟨o', q⟩ := base.there b o e hx
        exact ⟨o', (gk b (ne3 b o e)).trans q⟩
      · have hcc : c ≠ ce.locals := fun z => by
          rcases hc with hc | hc
          · rw [← hc, z, HC] at e; cases e
          · rw [z, HC] at hc; cases hc
        exact (gk c hcc).trans q
    have og : ∀ b o, G.get? b = some o → b ≠ ce.locals ∧ sI.heap.get? b = some o := fun b o e => by
      have hb : b ≠ ce.locals := fun z => by rw [z, gC] at e; cases e
      exact ⟨hb, (gk b hb).symm.trans e⟩
    refine ⟨a, B', { sI with heap := G }, pins, σ, H', cls, d, rfl, IG, fun b o e hb => ?_, fun b o e hnf => ?_, .inr (.inr (by rw [hst]; exact hh9)), na, os, ag, hE⟩
    · obtain ⟨hb', e'⟩ := og b o e
      exact (b1 b (decide_eq_true hb')).trans (nb b o e' hb)
    · obtain ⟨hb', e'⟩ := og b o e
      obtain ⟨sl1, e1⟩ := up b o e' hnf
      obtain ⟨sl2, e2⟩ := up7 b _ e1 hnf
      have e3 := (hs8.2 b hb').trans e2
      obtain ⟨sl4, e4⟩ := up9 b _ e3 hnf
      exact ⟨sl4, e4⟩
  have loop : codeAny (model X.prog X.w) X.A (.compLoop (.ListComp elt [⟨tg, iter, ifs, 0⟩] scope pos) 0 (.ref it) (.ref D) ce) (compEnds (model X.prog X.w) X.A X.xe use Qf (.ref D) ce) s4 := by
    refine compLoop_any (fun n s' => ∃ i H', Inv (X.blk s3 H3 scope ce fp) [] (wipe σ (own.map (·.2))) H' s' ∧ tn i s'.heap ∧ (∀ b ∈ fp, H' b = none) ∧ W i n H') ?_ m0 ⟨0, H3, I4, st4, nfp, w0⟩
    rintro n s5 ⟨i, H5, I5, st5, n5, w5⟩
    rw [hxe]
    rcases turn i n H5 w5 with ⟨stop, qq⟩ | ⟨go, Nx, hNx, step⟩
    · have td := T.done (X.blk s3 H3 scope ce fp) rfl rfl rfl hc i [] s5 _ H5 (fun _ _ => False) I5 (stat I5 n5) st5 stop
      refine thnF td fun r s6 ⟨hr, I6⟩ => ?_
      subst hr
      have I7 : Inv X pins σ H5 s6 := I3.call' (ch := fp) I6.os I6.base I6.hok I6.bare fun b hb => ⟨(f3 b hb).1.2.2.2.1, (f3 b hb).1.2.1, (f3 b hb).1.2.2.2.2.1, (f3 b hb).1.2.2.2.2.2⟩
      have nC : H5 s3.heap.objs.size = none := by
        have z : H5 ce.locals = none := I6.free
        rw [cL] at z
        exact z
      obtain ⟨m, hn, _⟩ := I6.loc
      have hn : s6.heap.Ns ce.locals m := hn
      exact hRR D ce s6 m H5 I7 qq hn (by rw [cL]; exact I3.fpOk (Nat.le_refl _) nC)
    · have ti := T.item (X.blk s3 H3 scope ce fp) rfl rfl rfl hc i [] s5 _ H5 (fun _ _ => False) I5 (stat I5 n5) st5 go
      refine thnF ti fun r s6 ⟨u, hr, h6⟩ => ?_
      subst hr
      refine thnF h6 fun _ s7 ⟨x, H7, I7, r7, y7, st7, n7⟩ => ?_
      have I7' := (I7.pinned (stat I7 n7) (T.obj _ _ st7)).wish xe
      refine thn ((pg xe).run _ s7 _ H7 x u _ I7' r7 (step x H7 y7)) fun _ s8 ⟨σ8, H8, I8, hw8, q8⟩ => ?_
      refine thn ((pt xe).run _ s8 σ8 H8 _ I8 q8) fun b s9 ⟨H9, I9, q9⟩ => ?_
      have fin : ∀ {s' : Shared} {H' : Hp}, Inv (X.blkX s3 H3 scope ce fp xe) ([] ++ pinsAt fp s7.heap) σ8 H' s' → Nx H' → ∃ m, m < n ∧ ∃ i H', Inv (X.blk s3 H3 scope ce fp) [] (wipe σ (own.map (·.2))) H' s' ∧ tn i s'.heap ∧ (∀ b ∈ fp, H' b = none) ∧ W i m H' := fun {s' H'} I' nx => by
        obtain ⟨m', hm, w'⟩ := hNx H' nx
        have I' := I'.unwish
        have pin' : ∀ b ∈ fp, ∀ o, s7.heap.get? b = some o → s'.heap.get? b = some o ∧ H' b = none := fun b hb o e =>
          let z := I'.pin (b, o) (List.mem_append_right _ (List.mem_append_right _ (mem_pinsAt hb e)))
          ⟨z.1, z.2.1⟩
        have hl : (wipe σ (own.map (·.2))).length = σ8.length := by rw [← hw8, wipe_length]
        refine ⟨m', hm, i + 1, H', (I'.unpinned (pins := [])).weak hl (fun j v e => ?_), T.keep _ _ _ st7 fun b hb o e => (pin' b hb o e).1, fun b hb => ?_, w'⟩
        · rw [← hw8] at e
          exact (wipe_some e).1
        · obtain ⟨o, e, _⟩ := T.obj _ _ st7 b hb
          exact (pin' b hb o e).2
      cases b with
      | false =>
        simp only [Bool.false_eq_true, if_false] at q9 ⊢
        exact fin I9 q9
      | true =>
        simp only [if_true] at q9 ⊢
        refine thn ((pe xe pass).run _ s9 σ8 H9 _ I9 q9) fun z s10 ⟨yv, H10, I10, r10, acc, hD10, hz10, nx⟩ => ?_
        exact app_ok (X := X.blkX s3 H3 scope ce fp xe) I10 hD10 hz10 r10 fun s11 I11 => fin I11 nx
  exact codeAny_compStart_list loop (T.self X.A 0 _ _ _ st4 loop)
/-- as a value -/
theorem pe_lcX {elt tg iter : Expr} {ifs : List Expr} {scope : Scope} {own : List (Str × Nat)} {pos : Pos} {wi : TI} {g : TG} {tt : TT} {te : TE} {Ech : XK}
    (hst : X.stack = X.env :: X.outer) (hfr : X.env.frame = some X.env.locals) (tk : Takes X (fun cls d _ H => Ech cls d H))
    (hc : X.calm = true) (hN : X.N.Nodup) (hi : PI X tg iter wi) (ok : BlkOk X.N X.env.scope scope own)
    (hg : ∀ (s : Shared) (H : Hp) (C : Addr) (cl : List (Str × Addr)) (fp : List Addr) (xe : Value → Shared → Prop), PG (X.blkX s H scope (compEnvC scope cl C X.env) fp xe) tg g)
    (ht : ∀ (s : Shared) (H : Hp) (C : Addr) (cl : List (Str × Addr)) (fp : List Addr) (xe : Value → Shared → Prop), PTs (X.blkX s H scope (compEnvC scope cl C X.env) fp xe) ifs tt)
    (he : ∀ (s : Shared) (H : Hp) (C : Addr) (cl : List (Str × Addr)) (fp : List Addr) (xe : Value → Shared → Prop), Passes (L2.CX X.prog X.w) (X.blkX s H scope (compEnvC scope cl C X.env) fp xe) Ech → PE (X.blkX s H scope (compEnvC scope cl C X.env) fp xe) elt te)
    (hs : ∀ x, foldedSetIterable iter X.env x = pure x := by intro _; rfl) :
    PE X (.ListComp elt [⟨tg, iter, ifs, 0⟩] scope pos) (tLc wi g tt te (own.map (·.2))) := by
  refine ⟨fun pins s σ H Q I h => ?_⟩
  rw [eval_ListComp]
  refine lc_coreX (use := none) hst hfr tk hc hN I hi ok hg ht he hs h fun D C s' m H' I' q hn f => ⟨m, hn, fun h'' sb => ?_⟩
  obtain ⟨f0, f1, f2, f3, f4, f5⟩ := f
  exact ⟨.ref D, H', I'.turned (t' := s'.toks) (fun b o hb e => (sb.2 b hb).trans e) f0 f1 f3 f4 f5, rfl, q⟩
/-- name = [..] on one line, the name a local -/
theorem ps_setLcX {i : Nat} {y : Str} {py : Pos} {elt tg iter : Expr} {ifs : List Expr} {scope : Scope} {own : List (Str × Nat)} {pos spos : Pos} {wi : TI} {g : TG} {tt : TT} {te : TE} {Ech : XK}
    (hst : X.stack = X.env :: X.outer) (hfr : X.env.frame = some X.env.locals) (tk : Takes X (fun cls d _ H => Ech cls d H))
    (hc : X.calm = true) (hN : X.N.Nodup) (hy : X.N[i]? = some y) (hyl : X.env.scope.names.lookup y = some .local)
    (hsw : swapsWith (.ListComp elt [⟨tg, iter, ifs, 0⟩] scope pos) (some (.Name y py)) spos.line X.env = pure true) (hi : PI X tg iter wi) (ok : BlkOk X.N X.env.scope scope own)
    (hg : ∀ (s : Shared) (H : Hp) (C : Addr) (cl : List (Str × Addr)) (fp : List Addr) (xe : Value → Shared → Prop), PG (X.blkX s H scope (compEnvC scope cl C X.env) fp xe) tg g)
    (ht : ∀ (s : Shared) (H : Hp) (C : Addr) (cl : List (Str × Addr)) (fp : List Addr) (xe : Value → Shared → Prop), PTs (X.blkX s H scope (compEnvC scope cl C X.env) fp xe) ifs tt)
    (he : ∀ (s : Shared) (H : Hp) (C : Addr) (cl : List (Str × Addr)) (fp : List Addr) (xe : Value → Shared → Prop), Passes (L2.CX X.prog X.w) (X.blkX s H scope (compEnvC scope cl C X.env) fp xe) Ech → PE (X.blkX s H scope (compEnvC scope cl C X.env) fp xe) elt te)
    (hs : ∀ x, foldedSetIterable iter X.env x = pure x := by intro _; rfl) :
    PS X (.Assign [.Name y py] (.ListComp elt [⟨tg, iter, ifs, 0⟩] scope pos) spos) (tAsg (tLc wi g tt te (own.map (·.2))) (gName i)) := by
  refine ⟨fun pins s σ H D I h => ?_⟩
  rw [exec_Assign_Name_used _ _ _ _ hsw]
  refine wpAny_bind (wpAny_standAt (wpAny_bind ?_))
  show wpAny _ X.A (do let _ ← comprehension (.ListComp elt [⟨tg, iter, ifs, 0⟩] scope pos) scope X.env (firstIterPos [⟨tg, iter, ifs, 0⟩] pos) (newList []) false (eval iter X.env) (some (assign (.Name y py) X.env))) _ _ s
  have h : tLc wi g tt te (own.map (·.2)) σ H (fun x H1 => gName i x σ H1 D.nx) := h
  refine wpAny_bind (thn (lc_coreX (Qf := fun _ s' => SP X pins D .next s') hst hfr tk hc hN I hi ok hg ht he hs h fun L C s' m H' I' q hn f => ?_) fun _ s' hq => wpAny_pure (wpAny_pure hq))
  show wpAny _ _ (assign (.Name y py) X.env (.ref L)) _ _ _
  refine wpAny_assign_Name (store_ok2 (v := V.ref L) I' hN hy (.inl hyl) rfl (fun s2 I2 ⟨a, sb, ha⟩ => ?_) (.inr hyl))
  obtain ⟨f0, f1, f2, f3, f4, f5⟩ := f
  have haC : C.locals ≠ a := by
    rcases ha with z | z
    · rw [z]; exact f1
    · exact fun e => f4 y a z e.symm
  refine ⟨m, hn.sameBut sb haC, fun h3 sb3 => ?_⟩
  exact ⟨_, H', I2.turned (t' := s2.toks) (fun b o hb e => (sb3.2 b hb).trans e) f0 f1 f3 f4 f5, q⟩
end
end L2
set_option Elab.async false
set_option linter.all false
set_option maxRecDepth 100000
set_option maxHeartbeats 4000000
/-! An own exception's __init__ that calls its own base's __init__; such a class called without arguments. -/
namespace L2
open PySem PySem.Spec PyProof.Rows
section
variable {X : Cx} {e : Expr} {es : List Expr} {ta : TA} {p p1 p2 pos : Pos}
/-- B.__init__(self, ..), B an own class whose __init__ is ValueError's -/
theorem pe_weinit {x : Str} {CW : Addr} {mc : Value} (hg : Gl X x) (hm : X.mg x = some (.ref CW)) (rd : ClX.CRead X.K CW mc) (at_ : PySem.W.findCls X.K (.ref CW) mc "__init__" = some (.val (.builtin "ValueError.__init__"))) (ha : PA X (e :: es) ta)
    {pl : Sem Bool}
    (hc : eval (.Call (.Attribute (.Name x p1) "__init__" p2) (e :: es) [] pos) X.env = (do
      let ov ← eval (.Name x p1) X.env
      standAt p2.atName
      let (f, first) ← holding [ov] (getMethod ov "__init__" pl)
      callWith pos f first (backTo pos (starEach (e :: es) X.env)) (backToKw pos (keywordEach [] X.env))) := by rfl)
    (he : starEach (e :: es) X.env = (false, eval e X.env) :: starEach es X.env := by rfl) (hpl : (backTo pos (starEach es X.env)).any (·.1) = false := by rfl) (hdb : (x == ("__debug__" : Str)) = false := by decide) :
    PE X (.Call (.Attribute (.Name x p1) "__init__" p2) (e :: es) [] pos) (tVeI X.K ta) := by
  refine ⟨fun pins s σ H Q I h => ?_⟩
  refine PySem.W.methodCall_KW (ld_glob I hg hm ?_ hdb) hc
  refine PySem.W.method_cls I.kIn rd.ga (PySem.W.cls_value I.kIn rd.rd at_ (by decide +kernel) ?_)
  show wpAny _ _ (callWith pos (Value.builtin "ValueError.__init__") [] (backTo pos (starEach (e :: es) X.env)) []) _ _ _
  refine PyProof.Rows.callWith_method1 (thn (ha.run pos pins _ σ H _ (I.tok _) h) fun us s1 ⟨vs, H1, I1, r1, a, C, ws, ev, hl, T, ea, q⟩ => ?_) he hpl
  subst ev
  cases r1 with
  | @cons _ u0 _ ur ra rw' =>
    obtain rfl : u0 = Value.ref a := ra
    have hlen : ur.length ≤ sizeLine := by
      rw [← Paired.length rw', sizeLine_eq]
      omega
    exact oinit_ok T I1 ea hlen fun s' J => ⟨.non, H1, J, rfl, q⟩
/-- C() -/
theorem pmk_oex0 {CX : CXT} {x : Str} {C fI : Addr} {k : Nat} {fd : FuncData} {ps : List Str} {sp : Sp} {ds : List Value} {dvs : List V} (T : OexC X.K C) (iC : PySem.W.findIn X.K (.ref C) "__init__" = some (some (.ref fI))) (tI : PySem.W.typeIn X.K (.ref fI) = some (.type "function"))
    (F1 : FnOk X.prog X.w X.K X.mg X.base CX k fI fd ps sp) (hr : Room (k + 1) X.A) (hb : Binds X.K fd ps ds) (hd : Vals dvs ds) (hx : Passes CX X (fun _ _ _ => False)) (hg : Gl X x) (hm : X.mg x = some (.ref C))
    (hdb : (x == ("__debug__" : Str)) = false := by decide) :
    PMk X (.Call (.Name x p) [] [] pos) (tMkO C sp dvs tNil) := by
  intro pins s σ H Q I h
  obtain ⟨nm, q, N, bs, bm, sn, sub, ab, col, dd, k0, k1, k2, k3, k5, hC, hbm⟩ := T.cls
  refine wpAny_Call_Name_kw (ld_glob I hg hm ?_ hdb)
  refine PySem.W.callWith_K0 I.kIn T.kC ?_
  show wpAny _ _ (call (.ref C) []) _ _ _
  obtain ⟨hz, q1⟩ := h
  have I1 := I
  have r1 : Vals ([] : List V) ([] : List Value) := .nil
  obtain ⟨hp, g, dr, tk, os⟩ := s
  have hsz : hp.objs.size ≤ hp.objs.size + 1 := Nat.le_succ _
  have hn : H (hp.objs.size + 1) = none := I1.hok.fresh hsz
  have hq := q1 (hp.objs.size + 1) hn
  have kk : ∀ b o, hp.get? b = some o → ((hp.push (PySem.W.kdv_tup [])).push (PySem.HandSPX.excO C hp.objs.size)).get? b = some o := fun b o e => Heap.get?_push_of_some _ (Heap.get?_push_of_some _ e)
  have hget : ((hp.push (PySem.W.kdv_tup [])).push (PySem.HandSPX.excO C hp.objs.size)).get? (hp.objs.size + 1) = some (PySem.HandSPX.excO C hp.objs.size) := by heap_get
  have I2 : Inv X pins σ (upd H (hp.objs.size + 1) (exo (hp.objs.size + 1) C none)) ⟨(hp.push (PySem.W.kdv_tup [])).push (PySem.HandSPX.excO C hp.objs.size), g, dr, tk, os⟩ :=
    I1.laid (t' := tk) (a := hp.objs.size + 1) (o := exo (hp.objs.size + 1) C none) (h' := (hp.push (PySem.W.kdv_tup [])).push (PySem.HandSPX.excO C hp.objs.size)) kk hsz (exo_ok hget)
  have r2 : Vals (V.ref (hp.objs.size + 1) :: ([] ++ dvs)) (Value.ref (hp.objs.size + 1) :: ([] ++ ds)) := .cons rfl (r1.append hd)
  have hl : (Value.ref (hp.objs.size + 1) :: [] ++ ds).length = ps.length := by
    have e := r2.length
    rw [F1.len _ _ _ _ hq] at e
    exact e.symm
  refine wpAny_call (PySem.HandSPX.call_own F.excBase_ValueError (fun Y => PySem.HandSPX.refsVE_contains Y bm hbm) (I1.kIn _ _ hC) (PySem.W.looks_findIn I1.kIn iC) (fun self => PySem.W.bind_fn I1.kIn self tI) (Nat.zero_le _)
    (codeAny_mono (F1.run _ X.stack _ _ ⟨Value.ref (hp.objs.size + 1) :: [], []⟩ (Value.ref (hp.objs.size + 1) :: ([] ++ ds)) _ _ (fun _ _ _ => False) (hr.make C [] []) (I2.env0.make C [] []) (by have z := hb _ (Value.ref (hp.objs.size + 1) :: []) I2.kIn hl; simp only [List.nil_append, List.cons_append] at z ⊢; exact z) r2 hq) fun r s' hq' => ?_))
  cases r with
  | error er => exact hx pins σ _ _ er s' I2 hq'
  | ok fl =>
    cases fl with
    | ret u =>
      obtain ⟨v, H2, os2, bare2, un2, hok2, rv, ev, d, fs, ea, ed, hd1, q2⟩ := hq'
      subst ev
      obtain ⟨h2, g2, d2, t2, os'⟩ := s'
      exact ⟨rv, mk_end (raises_own T.exC T.tyC) I1 hsz kk un2 hok2 os2 bare2 ea ed hd1 q2⟩
    | next => exact False.elim hq'
    | brk => exact False.elim hq'
    | cont => exact False.elim hq'
end
/-- __init__(self, at): Wrong.__init__(self, ..); self.at = at -/
def spExcInit (f : Str) (C : Addr) : Sp := fun vs H Q _ => ∃ (a : Addr) (v : V), vs = [.ref a, v] ∧ H a = some (exo a C none) ∧ ∀ d, H d = none → d ≠ a → Q .non (upd (upd H d (exd d [(f, v)])) a (exo a C (some d)))
/-- behind C(v): the error's own dict d, new, holds the field -/
theorem exc_post {f : Str} {C : Addr} {H1 : Hp} {v : V} {vs dvs : List V} {Q : XK} (hv : vs ++ dvs = [v]) (h : ∀ d, H1 d = none → Q (.ref C) (some d) (upd H1 d (.xd [(f, v)]))) :
    vs.length ≤ 1000 ∧ ∀ a, H1 a = none → spExcInit f C (.ref a :: (vs ++ dvs)) (upd H1 a (exo a C none))
      (fun v H2 => v = .non ∧ ∃ (d : Addr) (fs : List (Str × V)), H2 a = some (exo a C (some d)) ∧ H2 d = some (exd d fs) ∧ H1 d = none ∧ Q (.ref C) (some d) (upd (del H2 a) d (.xd fs))) (fun _ _ _ => False) := by
  refine ⟨?_, fun a na => ⟨a, v, by rw [hv], upd_same, fun d nd hda => ⟨rfl, d, [(f, v)], upd_same, by rw [upd_ne hda, upd_same], ?_, ?_⟩⟩⟩
  · have e := congrArg List.length hv
    rw [List.length_append] at e
    have e' : vs.length + dvs.length = 1 := e
    omega
  · rw [upd_ne hda] at nd
    exact nd
  · have nd' : H1 d = none := by
      rw [upd_ne hda] at nd
      exact nd
    have e : upd (del (upd (upd (upd H1 a (exo a C none)) d (exd d [(f, v)])) a (exo a C (some d))) a) d (.xd [(f, v)]) = upd H1 d (.xd [(f, v)]) := by
      funext b
      by_cases hb : b = d
      · rw [hb, upd_same, upd_same]
      · rw [upd_ne hb, upd_ne hb]
        by_cases ha : b = a
        · rw [ha, del_same, na]
        · rw [del_ne ha, upd_ne ha, upd_ne hb, upd_ne ha]
    rw [e]
    exact h d nd'
end L2
set_option Elab.async false
set_option linter.all false
set_option maxRecDepth 100000
set_option maxHeartbeats 4000000
/-! try .. except (A, B, ..) as n: .. except ..; a def called in the suite with the caught error; isinstance of it; list.count. -/
namespace PySem
namespace HandSPX
theorem FlyingZ.keeps {B h h' : Heap} {l : List Env} {e : Addr} {Z : Obj → Prop} (x : FlyingZ B l e Z h) (k : ∀ b o, h.get? b = some o → h'.get? b = some o) : FlyingZ B l e Z h' := by
  obtain ⟨f1, f2, f3, oe, ws, T, oT, ts, he, hz, hd, h1, hn, hne, hT, hdT, h3⟩ := x
  exact ⟨fun b o q => k b o (f1 b o q), f2, f3.of_keeps fun b o q _ => ⟨o, k b o q, rfl⟩, oe, ws, T, oT, ts, k _ _ he, hz, hd, h1, hn, hne, k _ _ hT, hdT, h3⟩
end HandSPX
namespace W
open PySem PySem.Spec PySem.Calls PyProof.Rows
section
variable {M : Model} {K : Frag}
/-- the first of five classes matches -/
theorem exm_tup5 {c1 c2 c3 c4 c5 cls : Value} {tp e : Addr} {h : Heap} (X : K.In h) (LT : Looks M h (typeOf (.ref e)) cls) (hp : h.get? tp = some { cls := .type "tuple", data := .seq [c1, c2, c3, c4, c5].toArray })
    (x1 : exmOne K cls c1 = some true) (x2 : exmOne K cls c2 = some false) (x3 : exmOne K cls c3 = some false) (x4 : exmOne K cls c4 = some false) (x5 : exmOne K cls c5 = some false) :
    Looks M h (excMatches (.ref e) (.ref tp)) true := by
  intro A Q E s k₀ q
  obtain ⟨hh, g, d, tk, os⟩ := s
  have k : ∀ b o, h.get? b = some o → hh.get? b = some o := k₀
  have LT0 : Looks M h (isInstance (.ref tp) (.type "tuple")) true := ((Looks.ld hp).andThen .now).andThen (Looks.of_pure isSubtype_tuple_tuple)
  obtain ⟨e1, S1⟩ := exm_cls (M := M) X x1
  have e1 := e1.keeps k
  have S1 := S1.keeps k
  obtain ⟨e2, S2⟩ := exm_cls (M := M) X x2
  have e2 := e2.keeps k
  have S2 := S2.keeps k
  obtain ⟨e3, S3⟩ := exm_cls (M := M) X x3
  have e3 := e3.keeps k
  have S3 := S3.keeps k
  obtain ⟨e4, S4⟩ := exm_cls (M := M) X x4
  have e4 := e4.keeps k
  have S4 := S4.keeps k
  obtain ⟨e5, S5⟩ := exm_cls (M := M) X x5
  have e5 := e5.keeps k
  have S5 := S5.keeps k
  have LT := LT.keeps k
  have LT0 := LT0.keeps k
  have hp' := k _ _ hp
  unfold excMatches
  refine wpAny_bind (LT0.at ?_)
  dsimp only
  rw [if_pos rfl]
  first
    | refine wpAny_bind (wpAny_seqItems hp' rfl ?_)
    | refine wpAny_bind (wpAny_bind (wpAny_seqItems hp' rfl (wpAny_pure ?_)))
  dsimp only [Option.getD_some, Option.getD]
  (repeat (first | simp only [List.forIn_cons, List.forIn_nil, Bool.not_true, Bool.false_eq_true, if_false, if_true] | lk)); exact q
variable {prog : Program} {w : World} {A : Around} {E : Value → Shared → Prop} {s : Shared} {x D : Addr} {ox : Obj} {od : Option Obj}
theorem findObj_dataO {C : Addr} {name : Str} {a g : Value} (hc : (clsIn K C).isSome = true) (ha : findIn K (.ref C) name = some (some a)) (hg : specialIn K a "__get__" = some (some g)) (ht : takesIn K a = some true) : findObj K C od name = some (.bind g a) := by
  obtain ⟨cd, hc⟩ := Option.isSome_iff_exists.mp hc
  unfold findObj
  rw [hc, Option.bind_some, ha, Option.bind_some]
  simp [hg, ht]
theorem kin_classO {Q : Option Value → Shared → Prop} (hga : findIn K (.ref D) "__getattribute__" = some (some (.builtin "BaseException.__getattribute__"))) (hgt : findIn K (.ref D) "__getattr__" = some none) (hsub : subIn K (.ref D) (.type "BaseException") = some true)
    (hdct : hasDictIn K D = true) (ha : findIn K (.ref D) "__class__" = some (some (.builtin "object.__class__")))
    (hn : specialIn K (.builtin "object.__class__") "__get__" = some (some (.builtin "getset_descriptor.__get__"))) (htk : takesIn K (.builtin "object.__class__") = some true) (hm : mroIn K D (.type "object") = some true)
    (X : K.In s.heap) (I : InstAt s.heap x ox D od) (h : Q (some (.ref D)) { s with toks := s.toks + 1 }) : wpAny (model prog w) A (getAttr? (.ref x) "__class__") Q E s := by
  have hf : findObj K D od "__class__" = some (.bind (.builtin "getset_descriptor.__get__") (.builtin "object.__class__")) := findObj_dataO (by obtain ⟨cd, hc, _⟩ := any_some hdct; rw [hc]; rfl) ha hn htk
  obtain ⟨hp, g, d, t, os⟩ := s
  have L0 := I.type (M := model prog w)
  have L1 := looks_findIn (M := model prog w) X hga
  have L2 := looks_findIn (M := model prog w) X hgt
  have L3 := looks_find (M := model prog w) X I hf
  have sub : Looks (model prog w) hp (isInstance (.ref x) (.type "BaseException")) true := L0.andThen (looks_subIn X hsub)
  have hx0 : (false && onTheHeap (Value.builtin "BaseException.__getattribute__")) = false := rfl
  have hx2 : (Value.builtin "BaseException.__getattribute__" == Value.builtin "object.__getattribute__") = false := by decide +kernel
  have hx1 : (onTheHeap (Value.ref D) && Value.builtin "BaseException.__getattribute__" == Value.builtin "object.__getattribute__") = false := by rw [hx2]; rfl
  unfold getAttr? getAttrBy? getAttrBy
  refine wpAny_bind (wpAny_mkText (wpAny_bind (wpAny_attempt (wpAny_holding (wpAny_bind (L0.at (wpAny_bind (L1.at ?_))))))))
  show wpAny _ _ (if (onTheHeap (Value.ref D) && Value.builtin "BaseException.__getattribute__" == Value.builtin "object.__getattribute__") = true then _ else _) _ _ _
  rw [hx1, if_neg Bool.false_ne_true]
  unfold getAttrByItsOwn hookBefore
  refine wpAny_bind ?_
  rw [if_pos (show onTheHeap (Value.ref D) = true from rfl)]
  refine L2.at ?_
  refine wpAny_bind (wpAny_attempt (wpAny_holding ?_))
  unfold callGetattribute
  rw [hx0, if_neg Bool.false_ne_true]
  unfold boundAndCalled
  rw [PySem.F.excAttr_ValueError.ga.bind (.ref x)]
  refine wpAny_bind (wpAny_pure ?_)
  show wpAny _ _ (call (.builtin "BaseException.__getattribute__") [.ref x, .str "__class__" t]) _ _ _
  refine wpAny_call (codeAny_call_builtin PySem.F.excAttr_ValueError.ga.plain PySem.F.entry_bexc_ga ?_)
  refine @check_slot (model prog w) _ _ ⟨hp, g, d, t + 1, os⟩ "BaseException.__getattribute__" "BaseException" "__getattribute__" (.ref x) [.str "__class__" t] [] _ (by decide +kernel) (by decide +kernel) sub (PySem.F.args_bexc_ga (.ref x) (.str "__class__" t)) ?_
  unfold Builtin.«object.__getattribute__»
  refine wpAny_bind (wpAny_of_eq (a := ((Value.ref x : Value), [Value.str "__class__" t])) (by first | rfl | (simp only [slotArgs]; rfl)) ?_)
  refine wpAny_bind (wpAny_pure (wpAny_bind (L0.at (wpAny_bind (L3.at ?_)))))
  show wpAny _ _ (holding [Value.builtin "object.__class__"] (call (.builtin "getset_descriptor.__get__") [.builtin "object.__class__", .ref x, .ref D]) >>= ret) _ _ _
  refine wpAny_bind (wpAny_holding (wpAny_call (class_get (s := ⟨hp, g, d, t + 1, os⟩) (ox := ox) (od := od) X I hm ?_)))
  refine wpAny_pure ?_
  show wpAny _ _ (handedOut (.ref D)) _ _ _
  rw [handedOut_of (v := .ref D) rfl]
  first
    | exact wpAny_pure (wpAny_pure h)
    | exact wpAny_pure h
    | exact wpAny_pure (wpAny_bind (wpAny_pure (wpAny_pure h)))
theorem kitx_excO (hga : findIn K (.ref D) "__getattribute__" = some (some (.builtin "BaseException.__getattribute__"))) (hgt : findIn K (.ref D) "__getattr__" = some none) (hsub : subIn K (.ref D) (.type "BaseException") = some true) (hdct : hasDictIn K D = true) (ha : findIn K (.ref D) "__class__" = some (some (.builtin "object.__class__")))
    (hn : specialIn K (.builtin "object.__class__") "__get__" = some (some (.builtin "getset_descriptor.__get__"))) (htk : takesIn K (.builtin "object.__class__") = some true) (hm : mroIn K D (.type "object") = some true) :
    KitX K (.ref x) (.ref D) (fun h => ∃ od, InstAt h x ox D od) where
  ty := fun _ _ _ ⟨_, I⟩ => I.type
  it := fun _ _ X _ => by
    obtain ⟨cdD, hcD, _⟩ := any_some hdct
    unfold clsIn at hcD
    split at hcD
    · rename_i c' d' cd' sl' ho
      intro A' Q' E' s' k q
      unfold isType loadHead
      exact wpAny_bind (wpAny_loadPart (k _ _ (X _ _ ho)) (wpAny_pure q))
    · cases hcD
  ne := fun h tp dd its n sl X htp => by
    obtain ⟨cdD, hcD, _⟩ := any_some hdct
    refine Bool.eq_false_iff.mpr fun q => ?_
    have e : D = tp := Value.ref.inj (beq_iff_eq.mp q)
    subst e
    unfold clsIn at hcD
    split at hcD
    · rename_i c' d' cd' sl' ho
      have z := (X _ _ ho).symm.trans htp
      cases z
    · cases hcD
  ca := fun X ⟨_, I⟩ k => kin_classO hga hgt hsub hdct ha hn htk hm X I k
end
end W
end PySem
namespace L2
open PySem PySem.Spec PyProof.Rows
/-! ### list.count of flat items -/
section
variable {X : Cx}
def rCntF (K : PySem.W.Frag) : V → List V → Hp → VK → Prop := fun x xs H Q => ∃ (p : Addr) (ys : List V) (y : V), x = .ref p ∧ xs = [y] ∧ SqL K H p ys ∧ flatV y = true ∧ ys.all flatV = true ∧ Q (.int ((ys.countP fun z => eqV z y : Nat) : Int)) H
theorem countP_eqU {y : V} : ∀ {ys : List V} {us : List Value}, Vals ys us → ys.all flatV = true → us.countP (eqU y) = ys.countP fun z => eqV z y
  | _, _, .nil, _ => rfl
  | z :: zs, u :: us, .cons r t, f => by
    rw [List.all_cons, Bool.and_eq_true] at f
    rw [List.countP_cons, List.countP_cons, countP_eqU t f.2, eqU_of r f.1]
theorem mt_lcountF : MtR X "list.count" (rCntF X.K) := by
  intro pins s σ H x xs v us Q I rx rxs h
  obtain ⟨p, ys, y, rfl, rfl, hs, fy, fys, q⟩ := h
  cases rx
  obtain ⟨u, rfl, ru⟩ := rxs.one
  obtain ⟨its, rv, ⟨⟨cls, dd, data, sl⟩, n, ho, hc, hdn, hd⟩, hlen⟩ := I.list hs
  simp only at hc hd
  subst hc hd
  refine call_meets PySem.F.slot_list_count ⟨_, ho, rfl⟩ PySem.F.entry_list_count (PySem.F.args_list_count_2 _ _)
    (SeqAt.list_countAt p its.toArray n dd sl u (eqU y)) ⟨ho, fun z hz => mem_eqAt ru fy rv fys z (by simpa using hz), ?_⟩
  have ec : its.toArray.toList.countP (eqU y) = ys.countP fun z => eqV z y := countP_eqU rv fys
  refine ⟨.int _, H, I.tok _, ⟨s.toks, ?_⟩, q⟩
  show Value.int ((its.toArray.toList.countP (eqU y) : Nat) : Int) s.toks = Value.int _ s.toks
  rw [ec]
end
/-! ### the caught error, known by a pin -/
/-- isinstance(e, c), e the error that p pins: of the class D, its own dict at dd -/
def rIsP (K : PySem.W.Frag) (D a dd : Addr) : List V → Hp → VK → Prop := fun xs H Q => ∃ (c : V) (cv : Value) (b : Bool) (fs : List (Str × V)), xs = [.ref a, c] ∧ (∀ u, RelV c u → u = cv) ∧ H dd = some (.xd fs) ∧ PySem.W.kitOne K (.ref D) cv = some b ∧ Q (.bl b) H
def rIsPT (K : PySem.W.Frag) (D a dd : Addr) : List V → Hp → VK → Prop := fun xs H Q => ∃ (tp : Addr) (cs : List V) (us : List Value) (b : Bool) (fs : List (Str × V)), xs = [.ref a, .ref tp] ∧ H tp = some (.tup cs) ∧ Paired ClsV cs us ∧ H dd = some (.xd fs) ∧ PySem.W.kitAny K (.ref D) us = some b ∧ Q (.bl b) H
section
variable {X : Cx} {p : Addr × Obj} {D dd : Addr}
theorem pin_inst {pins : List (Addr × Obj)} {σ : St} {H : Hp} {s : Shared} {fs : List (Str × V)} (I : Inv X pins σ H s) (hp : p ∈ X.pn) (hz : Zc (.ref D) (some dd) p.2) (hf : ∃ vs, p.2.data = .fields vs) (hd : H dd = some (.xd fs)) : ∃ od, PySem.W.InstAt s.heap p.1 p.2 D od := by
  obtain ⟨hget, _⟩ := I.pin p (List.mem_append_left _ hp)
  obtain ⟨vs, hv⟩ := hf
  have hx : ObjOk X.prog X.w H s.heap dd (.xd fs) := I.hok dd _ hd
  obtain ⟨mA, hns, _⟩ := hx
  obtain ⟨od, ho, _⟩ := lookIn_ns hns
  exact ⟨some od, hget, hz.1, by unfold PySem.W.notCls; rw [hv] <;> rfl, by rw [hz.2]; exact ho⟩
theorem call_isP (hp : p ∈ X.pn) (C : ExcC X.K D) (hz : Zc (.ref D) (some dd) p.2) (hf : ∃ vs, p.2.data = .fields vs) : CallR X (.builtin "isinstance") (rIsP X.K D p.1 dd) := by
  intro pins s σ H xs us Q I r h
  obtain ⟨c, cv, b, fs, rfl, hcv, hd, e, q⟩ := h
  obtain ⟨u1, u2, rfl, r1, r2⟩ := vals2 r
  cases (show u1 = Value.ref p.1 from r1)
  have ec := hcv _ r2
  subst ec
  exact PySem.W.kia_one (PySem.W.kitx_excO C.hg C.hk C.hs C.hd C.ha C.hn C.ht C.hm) I.kIn (pin_inst I hp hz hf hd) e (fun z => nomatch z) fun tk => ⟨.bl b, H, I.kept (t' := tk) fun _ _ z => z, rfl, q⟩
theorem call_isPT (hp : p ∈ X.pn) (C : ExcC X.K D) (hz : Zc (.ref D) (some dd) p.2) (hf : ∃ vs, p.2.data = .fields vs) : CallR X (.builtin "isinstance") (rIsPT X.K D p.1 dd) := by
  intro pins s σ H xs us Q I r h
  obtain ⟨tp, cs, ws, b, fs, rfl, hT, k, hd, e, q⟩ := h
  obtain ⟨u1, u2, rfl, r1, r2⟩ := vals2 r
  cases (show u1 = Value.ref p.1 from r1)
  cases (show u2 = Value.ref tp from r2)
  obtain ⟨_, its, rv, o, h1, h2, n, h3⟩ := (show ObjOk X.prog X.w H s.heap tp (.tup cs) from I.hok tp _ hT)
  have e3 := ClsV.all k rv
  subst e3
  obtain ⟨oc, od, dt, sl⟩ := o
  simp only at h2 h3
  subst h2 h3
  exact PySem.W.kia_tup (PySem.W.kitx_excO C.hg C.hk C.hs C.hd C.ha C.hn C.ht C.hm) I.kIn (pin_inst I hp hz hf hd) h1 e (fun z => nomatch z) fun tk => ⟨.bl b, H, I.kept (t' := tk) fun _ _ z => z, rfl, q⟩
end
/-! ### a def called in an except suite with the caught error -/
open L2H in
/-- told of the error that is handed in: of the class D, its own dict at dd -/
structure FnE (P : Program) (w : World) (K : PySem.W.Frag) (mg : Str → Option Value) (base : Heap) (k : Nat) (f : Addr) (fd : FuncData) (ps : List Str) (D : Addr) (sp : Addr → Addr → Sp) : Prop where
  len : ∀ a dd vs H Q E, sp a dd vs H Q E → vs.length = ps.length
  run : ∀ (A : Around) (outer : List Env) (s : Shared) (H : Hp) (args : Args) (us : List Value) (vs : List V) (Q : VK) (E : XK) (p : Addr × Obj) (dd : Addr), L2H.RoomH k A → Zc (.ref D) (some dd) p.2 → (∃ vs, p.2.data = .fields vs) → L2H.PinOk outer H s p → Env0 P w K mg base A outer s H → BindsTo s fd args (ps.zip us) → Vals vs us → sp p.1 dd vs H Q E →
    codeAny (model P w) A (.call (.ref f) args) (CR CX0 outer P w H s Q E) s
open L2H in
theorem fn_ofE {P : Program} {w : World} {K : PySem.W.Frag} {mg : Str → Option Value} {base : Heap} {k : Nat} {f : Addr} {name qual : Str} {params : Arguments} {body : List Stmt} {scope : Scope} {dV kV doc pm cdv ct oc : Value} {an od : Option Addr}
    {osl : Array (Option Value)} {N ps : List Str} {D : Addr} {sp : Addr → Addr → Sp} (lk : K.lookup f = some ⟨oc, od, .func (PySem.W.fnOf name qual params body scope dV kV doc pm an cdv ct), osl⟩) (hcd : PySem.W.codeIn K cdv qual = true) (S : FnScope N ps scope)
    (len : ∀ a dd vs H Q E, sp a dd vs H Q E → vs.length = ps.length)
    (hbody : ∀ (A : Around) (outer : List Env) (s : Shared) (H : Hp) (vs : List V) (Q : VK) (E : XK) (p : Addr × Obj) (dd : Addr), Zc (.ref D) (some dd) p.2 → (∃ vs, p.2.data = .fields vs) → L2H.RoomH k (A.deeper (envOfC qual scope s.heap.objs.size f cdv)) → sp p.1 dd vs H Q E →
      ∃ t, PSs (L2H.cxH CX0 P w K mg base N qual scope f cdv A outer s H E p).nox body t ∧ t { nx := fun _ H' => Q .non H', rt := Q } (L2.start N vs) H) :
    FnE P w K mg base (k + 1) f (PySem.W.fnOf name qual params body scope dV kV doc pm an cdv ct) ps D sp := by
  refine ⟨len, fun A outer s H args us vs Q E p dd hr hz hf hpin e0 hb r hsp => ?_⟩
  have hl := len _ _ _ _ _ _ hsp
  have KX : K.In s.heap := e0.mod.kin.keeps fun b o e => (e0.bs b o e).1
  have lim : s.heap.NoLimit := e0.mod.nolimit.keeps fun b o e => (e0.bs b o e).1
  have hkind : ∀ y ∈ ps.zip us, scope.names.lookup y.1 = some .local ∨ (scope.names.lookup y.1 = some .cell ∧ ((cellsFrom (s.heap.objs.size + 1) scope.names []).lookup y.1).isSome = true) := fun ⟨n, v⟩ hy => by
    rcases S.par n (List.of_mem_zip hy).1 with q | q
    · exact .inl q
    · exact .inr ⟨q, PySem.W.cellsFrom_some _ _ _ (.inl q)⟩
  refine codeAny_call_function hr.depth (KX _ _ lk) rfl S.co S.gen rfl (PySem.W.codeRec_of KX hcd) (hb _ _ _ _ ?_)
  refine wpAny_newFunctionEnv_cells S.kind hkind fun env he s1 x => ?_
  subst he
  refine ⟨lim.keeps x.toInCall.keep, codeAny_func ?_⟩
  obtain ⟨t, ht, hq⟩ := hbody A outer s H vs Q E p dd hz hf (hr.deeper _) hsp
  have ht := ht.nox
  have I : Inv (L2H.cxH CX0 P w K mg base N qual scope f cdv A outer s H E p) [] (L2.start N vs) H s1 := L2H.inv_startH S hpin e0 hl r x
  refine wpAny_mono (ht.run [] s1 (L2.start N vs) H _ I hq) (fun fl s' hs => ?_) fun e s' hs => hs
  have fin : ∀ {σ' : St} {H' : Hp} {v : V} {u : Value}, Inv (L2H.cxH CX0 P w K mg base N qual scope f cdv A outer s H E p) [] σ' H' s' → RelV v u → Q v H' → CE outer P w H s Q u s' :=
    fun {σ' H' v u} J rv q => ⟨v, H', J.os, J.bare, J.base, J.hok, rv, q⟩
  cases fl with
  | ret u =>
    obtain ⟨v, σ', H', J, rv, q⟩ := hs
    exact fin J rv q
  | next =>
    obtain ⟨σ', H', J, q⟩ := hs
    exact fin (v := V.non) (u := Value.none) J rfl q
  | brk =>
    obtain ⟨_, _, _, q⟩ := hs
    exact False.elim q
  | cont =>
    obtain ⟨_, _, _, q⟩ := hs
    exact False.elim q
section
variable {X : Cx} {p : Addr × Obj} {D dd : Addr}
def tCallE (sp : Addr → Addr → Sp) (a dd : Addr) (t : TA) : TE := fun σ H Q => t σ H fun vs H1 => sp a dd vs H1 Q E0
theorem pe_callE {k : Nat} {f : Addr} {fd : FuncData} {ps : List Str} {sp : Addr → Addr → Sp} {x : Str} {q pos : Pos} {e : Expr} {es : List Expr} {t : TA} (F : FnE X.prog X.w X.K X.mg X.base k f fd ps D sp) (hr : L2H.RoomH k X.A)
    (hp : p ∈ X.pn) (hz : Zc (.ref D) (some dd) p.2) (hf : ∃ vs, p.2.data = .fields vs) (hg : Gl X x) (hm : X.mg x = some (.ref f)) (hk : PySem.W.keepIn X.K (.ref f) = true) (hb : Binds X.K fd ps [])
    (ha : PA X (e :: es) t) (hdb : (x == ("__debug__" : Str)) = false := by decide) (he : starEach (e :: es) X.env = (false, eval e X.env) :: starEach es X.env := by rfl) (hpl : (backTo pos (starEach es X.env)).any (·.1) = false := by rfl) :
    PE X (.Call (.Name x q) (e :: es) [] pos) (tCallE sp p.1 dd t) := by
  refine ⟨fun pins s σ H Q I h => ?_⟩
  refine wpAny_Call_Name_kw (ld_glob I hg hm ?_ hdb)
  refine PySem.W.callWith_K (h₀ := X.base) I.ok.mod.kin hk (thn (ha.run pos pins s σ H _ I h) fun us s1 ⟨vs, H1, I1, r, q⟩ => ⟨I1.kIn, ?_⟩) he hpl
  have hl : us.length = ps.length := by rw [← r.length]; exact F.len _ _ _ _ _ _ q
  have b := hb s1 us I1.kIn (by rw [List.append_nil]; exact hl)
  rw [List.append_nil] at b
  have P1 := I1.pin p (List.mem_append_left _ hp)
  have hpin : L2H.PinOk X.stack H1 s1 p := ⟨P1.1, P1.2.1, fun hm => (List.mem_cons.mp (I1.stkSub p.1 hm)).elim P1.2.2.1 P1.2.2.2.1, P1.2.2.2.2⟩
  refine wpAny_call (codeAny_mono (F.run X.A X.stack s1 H1 ⟨us, []⟩ us vs Q E0 p dd hr hz hf hpin I1.env0 b r q) fun r s' hq => ?_)
  cases r with
  | error e => exact (show False from hq).elim
  | ok fl =>
    cases fl with
    | ret u => exact I1.after hq
    | next => exact False.elim hq
    | brk => exact False.elim hq
    | cont => exact False.elim hq
end
/-! ### try: body, except (x1, .., x5) as n: suite, except .. -/
/-- what the first clause wishes of an error of the body, which is of the class C -/
def wTup (C : Value) (m i : Nat) (ts : Addr → Value → Option Addr → TS) (D : Ends) : WX := fun cls d σ H =>
  cls = C ∧ ∀ a, H a = none → σ.length = m → ts a cls d { nx := fun σ' H' => D.nx (σ'.set i none) H', rt := D.rt, bk := fun σ' H' => D.bk (σ'.set i none) H', ct := fun σ' H' => D.ct (σ'.set i none) H' } (σ.set i (some (.ref a))) H
section
variable {X : Cx} {x1 x2 x3 x4 x5 n : Str} {C c1 c2 c3 c4 c5 : Value} {i k : Nat} {body suite : List Stmt} {b₀ : Stmt} {p1 p2 p3 p4 p5 tpos pos pos' : Pos} {hds : List ExceptHandler} {tb : WX → TS} {ts : Addr → Value → Option Addr → TS}
theorem ps_try_tupAs (hs : X.stack = X.env :: X.outer) (hf : X.env.frame = some X.env.locals) (hN : X.N.Nodup) (hi : X.N[i]? = some n) (hln : X.env.kindOf n = some .local)
    (n1 : Names X x1 c1) (n2 : Names X x2 c2) (n3 : Names X x3 c3) (n4 : Names X x4 c4) (n5 : Names X x5 c5)
    (m1 : PySem.W.exmOne X.K C c1 = some true) (m2 : PySem.W.exmOne X.K C c2 = some false) (m3 : PySem.W.exmOne X.K C c3 = some false) (m4 : PySem.W.exmOne X.K C c4 = some false) (m5 : PySem.W.exmOne X.K C c5 = some false)
    (hb : ∀ (W : WX) (pn : List (Addr × Obj)) (xe : Value → Shared → Prop), Takes (X.tr pn xe) W → PassesOwn (model X.prog X.w) X.A X.env xe → PSs (X.tr pn xe) body (tb W))
    (hsu : ∀ (a : Addr) (oe : Obj) (d : Option Addr) (pn : List (Addr × Obj)), Zc C d oe → (∃ vs, oe.data = .fields vs) → PSs (X.suite a ((a, oe) :: pn)) (b₀ :: suite) (ts a C d)) :
    PS X (.Try body (.ExceptHandler (some (.Tuple [.Name x1 p1, .Name x2 p2, .Name x3 p3, .Name x4 p4, .Name x5 p5] k tpos)) (some n) (b₀ :: suite) pos' :: hds) [] [] pos) (fun D σ H => tb (wTup C X.N.length i ts D) D σ H) := by
  refine ⟨fun pins s σ H D I h => ?_⟩
  have ok := I.ok
  have hfr : X.A.frames = some (X.env :: X.outer) := by rw [ok.frames, hs]
  have hloc : Loc X.env.scope n := .inl hln
  refine wpAny_Try_except ?_
  refine wpAny_mono ((hb (wTup C X.N.length i ts D) (X.pn ++ pins) (fun e s₁ => wpAny (model X.prog X.w) X.A (noteFrame e X.env) (fun _ s₂ => wpAny (model X.prog X.w) X.A (setFlight e none) (fun _ s₃ =>
    wpAny (model X.prog X.w) X.A (handleBy e X.env (.ExceptHandler (some (.Tuple [.Name x1 p1, .Name x2 p2, .Name x3 p3, .Name x4 p4, .Name x5 p5] k tpos)) (some n) (b₀ :: suite) pos' :: hds)) (SP X pins D) X.xe s₃) X.xe s₂) X.xe s₁) (fun u s' xx => ?_) PassesOwn.looking).run [] s σ H D (I.toTry _) h) (fun f s1 hsp => ?_) (fun e s1 he => he)
  · obtain ⟨a, B, sI, pins', σ', H', cls, d, rfl, J', nb, up, sky, na, os, ag, hcls, hyes⟩ := xx
    subst hcls
    have J : Inv X pins σ' H' sI := J'.ofTry ok
    have sky' : Sky B (X.env :: X.outer) a (Zc cls d) X.env.locals s'.heap := by rw [← hs]; exact sky
    show wpAny (model X.prog X.w) X.A (noteFrame (.ref a) X.env) _ _ _
    refine Sky.land Zc.steady hfr hf sky' fun h3 fl3 up3 => ?_
    have J3 : Inv X pins σ' H' { s' with heap := h3 } := J.landed nb fl3.1 (up.trans up3) os ag
    obtain ⟨oe3, vs3, he3, hz3, hd3⟩ := fl3.there
    have notFr : ∀ {h : Heap} {o : Obj} {vs : Array Value}, h.FunFrames B (X.env :: X.outer) → h.get? a = some o → o.data = .fields vs → a ∉ frs (X.env :: X.outer) := fun {h o vs} ff e dd hm => by
      obtain ⟨_, o', e', hnf⟩ := ff.mem hm
      rw [e] at e'; cases e'
      exact hnf _ dd
    have nfr := notFr fl3.2.2.1 he3 hd3
    have nL : a ≠ X.env.locals := fun z => nfr (List.mem_filterMap.mpr ⟨X.env, List.mem_cons_self, by rw [hf, z]⟩)
    have nF : a ∉ X.fs := fun hm => by
      obtain ⟨e, he, q⟩ := List.mem_filterMap.mp hm
      exact nfr (List.mem_filterMap.mpr ⟨e, List.mem_cons_of_mem _ he, q⟩)
    have S3 := J3.suite he3 hd3 na nL nF
    refine wpAny_handleBy_cons (codeAny_handlers_test ?_) (by intro q; cases q)
    have test : ∀ {x : Str} {c : Value} {np : Pos} {Q : Value → Shared → Prop} {E : Value → Shared → Prop}, Names X x c → Q c { s' with heap := h3 } → wpAny (model X.prog X.w) (X.A.mark (some (.ref a))) (eval (.Name x np) X.env) Q E { s' with heap := h3 } := fun {x c np Q E} hc q => by
      obtain ⟨hg, hdbg, hm | ⟨hm, hv, hnn⟩⟩ := hc
      · exact ld_glob (X := X.suite a ((a, oe3) :: (X.pn ++ pins))) S3 hg hm q hdbg
      · exact ld_blt (X := X.suite a ((a, oe3) :: (X.pn ++ pins))) S3 hg hm hv q hnn hdbg
    refine wpAny_Tuple ?_
    refine wpAny_items_cons (test n1 ?_)
    refine wpAny_items_cons (test n2 ?_)
    refine wpAny_items_cons (test n3 ?_)
    refine wpAny_items_cons (test n4 ?_)
    refine wpAny_items_cons (test n5 ?_)
    refine wpAny_items_nil ⟨by size_fits, ?_⟩
    generalize hh5 : h3.push { cls := .type "tuple", data := .seq [c1, c2, c3, c4, c5].toArray } = h5
    have kp : ∀ q o, h3.get? q = some o → h5.get? q = some o := fun _ _ z => by rw [← hh5]; exact Heap.get?_push_of_some _ z
    have htp : h5.get? h3.objs.size = some { cls := .type "tuple", data := .seq [c1, c2, c3, c4, c5].toArray } := by rw [← hh5]; exact Heap.get?_push_size h3 rfl
    have fl5 := fl3.keeps kp
    have J5 : Inv X pins σ' H' { s' with heap := h5 } := J3.kept (t' := s'.toks) kp
    have LT : PySem.W.Looks (model X.prog X.w) h5 (typeOf (.ref a)) cls := fun A Q E s k q => wpAny_typeOf_ref (k _ _ (kp _ _ he3)) (by rw [hz3.1]; exact q)
    refine (PySem.W.exm_tup5 (M := model X.prog X.w) (J5.kIn) LT htp m1 m2 m3 m4 m5).here ?_
    refine codeAny_handlers_suite_as ?_
    refine HandSPX.lands_againZ fl5 fun h4 fl4 up4 => ?_
    have up5 : sI.heap.UpToSlots h4 := ((up.trans up3).trans (Heap.UpToSlots.of_keeps kp)).trans up4
    have J4 : Inv X pins σ' H' { s' with heap := h4 } := J.landed nb fl4.1 up5 os ag
    obtain ⟨oe4, vs4, he4, hz4, hd4⟩ := fl4.there
    have S4 := J4.suite he4 hd4 na nL nF
    refine store_ok (X := X.suite a ((a, oe4) :: (X.pn ++ pins))) (v := .ref a) S4 hN hi hloc rfl (fun s5 S5 => ?_) (.inr hln)
    refine wpAny_mono ((hsu a oe4 d (X.pn ++ pins) hz4 ⟨_, hd4⟩).run [] s5 _ H' _ S5 (hyes a na J.len)) (fun f s6 hsp => ?_) (fun _ _ z => False.elim z)
    have end_ : ∀ {σ6 : St} {H6 : Hp} {Q : Shared → Prop}, Inv (X.suite a ((a, oe4) :: (X.pn ++ pins))) [] σ6 H6 s6 → (∀ s7, Inv X pins (σ6.set i none) H6 s7 → Q s7) →
        wpAny (model X.prog X.w) X.A (do bindName X.env n .none; unbindBehindTheSuite X.env n pos') (fun _ s7 => Q s7) X.xe s6 := fun {σ6 H6 Q} S6 hq => gone_ok (S6.unsuite ok) hN hi hln hq
    cases f with
    | next =>
      obtain ⟨σ6, H6, S6, q6⟩ := hsp
      exact end_ S6 fun s7 J7 => ⟨_, _, J7, q6⟩
    | brk =>
      obtain ⟨σ6, H6, S6, q6⟩ := hsp
      exact end_ S6 fun s7 J7 => ⟨_, _, J7, q6⟩
    | cont =>
      obtain ⟨σ6, H6, S6, q6⟩ := hsp
      exact end_ S6 fun s7 J7 => ⟨_, _, J7, q6⟩
    | ret u =>
      obtain ⟨v6, σ6, H6, S6, r6, q6⟩ := hsp
      exact end_ S6 fun s7 J7 => ⟨_, _, _, J7, r6, q6⟩
  · cases f with
    | next =>
      obtain ⟨σ', H', J', q⟩ := hsp
      exact wpAny_execs_nil ⟨σ', H', J'.ofTry ok, q⟩
    | brk =>
      obtain ⟨σ', H', J', q⟩ := hsp
      exact ⟨σ', H', J'.ofTry ok, q⟩
    | cont =>
      obtain ⟨σ', H', J', q⟩ := hsp
      exact ⟨σ', H', J'.ofTry ok, q⟩
    | ret u =>
      obtain ⟨v, σ', H', J', r, q⟩ := hsp
      exact ⟨v, σ', H', J'.ofTry ok, r, q⟩
end
end L2
set_option Elab.async false
set_option linter.all false
/-! Numbers, rising lists and entries as lists of signs: one reader for the program and the law; what it reads is coded as it was. No program in sight. -/
namespace K10
/-- the number whose code begins l; told so far, the scale, the place; first: no sign of it was read -/
def pn : List Nat → Bool → Int → Int → Nat → Nat ⊕ (Int × Nat)
  | [], _, _, _, k => .inl k
  | c :: r, fst, told, sc, k =>
    if 65 ≤ c ∧ c ≤ 80 then pn r false (told + sc * ((c : Int) - 65)) (sc * 16) (k + 1)
    else if (97 ≤ c ∧ c ≤ 112) ∧ ¬ (c = 97 ∧ fst = false) then .inr (told + sc * ((c : Int) - 97), k + 1)
    else .inl k
def num (cs : List Nat) (k : Nat) : Nat ⊕ (Int × Nat) := pn (cs.drop k) true 0 1 k
/-- n rising numbers by gaps -/
def rs (cs : List Nat) : Nat → Nat → Int → List Int → Nat ⊕ (List Int × Nat)
  | 0, k, _, acc => .inr (acc, k)
  | n + 1, k, last, acc => match num cs k with
    | .inl p => .inl p
    | .inr (x, b) => rs cs n b (last + 1 + x) (acc ++ [last + 1 + x])
def es (cs : List Nat) : List Int → Nat → List (Int × List Int) → Nat ⊕ (List (Int × List Int) × Nat)
  | [], k, acc => .inr (acc, k)
  | s :: r, k, acc => match num cs k with
    | .inl p => .inl p
    | .inr (x, b) => match rs cs (x + 1).toNat b (-1) [] with
      | .inl p => .inl p
      | .inr (l, e) => es cs r e (acc ++ [(s, l)])
def due (cs : List Nat) : Nat ⊕ List (Int × List Int) :=
  match num cs 0 with
  | .inl p => .inl p
  | .inr (m, b) => match rs cs m.toNat b (-1) [] with
    | .inl p => .inl p
    | .inr (sl, e) => match es cs sl e [] with
      | .inl p => .inl p
      | .inr (l, e2) => if e2 = cs.length then .inr l else .inl e2
/-! ### codes -/
def cd (n : Nat) : List Nat := if h : n < 16 then [97 + n] else (65 + n % 16) :: cd (n / 16)
termination_by n
decreasing_by omega
theorem cd_lt {n : Nat} (h : n < 16) : cd n = [97 + n] := by rw [cd, dif_pos h]
theorem cd_ge {n : Nat} (h : ¬ n < 16) : cd n = (65 + n % 16) :: cd (n / 16) := by rw [cd, dif_neg h]
theorem cd_pos (n : Nat) : 0 < (cd n).length := by
  by_cases h : n < 16
  · rw [cd_lt h]; exact Nat.zero_lt_one
  · rw [cd_ge h]; exact Nat.succ_pos _
theorem cd_more {d m : Nat} (hd : d < 16) (hm : 0 < m) : cd (d + 16 * m) = (65 + d) :: cd m := by
  rw [cd_ge (by omega), show (d + 16 * m) % 16 = d by omega, show (d + 16 * m) / 16 = m by omega]
theorem pn_code : ∀ (l : List Nat) (fst : Bool) (told sc : Int) (k : Nat) (x : Int) (b : Nat), pn l fst told sc k = .inr (x, b) →
    ∃ (n : Nat) (r : List Nat), l = cd n ++ r ∧ x = told + sc * (n : Int) ∧ b = k + (cd n).length ∧ (fst = false → 0 < n)
  | [], _, _, _, _, _, _, h => by simp [pn] at h
  | c :: r, fst, told, sc, k, x, b, h => by
    unfold pn at h
    by_cases h1 : 65 ≤ c ∧ c ≤ 80
    · rw [if_pos h1] at h
      obtain ⟨n, r', e1, e2, e3, e4⟩ := pn_code r _ _ _ _ _ _ h
      have hn := e4 rfl
      have hc := cd_more (d := c - 65) (m := n) (by omega) hn
      refine ⟨(c - 65) + 16 * n, r', ?_, ?_, ?_, fun _ => by omega⟩
      · rw [hc, e1, show 65 + (c - 65) = c by omega]
        rfl
      · rw [e2]
        have hcc : ((c : Int) - 65) = ((c - 65 : Nat) : Int) := by omega
        rw [hcc, Int.natCast_add, Int.natCast_mul, Int.mul_add, Int.mul_assoc, Int.add_assoc]
        rfl
      · rw [e3, hc, List.length_cons]
        omega
    · rw [if_neg h1] at h
      by_cases h2 : (97 ≤ c ∧ c ≤ 112) ∧ ¬ (c = 97 ∧ fst = false)
      · rw [if_pos h2] at h
        have e := Sum.inr.inj h
        have e1 := congrArg Prod.fst e
        have e2 := congrArg Prod.snd e
        simp only at e1 e2
        refine ⟨c - 97, r, ?_, ?_, ?_, fun hf => ?_⟩
        · rw [cd_lt (by omega), show 97 + (c - 97) = c by omega]
          rfl
        · rw [← e1]
          have hcc : ((c : Int) - 97) = ((c - 97 : Nat) : Int) := by omega
          rw [hcc]
        · rw [← e2, cd_lt (by omega)]
          rfl
        · have : ¬ c = 97 := fun z => h2.2 ⟨z, hf⟩
          omega
      · rw [if_neg h2] at h
        simp at h
theorem num_code {cs : List Nat} {k b : Nat} {x : Int} (h : num cs k = .inr (x, b)) : 0 ≤ x ∧ k < b ∧ b ≤ cs.length ∧ cs.drop k = cd x.toNat ++ cs.drop b := by
  obtain ⟨n, r, e1, e2, e3, _⟩ := pn_code _ _ _ _ _ _ _ h
  have ex : x = (n : Int) := by rw [e2]; omega
  have hp := cd_pos n
  have hl := congrArg List.length e1
  rw [List.length_drop, List.length_append] at hl
  refine ⟨by omega, by omega, by omega, ?_⟩
  have er : cs.drop b = r := by
    rw [e3, ← List.drop_drop, e1, List.drop_left]
  rw [er, ex, e1]
  rfl
theorem num_le {cs : List Nat} {k p : Nat} (h : num cs k = .inl p) : k ≤ p := by
  have key : ∀ (l : List Nat) (fst : Bool) (told sc : Int) (k p : Nat), pn l fst told sc k = .inl p → k ≤ p := by
    intro l
    induction l with
    | nil =>
      intro fst told sc k p h
      simp [pn] at h
      omega
    | cons c r ih =>
      intro fst told sc k p h
      unfold pn at h
      split at h
      · have := ih _ _ _ _ _ h
        omega
      · split at h
        · simp at h
        · have := Sum.inl.inj h
          omega
  exact key _ _ _ _ _ _ h
def gp : Int → List Int → List Int
  | _, [] => []
  | last, x :: r => (x - last - 1) :: gp x r
theorem gp_len : ∀ (last : Int) (l : List Int), (gp last l).length = l.length
  | _, [] => rfl
  | _, x :: r => congrArg Nat.succ (gp_len x r)
def rf : Int → List Int → Prop
  | _, [] => True
  | last, x :: r => last < x ∧ rf x r
def cds (l : List Int) : List Nat := l.flatMap fun z => cd z.toNat
theorem cds_len : ∀ l : List Int, l.length ≤ (cds l).length
  | [] => Nat.le_refl _
  | z :: r => by
    have h := cds_len r
    have p := cd_pos z.toNat
    show r.length + 1 ≤ (cd z.toNat ++ cds r).length
    rw [List.length_append]
    omega
theorem cds_append (a b : List Int) : cds (a ++ b) = cds a ++ cds b := List.flatMap_append
theorem rs_code (cs : List Nat) : ∀ (n k : Nat) (last : Int) (acc l : List Int) (b : Nat), k ≤ cs.length → rs cs n k last acc = .inr (l, b) →
    ∃ l', l = acc ++ l' ∧ l'.length = n ∧ rf last l' ∧ (∀ z ∈ gp last l', 0 ≤ z) ∧ k ≤ b ∧ b ≤ cs.length ∧ cs.drop k = cds (gp last l') ++ cs.drop b
  | 0, k, last, acc, l, b, hk, h => by
    have e := Sum.inr.inj h
    have e1 := congrArg Prod.fst e
    have e2 := congrArg Prod.snd e
    simp only at e1 e2
    subst e1 e2
    exact ⟨[], by simp, rfl, trivial, fun z hz => by simp [gp] at hz, Nat.le_refl _, hk, rfl⟩
  | n + 1, k, last, acc, l, b, hk, h => by
    unfold rs at h
    cases e : num cs k with
    | inl p => rw [e] at h; simp at h
    | inr q =>
      obtain ⟨x, c⟩ := q
      rw [e] at h
      obtain ⟨h0, h1, h2, h3⟩ := num_code e
      obtain ⟨l', a1, a2, a3, a4, a5, a6, a7⟩ := rs_code cs n c (last + 1 + x) (acc ++ [last + 1 + x]) l b h2 h
      refine ⟨(last + 1 + x) :: l', by rw [a1]; simp, by rw [List.length_cons, a2], ⟨by omega, a3⟩, fun z hz => ?_, by omega, a6, ?_⟩
      · rcases List.mem_cons.mp (show z ∈ (last + 1 + x - last - 1) :: gp (last + 1 + x) l' from hz) with e | hz
        · rw [e]; omega
        · exact a4 z hz
      · show cs.drop k = cds ((last + 1 + x - last - 1) :: gp (last + 1 + x) l') ++ cs.drop b
        have ex : last + 1 + x - last - 1 = x := by omega
        rw [ex, h3, a7]
        show cd x.toNat ++ (cds (gp (last + 1 + x) l') ++ cs.drop b) = (cd x.toNat ++ cds (gp (last + 1 + x) l')) ++ cs.drop b
        rw [List.append_assoc]
/-- the numbers of an entry's places -/
def pl (e : Int × List Int) : List Int := [(e.2.length : Int) - 1] ++ gp (-1) e.2
def pls (l : List (Int × List Int)) : List Int := l.flatMap pl
def GoodE (e : Int × List Int) : Prop := e.2 ≠ [] ∧ rf (-1) e.2
theorem es_code (cs : List Nat) : ∀ (sl : List Int) (k : Nat) (acc l : List (Int × List Int)) (b : Nat), k ≤ cs.length → es cs sl k acc = .inr (l, b) →
    ∃ l', l = acc ++ l' ∧ l'.map (·.1) = sl ∧ (∀ e ∈ l', GoodE e) ∧ (∀ z ∈ pls l', 0 ≤ z) ∧ k ≤ b ∧ b ≤ cs.length ∧ cs.drop k = cds (pls l') ++ cs.drop b
  | [], k, acc, l, b, hk, h => by
    have e := Sum.inr.inj h
    have e1 := congrArg Prod.fst e
    have e2 := congrArg Prod.snd e
    simp only at e1 e2
    subst e1 e2
    exact ⟨[], by simp, rfl, fun z hz => by simp at hz, fun z hz => by simp [pls] at hz, Nat.le_refl _, hk, rfl⟩
  | s :: r, k, acc, l, b, hk, h => by
    unfold es at h
    cases e : num cs k with
    | inl p => rw [e] at h; simp at h
    | inr q =>
      obtain ⟨x, c⟩ := q
      rw [e] at h
      simp only at h
      obtain ⟨h0, h1, h2, h3⟩ := num_code e
      cases e2 : rs cs (x + 1).toNat c (-1) [] with
      | inl p => rw [e2] at h; simp at h
      | inr q =>
        obtain ⟨m, d⟩ := q
        rw [e2] at h
        simp only at h
        obtain ⟨m', a1, a2, a3, a4, a5, a6, a7⟩ := rs_code cs _ c (-1) [] m d h2 e2
        obtain ⟨l', b1, b2, b3, b4, b5, b6, b7⟩ := es_code cs r d (acc ++ [(s, m)]) l b a6 h
        have em : m = m' := by rw [a1]; rfl
        subst em
        have hl : ((m.length : Int) - 1) = x := by omega
        refine ⟨(s, m) :: l', by rw [b1]; simp, by rw [List.map_cons, b2], fun z hz => ?_, fun z hz => ?_, by omega, b6, ?_⟩
        · rcases List.mem_cons.mp hz with e | hz
          · rw [e]
            refine ⟨fun q => ?_, a3⟩
            have q : m = [] := q
            rw [q] at a2
            simp only [List.length_nil] at a2
            omega
          · exact b3 z hz
        · rcases List.mem_append.mp (show z ∈ pl (s, m) ++ pls l' from hz) with hz | hz
          · rcases List.mem_append.mp (show z ∈ [(m.length : Int) - 1] ++ gp (-1) m from hz) with hz | hz
            · rw [List.mem_singleton.mp hz, hl]
              exact h0
            · exact a4 z hz
          · exact b4 z hz
        · show cs.drop k = cds (([(m.length : Int) - 1] ++ gp (-1) m) ++ pls l') ++ cs.drop b
          rw [hl, h3, a7, b7, cds_append, cds_append]
          show cd x.toNat ++ (cds (gp (-1) m) ++ (cds (pls l') ++ cs.drop b)) = ((cd x.toNat ++ []) ++ cds (gp (-1) m)) ++ cds (pls l') ++ cs.drop b
          rw [List.append_nil]
          simp only [List.append_assoc]
/-- the numbers of a list of entries -/
def nums (l : List (Int × List Int)) : List Int := ([(l.length : Int)] ++ gp (-1) (l.map (·.1))) ++ pls l
structure GoodL (cs : List Nat) (l : List (Int × List Int)) : Prop where
  slots : rf (-1) (l.map (·.1))
  each : ∀ e ∈ l, GoodE e
  nn : ∀ z ∈ nums l, 0 ≤ z
  code : cds (nums l) = cs
theorem due_code {cs : List Nat} {l : List (Int × List Int)} (h : due cs = .inr l) : GoodL cs l := by
  unfold due at h
  cases e : num cs 0 with
  | inl p => rw [e] at h; simp at h
  | inr q =>
    obtain ⟨m, b⟩ := q
    rw [e] at h
    simp only at h
    obtain ⟨h0, h1, h2, h3⟩ := num_code e
    cases e2 : rs cs m.toNat b (-1) [] with
    | inl p => rw [e2] at h; simp at h
    | inr q =>
      obtain ⟨sl, d⟩ := q
      rw [e2] at h
      simp only at h
      obtain ⟨sl', a1, a2, a3, a4, a5, a6, a7⟩ := rs_code cs _ b (-1) [] sl d h2 e2
      have es' : sl = sl' := by rw [a1]; rfl
      subst es'
      cases e3 : es cs sl d [] with
      | inl p => rw [e3] at h; simp at h
      | inr q =>
        obtain ⟨l2, c⟩ := q
        rw [e3] at h
        simp only at h
        obtain ⟨l', b1, b2, b3, b4, b5, b6, b7⟩ := es_code cs sl d [] l2 c a6 e3
        have el : l2 = l' := by rw [b1]; rfl
        subst el
        by_cases hc : c = cs.length
        · rw [if_pos hc] at h
          have el := Sum.inr.inj h
          subst el
          have hlen : (l2.length : Int) = m := by
            have := congrArg List.length b2
            rw [List.length_map] at this
            omega
          refine ⟨by rw [b2]; exact a3, b3, fun z hz => ?_, ?_⟩
          · rcases List.mem_append.mp (show z ∈ ([(l2.length : Int)] ++ gp (-1) (l2.map (·.1))) ++ pls l2 from hz) with hz | hz
            · rcases List.mem_append.mp hz with hz | hz
              · rw [List.mem_singleton.mp hz]
                omega
              · rw [b2] at hz
                exact a4 z hz
            · exact b4 z hz
          · unfold nums
            rw [cds_append, cds_append, b2, hlen]
            have e0 : cs = cs.drop 0 := rfl
            rw [e0, h3, a7, b7, hc, List.drop_length, List.append_nil]
            show ((cd m.toNat ++ []) ++ _) ++ _ = _
            rw [List.append_nil]
            simp only [List.append_assoc, List.drop_zero]
        · rw [if_neg hc] at h
          simp at h
theorem nums_len {cs : List Nat} {l : List (Int × List Int)} (g : GoodL cs l) : (nums l).length ≤ cs.length := by
  rw [← g.code]
  exact cds_len _
theorem GoodL.len {cs : List Nat} {l : List (Int × List Int)} (g : GoodL cs l) : l.length ≤ cs.length := by
  have h := nums_len g
  unfold nums at h
  rw [List.length_append, List.length_append, gp_len, List.length_map] at h
  omega
theorem pls_mem : ∀ {l : List (Int × List Int)} {e : Int × List Int}, e ∈ l → e.2.length ≤ (pls l).length
  | a :: r, e, h => by
    show e.2.length ≤ (pl a ++ pls r).length
    rw [List.length_append]
    rcases List.mem_cons.mp h with h | h
    · rw [h]
      unfold pl
      rw [List.length_append, gp_len]
      omega
    · have := pls_mem h
      omega
theorem GoodL.lenE {cs : List Nat} {l : List (Int × List Int)} (g : GoodL cs l) {e : Int × List Int} (h : e ∈ l) : e.2.length ≤ cs.length := by
  have h1 := nums_len g
  have h2 := pls_mem h
  unfold nums at h1
  rw [List.length_append] at h1
  omega
end K10
set_option Elab.async false
set_option linter.all false
set_option maxRecDepth 100000
set_option maxHeartbeats 4000000
/-! The text by places, each def as a datum, the head's facts, what the top has written (Txt). -/
namespace K10
open PySem PySem.Spec PyProof.Rows L2
def topS (i : Nat) : Stmt := PySem.Challenge.pw_blocksearch_k10_whole_entries_decoded.main.body.getD i (.Pass ⟨0, 0, 0, 0⟩)
abbrev s_NoCodeDinitD : Stmt := inClass (topS 8) 0
abbrev s_is_whole : Stmt := topS 21
abbrev s_is_count : Stmt := topS 26
abbrev s_code : Stmt := topS 27
abbrev s_joined_codes : Stmt := topS 28
abbrev s_CodeReaderDinitD : Stmt := inClass (topS 29) 0
abbrev s_CodeReaderis_done : Stmt := inClass (topS 29) 1
abbrev s_CodeReadernext_number : Stmt := inClass (topS 29) 2
abbrev s_CodeReaderrising : Stmt := inClass (topS 29) 3
abbrev s_gaps : Stmt := topS 30
abbrev s_is_rising : Stmt := topS 31
abbrev s_is_entry : Stmt := topS 32
abbrev s_look_entries : Stmt := topS 33
abbrev s_code_entries : Stmt := topS 34
abbrev s_decode_entries : Stmt := topS 35
abbrev s__law_pool : Stmt := topS 37
abbrev s__law_take : Stmt := topS 38
abbrev s__law_entries : Stmt := topS 39
abbrev s__law_code : Stmt := topS 40
abbrev s__law_gaps : Stmt := topS 41
abbrev s__law_coded : Stmt := topS 42
abbrev s__law_kind : Stmt := topS 43
abbrev s__law_how : Stmt := topS 44
abbrev s__law_number_at : Stmt := topS 45
abbrev s__law_rising_at : Stmt := topS 46
abbrev s__law_due : Stmt := topS 47
abbrev s__law_right : Stmt := topS 48
abbrev s_law : Stmt := topS 49
def d_NoCodeDinitD : He.DefD := ⟨("NoCode", some "__init__"), "__init__", "NoCode.__init__", defArgs s_NoCodeDinitD, defBody s_NoCodeDinitD, defScope s_NoCodeDinitD, [.non], []⟩
def d_is_whole : He.DefD := ⟨("is_whole", none), "is_whole", "is_whole", defArgs s_is_whole, defBody s_is_whole, defScope s_is_whole, [], []⟩
def d_is_count : He.DefD := ⟨("is_count", none), "is_count", "is_count", defArgs s_is_count, defBody s_is_count, defScope s_is_count, [], []⟩
def d_code : He.DefD := ⟨("code", none), "code", "code", defArgs s_code, defBody s_code, defScope s_code, [], []⟩
def d_joined_codes : He.DefD := ⟨("joined_codes", none), "joined_codes", "joined_codes", defArgs s_joined_codes, defBody s_joined_codes, defScope s_joined_codes, [], []⟩
def d_CodeReaderDinitD : He.DefD := ⟨("CodeReader", some "__init__"), "__init__", "CodeReader.__init__", defArgs s_CodeReaderDinitD, defBody s_CodeReaderDinitD, defScope s_CodeReaderDinitD, [], []⟩
def d_CodeReaderis_done : He.DefD := ⟨("CodeReader", some "is_done"), "is_done", "CodeReader.is_done", defArgs s_CodeReaderis_done, defBody s_CodeReaderis_done, defScope s_CodeReaderis_done, [], []⟩
def d_CodeReadernext_number : He.DefD := ⟨("CodeReader", some "next_number"), "next_number", "CodeReader.next_number", defArgs s_CodeReadernext_number, defBody s_CodeReadernext_number, defScope s_CodeReadernext_number, [], []⟩
def d_CodeReaderrising : He.DefD := ⟨("CodeReader", some "rising"), "rising", "CodeReader.rising", defArgs s_CodeReaderrising, defBody s_CodeReaderrising, defScope s_CodeReaderrising, [], []⟩
def d_gaps : He.DefD := ⟨("gaps", none), "gaps", "gaps", defArgs s_gaps, defBody s_gaps, defScope s_gaps, [], []⟩
def d_is_rising : He.DefD := ⟨("is_rising", none), "is_rising", "is_rising", defArgs s_is_rising, defBody s_is_rising, defScope s_is_rising, [], []⟩
def d_is_entry : He.DefD := ⟨("is_entry", none), "is_entry", "is_entry", defArgs s_is_entry, defBody s_is_entry, defScope s_is_entry, [], []⟩
def d_look_entries : He.DefD := ⟨("look_entries", none), "look_entries", "look_entries", defArgs s_look_entries, defBody s_look_entries, defScope s_look_entries, [], []⟩
def d_code_entries : He.DefD := ⟨("code_entries", none), "code_entries", "code_entries", defArgs s_code_entries, defBody s_code_entries, defScope s_code_entries, [], []⟩
def d_decode_entries : He.DefD := ⟨("decode_entries", none), "decode_entries", "decode_entries", defArgs s_decode_entries, defBody s_decode_entries, defScope s_decode_entries, [], []⟩
def d__law_pool : He.DefD := ⟨("_law_pool", none), "_law_pool", "_law_pool", defArgs s__law_pool, defBody s__law_pool, defScope s__law_pool, [], []⟩
def d__law_take : He.DefD := ⟨("_law_take", none), "_law_take", "_law_take", defArgs s__law_take, defBody s__law_take, defScope s__law_take, [], []⟩
def d__law_entries : He.DefD := ⟨("_law_entries", none), "_law_entries", "_law_entries", defArgs s__law_entries, defBody s__law_entries, defScope s__law_entries, [], []⟩
def d__law_code : He.DefD := ⟨("_law_code", none), "_law_code", "_law_code", defArgs s__law_code, defBody s__law_code, defScope s__law_code, [], []⟩
def d__law_gaps : He.DefD := ⟨("_law_gaps", none), "_law_gaps", "_law_gaps", defArgs s__law_gaps, defBody s__law_gaps, defScope s__law_gaps, [], []⟩
def d__law_coded : He.DefD := ⟨("_law_coded", none), "_law_coded", "_law_coded", defArgs s__law_coded, defBody s__law_coded, defScope s__law_coded, [], []⟩
def d__law_kind : He.DefD := ⟨("_law_kind", none), "_law_kind", "_law_kind", defArgs s__law_kind, defBody s__law_kind, defScope s__law_kind, [], []⟩
def d__law_how : He.DefD := ⟨("_law_how", none), "_law_how", "_law_how", defArgs s__law_how, defBody s__law_how, defScope s__law_how, [], []⟩
def d__law_number_at : He.DefD := ⟨("_law_number_at", none), "_law_number_at", "_law_number_at", defArgs s__law_number_at, defBody s__law_number_at, defScope s__law_number_at, [], []⟩
def d__law_rising_at : He.DefD := ⟨("_law_rising_at", none), "_law_rising_at", "_law_rising_at", defArgs s__law_rising_at, defBody s__law_rising_at, defScope s__law_rising_at, [], []⟩
def d__law_due : He.DefD := ⟨("_law_due", none), "_law_due", "_law_due", defArgs s__law_due, defBody s__law_due, defScope s__law_due, [], []⟩
def d__law_right : He.DefD := ⟨("_law_right", none), "_law_right", "_law_right", defArgs s__law_right, defBody s__law_right, defScope s__law_right, [], []⟩
def d_law : He.DefD := ⟨("law", none), "law", "law", defArgs s_law, defBody s_law, defScope s_law, [], []⟩
def fnL : List He.DefD := [d_NoCodeDinitD, d_is_whole, d_is_count, d_code, d_joined_codes, d_CodeReaderDinitD, d_CodeReaderis_done, d_CodeReadernext_number, d_CodeReaderrising, d_gaps, d_is_rising, d_is_entry, d_look_entries, d_code_entries, d_decode_entries, d__law_pool, d__law_take, d__law_entries, d__law_code, d__law_gaps, d__law_coded, d__law_kind, d__law_how, d__law_number_at, d__law_rising_at, d__law_due, d__law_right, d_law]
def fa0 : List He.Fa := [.glo "Wrong", .glo "NoWord", .glo "NoText", .glo "NoNumber", .glo "NoSize", .glo "NoLengths", .glo "NoQuery", .glo "NoCode", .glo "NoRow", .glo "NoEntries", .glo "NoQueryText", .glo "NoPages", .glo "NoName", .glo "NoQueries", .glo "NoShelf", .glo "NoDeed", .glo "Taken", .glo "NoPlace", .glo "NoSlot", .glo "CodeReader", .glo "is_whole", .glo "is_count", .glo "code", .glo "joined_codes", .glo "gaps"]
def fa1 : List He.Fa := [.glo "is_rising", .glo "is_entry", .glo "look_entries", .glo "code_entries", .glo "decode_entries", .glo "_law_pool", .glo "_law_take", .glo "_law_entries", .glo "_law_code", .glo "_law_gaps", .glo "_law_coded", .glo "_law_kind", .glo "_law_how", .glo "_law_number_at", .glo "_law_rising_at", .glo "_law_due", .glo "_law_right", .glo "law", .free "IndexError", .free "ValueError", .free "abs", .free "all", .free "bool", .free "divmod", .free "enumerate"]
def fa2 : List He.Fa := [.free "int", .free "isinstance", .free "len", .free "list", .free "max", .free "min", .free "range", .free "str", .free "tuple", .free "zip", .str "ENDS" "abcdefghijklmnop", .str "FURTHER" "ABCDEFGHIJKLMNOP", .int "BASE" 16, .cls "CodeReader", .noat "CodeReader" "text", .noat "CodeReader" "at", .meth "CodeReader" "is_done", .meth "CodeReader" "next_number", .meth "CodeReader" "rising", .mkr "CodeReader", .keep "is_whole", .keep "is_count", .keep "code", .keep "joined_codes", .keep "gaps"]
def fa3 : List He.Fa := [.keep "is_rising", .keep "is_entry", .keep "look_entries", .keep "code_entries", .keep "decode_entries", .keep "_law_pool", .keep "_law_take", .keep "_law_entries", .keep "_law_code", .keep "_law_gaps", .keep "_law_coded", .keep "_law_kind", .keep "_law_how", .keep "_law_number_at", .keep "_law_rising_at", .keep "_law_due", .keep "_law_right", .keep "law", .keep "NoCode", .keep "CodeReader"]
def faL : List He.Fa := fa0 ++ fa1 ++ fa2 ++ fa3
/-! ### the error's class -/
def oexB (K : PySem.W.Frag) (C : Addr) : Bool := match K.lookup C with
  | some ⟨.type c, _, .cls cd, sl⟩ => decide (c = "type") && (match cd.mro, sl.toList with
    | .ref C' :: bm, [_, _, _, _, some (.builtin n), _] => decide (C' = C) && (decide (n = "ValueError.__new__") && (!cd.hasDel && (cd.hasDict && PySem.HandSPX.refsVE bm)))
    | _, _ => false)
  | _ => false
theorem oexB_ok {K : PySem.W.Frag} {C : Addr} (h : oexB K C = true) : ∃ nm q N bs bm sn sub ab col dd k0 k1 k2 k3 k5, K.lookup C = some (excClassObj nm q C N bs bm true sn sub ab col dd k0 k1 k2 k3 k5 "ValueError.__new__") ∧ PySem.HandSPX.refsVE bm = true := by
  unfold oexB at h
  split at h
  · rename_i c dd cd sl ho
    obtain ⟨h1, h2⟩ := He.ba h
    have e1 := of_decide_eq_true h1
    split at h2
    · rename_i C' bm k0 k1 k2 k3 n k5 hm hs
      obtain ⟨h3, h4⟩ := He.ba h2
      obtain ⟨h5, h6⟩ := He.ba h4
      obtain ⟨h7, h8⟩ := He.ba h6
      obtain ⟨h9, h10⟩ := He.ba h8
      have e3 := of_decide_eq_true h3
      have e5 := of_decide_eq_true h5
      obtain ⟨nm, bs, mro, ns, qn, hd, sn, sub, ab, col, del⟩ := cd
      dsimp only at hm h7 h9
      have e7 : del = false := by
        cases del with
        | false => rfl
        | true => cases h7
      have hsl : sl = #[k0, k1, k2, k3, some (.builtin n), k5] := by
        obtain ⟨l⟩ := sl
        simp only at hs
        rw [hs]
      subst e1 e3 e5 e7 hm h9 hsl
      exact ⟨nm, qn, ns, bs, bm, sn, sub, ab, col, dd, k0, k1, k2, k3, k5, ho, h10⟩
    · cases h2
  · cases h
def cfB (K : PySem.W.Frag) (C : Addr) : Bool := match PySem.W.findCls K (.ref C) (.type "type") "__init__" with
  | some (.val (.builtin i)) => decide (i = "ValueError.__init__")
  | _ => false
theorem cfB_ok {K : PySem.W.Frag} {C : Addr} (h : cfB K C = true) : PySem.W.findCls K (.ref C) (.type "type") "__init__" = some (.val (.builtin "ValueError.__init__")) := by
  unfold cfB at h
  split at h
  · rename_i i e
    rw [e, of_decide_eq_true h]
  · cases h
def nc (K : PySem.W.Frag) : Addr := He.ga K "NoCode"
def kinds : List (Str × Bool) := [("NoCode", true), ("NoDeed", false), ("NoEntries", false), ("NoLengths", false), ("NoName", false), ("NoNumber", false), ("NoPages", false), ("NoQueries", false), ("NoQuery", false), ("NoQueryText", false), ("NoRow", false), ("NoShelf", false), ("NoSize", false), ("NoText", false), ("NoWord", false), ("Taken", false), ("NoPlace", false), ("NoSlot", false)]
def exms : List (Str × Bool) := [("NoCode", true), ("NoEntries", false), ("NoPages", false), ("NoQueryText", false), ("NoRow", false)]
def exA (K : PySem.W.Frag) : Bool :=
  oexB K (nc K) && (He.eqO (PySem.W.findIn K (.ref (nc K)) "__setattr__") (some (some (.builtin "object.__setattr__"))) && (decide (PySem.W.subIn K (.ref (nc K)) (.type "BaseException") = some true) && (decide (PySem.W.typeIn K (.ref (nc K)) = some (.type "type")) &&
  (He.eqO (PySem.W.findIn K (.ref (nc K)) "at") (some none) && (He.eqO (PySem.W.findIn K (.ref (nc K)) "__init__") (some (some (.ref (He.ma K (nc K) "__init__")))) && (decide (PySem.W.typeIn K (.ref (He.ma K (nc K) "__init__")) = some (.type "function")) &&
  (PySem.W.readsIn K (He.ga K "Wrong") (.type "type") && (He.eqO (PySem.W.specialIn K (.ref (He.ga K "Wrong")) "__getattribute__") (some (some (.builtin "type.__getattribute__"))) && (cfB K (He.ga K "Wrong") &&
  (He.eqO (PySem.W.findIn K (.ref (nc K)) "__getattribute__") (some (some (.builtin "BaseException.__getattribute__"))) && (He.eqO (PySem.W.findIn K (.ref (nc K)) "__getattr__") (some none) && (PySem.W.hasDictIn K (nc K) &&
  (He.eqO (PySem.W.findIn K (.ref (nc K)) "__class__") (some (some (.builtin "object.__class__"))) && (He.eqO (PySem.W.specialIn K (.builtin "object.__class__") "__get__") (some (some (.builtin "getset_descriptor.__get__"))) && (decide (PySem.W.takesIn K (.builtin "object.__class__") = some true) &&
  (decide (PySem.W.mroIn K (nc K) (.type "object") = some true) && (decide (PySem.W.kitOne K (.ref (nc K)) (.type "ValueError") = some true) &&
  (kinds.all (fun q => decide (PySem.W.kitOne K (.ref (nc K)) (.ref (He.ga K q.1)) = some q.2)) && exms.all fun q => decide (PySem.W.exmOne K (.ref (nc K)) (.ref (He.ga K q.1)) = some q.2)))))))))))))))))))
def tf : List He.Defn := [("_law_right", none), ("law", none)]
def exB (K : PySem.W.Frag) : Bool := exA K && decide ((He.cT K ("_law_right", none)).2 ≠ (He.cT K ("law", none)).2)
/-! ### what the top has written -/
structure Txt (K : PySem.W.Frag) (mg : Str → Option Value) : Prop where
  fact : ∀ f ∈ faL, f.ok K = true
  glo : ∀ x, (He.Fa.glo x) ∈ faL → mg x = some (.ref (He.ga K x))
  free : ∀ x, (He.Fa.free x) ∈ faL → mg x = none
  str : ∀ x z, (He.Fa.str x z) ∈ faL → ∃ t, mg x = some (.str z t)
  base : ∃ t, mg "BASE" = some (.int 16 t)
  fn : ∀ d ∈ fnL, ∃ fd, FunD K d.name d.qual d.params d.body d.scope (d.dvs K) (d.kws K) (He.fAd K d.at_) fd
  ex : exB K = true
theorem txt_of {w : World} {K : PySem.W.Frag} {h : Heap} {mg : Str → Option Value} (X : K.In h) (G : h.Ns mainGlobals mg) (c : He.SaysX faL fnL [] tf exB w h K) : Txt K mg := by
  have c1 : He.SaysD faL fnL K := congrArg (fun z : He.AlT => z.1) c.t
  exact ⟨fun f hf => c1.facts hf, fun x hx => He.glo_ok X G (c1.facts hx), fun x hx => He.free_ok X G (c1.facts hx), fun x z hx => He.str_ok X G (c1.facts hx), He.int_ok X G (c1.facts (f := .int "BASE" 16) (by simp [faL, fa0, fa1, fa2, fa3])), fun d hd => c1.defs hd, c.more⟩
/-! ### the hook: what the module's names reach, and the statics -/
def asY (g : Addr → Option Obj) : List Addr := PySem.cStatics :: He.asD g 6
abbrev frY (g : Addr → Option Obj) : PySem.W.Frag := He.frT g (asY g)
def obsY (g : Addr → Option Obj) : He.AlX := (He.obsT faL fnL [] (frY g), exB (frY g) && He.tabsB g tf (frY g))
theorem saysY {w : World} {h : Heap} (e : obsY h.get? = He.valX fnL [] w) : He.SaysX faL fnL [] tf exB w h (frY h.get?) := by
  obtain ⟨more, tabs⟩ := He.ba (show (exB (frY h.get?) && He.tabsB h.get? tf (frY h.get?)) = true from congrArg Prod.snd e)
  have one : ∀ p ∈ tf, PySem.W.codeHdIn (frY h.get?) (He.cT (frY h.get?) p).1 (He.cT (frY h.get?) p).2 = true ∧ ∃ o, h.get? (He.cT (frY h.get?) p).2 = some o ∧ He.emptyTab o = true := by
    intro p hp
    obtain ⟨a, b⟩ := He.ba (List.all_eq_true.mp tabs p hp)
    refine ⟨a, ?_⟩
    revert b
    cases h.get? (He.cT (frY h.get?) p).2 with
    | none => exact fun b => nomatch b
    | some o => exact fun b => ⟨o, rfl, b⟩
  refine { t := congrArg Prod.fst e, more := more, hd := fun p hp => (one p hp).1, out := fun p hp => ?_, empty := fun p hp => ?_ }
  · obtain ⟨_, o, e1, e2⟩ := one p hp
    exact He.frT_none e1 e2
  · obtain ⟨_, o, e1, e2⟩ := one p hp
    rw [e1, He.emptyTab_eq e2]
def hookY : PySem.W.Hook where
  α := He.AlX
  obs := fun s => obsY s.heap.get?
  val := fun w => He.valX fnL [] w
  says := fun w h => ∃ K : PySem.W.Frag, K.In h ∧ He.SaysX faL fnL [] tf exB w h K
  of := fun _ _ e => ⟨_, He.frT_in, saysY e⟩
  keeps := fun _ _ _ ⟨K, hK, c⟩ k => ⟨K, PySem.W.Frag.In.keeps hK k, ⟨c.t, c.more, c.hd, c.out, fun p hp => k _ _ (c.empty p hp)⟩⟩
theorem obsY_eq {g : Addr → Option Obj} {s : Shared} (h : ∀ a, g a = s.heap.get? a) : obsY g = hookY.obs s := congrArg obsY (funext h)
end K10
set_option Elab.async false
set_option linter.all false
set_option maxRecDepth 100000
set_option maxHeartbeats 4000000
/-! What the top has written, a lemma a name. -/
namespace K10
open PySem PySem.Spec PyProof.Rows L2
section
variable {K : PySem.W.Frag} {mg : Str → Option Value}
theorem Txt.at_ (T : Txt K mg) (i : Nat) {f : He.Fa} (h : faL[i]? = some f) : f ∈ faL := List.mem_of_getElem? h
theorem Txt.g_Wrong (T : Txt K mg) : mg "Wrong" = some (.ref (He.ga K "Wrong")) := T.glo _ (T.at_ 0 rfl)
theorem Txt.g_NoWord (T : Txt K mg) : mg "NoWord" = some (.ref (He.ga K "NoWord")) := T.glo _ (T.at_ 1 rfl)
theorem Txt.g_NoText (T : Txt K mg) : mg "NoText" = some (.ref (He.ga K "NoText")) := T.glo _ (T.at_ 2 rfl)
theorem Txt.g_NoNumber (T : Txt K mg) : mg "NoNumber" = some (.ref (He.ga K "NoNumber")) := T.glo _ (T.at_ 3 rfl)
theorem Txt.g_NoSize (T : Txt K mg) : mg "NoSize" = some (.ref (He.ga K "NoSize")) := T.glo _ (T.at_ 4 rfl)
theorem Txt.g_NoLengths (T : Txt K mg) : mg "NoLengths" = some (.ref (He.ga K "NoLengths")) := T.glo _ (T.at_ 5 rfl)
theorem Txt.g_NoQuery (T : Txt K mg) : mg "NoQuery" = some (.ref (He.ga K "NoQuery")) := T.glo _ (T.at_ 6 rfl)
theorem Txt.g_NoCode (T : Txt K mg) : mg "NoCode" = some (.ref (He.ga K "NoCode")) := T.glo _ (T.at_ 7 rfl)
theorem Txt.g_NoRow (T : Txt K mg) : mg "NoRow" = some (.ref (He.ga K "NoRow")) := T.glo _ (T.at_ 8 rfl)
theorem Txt.g_NoEntries (T : Txt K mg) : mg "NoEntries" = some (.ref (He.ga K "NoEntries")) := T.glo _ (T.at_ 9 rfl)
theorem Txt.g_NoQueryText (T : Txt K mg) : mg "NoQueryText" = some (.ref (He.ga K "NoQueryText")) := T.glo _ (T.at_ 10 rfl)
theorem Txt.g_NoPages (T : Txt K mg) : mg "NoPages" = some (.ref (He.ga K "NoPages")) := T.glo _ (T.at_ 11 rfl)
theorem Txt.g_NoName (T : Txt K mg) : mg "NoName" = some (.ref (He.ga K "NoName")) := T.glo _ (T.at_ 12 rfl)
theorem Txt.g_NoQueries (T : Txt K mg) : mg "NoQueries" = some (.ref (He.ga K "NoQueries")) := T.glo _ (T.at_ 13 rfl)
theorem Txt.g_NoShelf (T : Txt K mg) : mg "NoShelf" = some (.ref (He.ga K "NoShelf")) := T.glo _ (T.at_ 14 rfl)
theorem Txt.g_NoDeed (T : Txt K mg) : mg "NoDeed" = some (.ref (He.ga K "NoDeed")) := T.glo _ (T.at_ 15 rfl)
theorem Txt.g_Taken (T : Txt K mg) : mg "Taken" = some (.ref (He.ga K "Taken")) := T.glo _ (T.at_ 16 rfl)
theorem Txt.g_NoPlace (T : Txt K mg) : mg "NoPlace" = some (.ref (He.ga K "NoPlace")) := T.glo _ (T.at_ 17 rfl)
theorem Txt.g_NoSlot (T : Txt K mg) : mg "NoSlot" = some (.ref (He.ga K "NoSlot")) := T.glo _ (T.at_ 18 rfl)
theorem Txt.g_CodeReader (T : Txt K mg) : mg "CodeReader" = some (.ref (He.ga K "CodeReader")) := T.glo _ (T.at_ 19 rfl)
theorem Txt.g_is_whole (T : Txt K mg) : mg "is_whole" = some (.ref (He.ga K "is_whole")) := T.glo _ (T.at_ 20 rfl)
theorem Txt.g_is_count (T : Txt K mg) : mg "is_count" = some (.ref (He.ga K "is_count")) := T.glo _ (T.at_ 21 rfl)
theorem Txt.g_code (T : Txt K mg) : mg "code" = some (.ref (He.ga K "code")) := T.glo _ (T.at_ 22 rfl)
theorem Txt.g_joined_codes (T : Txt K mg) : mg "joined_codes" = some (.ref (He.ga K "joined_codes")) := T.glo _ (T.at_ 23 rfl)
theorem Txt.g_gaps (T : Txt K mg) : mg "gaps" = some (.ref (He.ga K "gaps")) := T.glo _ (T.at_ 24 rfl)
theorem Txt.g_is_rising (T : Txt K mg) : mg "is_rising" = some (.ref (He.ga K "is_rising")) := T.glo _ (T.at_ 25 rfl)
theorem Txt.g_is_entry (T : Txt K mg) : mg "is_entry" = some (.ref (He.ga K "is_entry")) := T.glo _ (T.at_ 26 rfl)
theorem Txt.g_look_entries (T : Txt K mg) : mg "look_entries" = some (.ref (He.ga K "look_entries")) := T.glo _ (T.at_ 27 rfl)
theorem Txt.g_code_entries (T : Txt K mg) : mg "code_entries" = some (.ref (He.ga K "code_entries")) := T.glo _ (T.at_ 28 rfl)
theorem Txt.g_decode_entries (T : Txt K mg) : mg "decode_entries" = some (.ref (He.ga K "decode_entries")) := T.glo _ (T.at_ 29 rfl)
theorem Txt.g__law_pool (T : Txt K mg) : mg "_law_pool" = some (.ref (He.ga K "_law_pool")) := T.glo _ (T.at_ 30 rfl)
theorem Txt.g__law_take (T : Txt K mg) : mg "_law_take" = some (.ref (He.ga K "_law_take")) := T.glo _ (T.at_ 31 rfl)
theorem Txt.g__law_entries (T : Txt K mg) : mg "_law_entries" = some (.ref (He.ga K "_law_entries")) := T.glo _ (T.at_ 32 rfl)
theorem Txt.g__law_code (T : Txt K mg) : mg "_law_code" = some (.ref (He.ga K "_law_code")) := T.glo _ (T.at_ 33 rfl)
theorem Txt.g__law_gaps (T : Txt K mg) : mg "_law_gaps" = some (.ref (He.ga K "_law_gaps")) := T.glo _ (T.at_ 34 rfl)
theorem Txt.g__law_coded (T : Txt K mg) : mg "_law_coded" = some (.ref (He.ga K "_law_coded")) := T.glo _ (T.at_ 35 rfl)
theorem Txt.g__law_kind (T : Txt K mg) : mg "_law_kind" = some (.ref (He.ga K "_law_kind")) := T.glo _ (T.at_ 36 rfl)
theorem Txt.g__law_how (T : Txt K mg) : mg "_law_how" = some (.ref (He.ga K "_law_how")) := T.glo _ (T.at_ 37 rfl)
theorem Txt.g__law_number_at (T : Txt K mg) : mg "_law_number_at" = some (.ref (He.ga K "_law_number_at")) := T.glo _ (T.at_ 38 rfl)
theorem Txt.g__law_rising_at (T : Txt K mg) : mg "_law_rising_at" = some (.ref (He.ga K "_law_rising_at")) := T.glo _ (T.at_ 39 rfl)
theorem Txt.g__law_due (T : Txt K mg) : mg "_law_due" = some (.ref (He.ga K "_law_due")) := T.glo _ (T.at_ 40 rfl)
theorem Txt.g__law_right (T : Txt K mg) : mg "_law_right" = some (.ref (He.ga K "_law_right")) := T.glo _ (T.at_ 41 rfl)
theorem Txt.g_law (T : Txt K mg) : mg "law" = some (.ref (He.ga K "law")) := T.glo _ (T.at_ 42 rfl)
theorem Txt.z_IndexError (T : Txt K mg) : mg "IndexError" = none := T.free _ (T.at_ 43 rfl)
theorem Txt.z_ValueError (T : Txt K mg) : mg "ValueError" = none := T.free _ (T.at_ 44 rfl)
theorem Txt.z_abs (T : Txt K mg) : mg "abs" = none := T.free _ (T.at_ 45 rfl)
theorem Txt.z_all (T : Txt K mg) : mg "all" = none := T.free _ (T.at_ 46 rfl)
theorem Txt.z_bool (T : Txt K mg) : mg "bool" = none := T.free _ (T.at_ 47 rfl)
theorem Txt.z_divmod (T : Txt K mg) : mg "divmod" = none := T.free _ (T.at_ 48 rfl)
theorem Txt.z_enumerate (T : Txt K mg) : mg "enumerate" = none := T.free _ (T.at_ 49 rfl)
theorem Txt.z_int (T : Txt K mg) : mg "int" = none := T.free _ (T.at_ 50 rfl)
theorem Txt.z_isinstance (T : Txt K mg) : mg "isinstance" = none := T.free _ (T.at_ 51 rfl)
theorem Txt.z_len (T : Txt K mg) : mg "len" = none := T.free _ (T.at_ 52 rfl)
theorem Txt.z_list (T : Txt K mg) : mg "list" = none := T.free _ (T.at_ 53 rfl)
theorem Txt.z_max (T : Txt K mg) : mg "max" = none := T.free _ (T.at_ 54 rfl)
theorem Txt.z_min (T : Txt K mg) : mg "min" = none := T.free _ (T.at_ 55 rfl)
theorem Txt.z_range (T : Txt K mg) : mg "range" = none := T.free _ (T.at_ 56 rfl)
theorem Txt.z_str (T : Txt K mg) : mg "str" = none := T.free _ (T.at_ 57 rfl)
theorem Txt.z_tuple (T : Txt K mg) : mg "tuple" = none := T.free _ (T.at_ 58 rfl)
theorem Txt.z_zip (T : Txt K mg) : mg "zip" = none := T.free _ (T.at_ 59 rfl)
theorem Txt.s_ENDS (T : Txt K mg) : ∃ t, mg "ENDS" = some (.str "abcdefghijklmnop" t) := T.str _ _ (T.at_ 60 rfl)
theorem Txt.s_FURTHER (T : Txt K mg) : ∃ t, mg "FURTHER" = some (.str "ABCDEFGHIJKLMNOP" t) := T.str _ _ (T.at_ 61 rfl)
theorem Txt.cls (T : Txt K mg) : Cls K (He.ga K "CodeReader") := He.cls_ok (T.fact _ (T.at_ 63 rfl))
theorem Txt.noat_text (T : Txt K mg) : NoAttr K (He.ga K "CodeReader") "text" := He.noat_ok (T.fact _ (T.at_ 64 rfl))
theorem Txt.noat_at (T : Txt K mg) : NoAttr K (He.ga K "CodeReader") "at" := He.noat_ok (T.fact _ (T.at_ 65 rfl))
theorem Txt.m_is_done (T : Txt K mg) : Meth K (He.ga K "CodeReader") "is_done" (He.ma K (He.ga K "CodeReader") "is_done") := He.meth_ok (T.fact _ (T.at_ 66 rfl))
theorem Txt.m_next_number (T : Txt K mg) : Meth K (He.ga K "CodeReader") "next_number" (He.ma K (He.ga K "CodeReader") "next_number") := He.meth_ok (T.fact _ (T.at_ 67 rfl))
theorem Txt.m_rising (T : Txt K mg) : Meth K (He.ga K "CodeReader") "rising" (He.ma K (He.ga K "CodeReader") "rising") := He.meth_ok (T.fact _ (T.at_ 68 rfl))
theorem Txt.mkr (T : Txt K mg) : Mk K (He.ga K "CodeReader") (He.ma K (He.ga K "CodeReader") "__init__") := He.mkr_ok (T.fact _ (T.at_ 69 rfl))
theorem Txt.k_is_whole (T : Txt K mg) : PySem.W.keepIn K (.ref (He.ga K "is_whole")) = true := He.keep_ok (T.fact _ (T.at_ 70 rfl))
theorem Txt.k_is_count (T : Txt K mg) : PySem.W.keepIn K (.ref (He.ga K "is_count")) = true := He.keep_ok (T.fact _ (T.at_ 71 rfl))
theorem Txt.k_code (T : Txt K mg) : PySem.W.keepIn K (.ref (He.ga K "code")) = true := He.keep_ok (T.fact _ (T.at_ 72 rfl))
theorem Txt.k_joined_codes (T : Txt K mg) : PySem.W.keepIn K (.ref (He.ga K "joined_codes")) = true := He.keep_ok (T.fact _ (T.at_ 73 rfl))
theorem Txt.k_gaps (T : Txt K mg) : PySem.W.keepIn K (.ref (He.ga K "gaps")) = true := He.keep_ok (T.fact _ (T.at_ 74 rfl))
theorem Txt.k_is_rising (T : Txt K mg) : PySem.W.keepIn K (.ref (He.ga K "is_rising")) = true := He.keep_ok (T.fact _ (T.at_ 75 rfl))
theorem Txt.k_is_entry (T : Txt K mg) : PySem.W.keepIn K (.ref (He.ga K "is_entry")) = true := He.keep_ok (T.fact _ (T.at_ 76 rfl))
theorem Txt.k_look_entries (T : Txt K mg) : PySem.W.keepIn K (.ref (He.ga K "look_entries")) = true := He.keep_ok (T.fact _ (T.at_ 77 rfl))
theorem Txt.k_code_entries (T : Txt K mg) : PySem.W.keepIn K (.ref (He.ga K "code_entries")) = true := He.keep_ok (T.fact _ (T.at_ 78 rfl))
theorem Txt.k_decode_entries (T : Txt K mg) : PySem.W.keepIn K (.ref (He.ga K "decode_entries")) = true := He.keep_ok (T.fact _ (T.at_ 79 rfl))
theorem Txt.k__law_pool (T : Txt K mg) : PySem.W.keepIn K (.ref (He.ga K "_law_pool")) = true := He.keep_ok (T.fact _ (T.at_ 80 rfl))
theorem Txt.k__law_take (T : Txt K mg) : PySem.W.keepIn K (.ref (He.ga K "_law_take")) = true := He.keep_ok (T.fact _ (T.at_ 81 rfl))
theorem Txt.k__law_entries (T : Txt K mg) : PySem.W.keepIn K (.ref (He.ga K "_law_entries")) = true := He.keep_ok (T.fact _ (T.at_ 82 rfl))
theorem Txt.k__law_code (T : Txt K mg) : PySem.W.keepIn K (.ref (He.ga K "_law_code")) = true := He.keep_ok (T.fact _ (T.at_ 83 rfl))
theorem Txt.k__law_gaps (T : Txt K mg) : PySem.W.keepIn K (.ref (He.ga K "_law_gaps")) = true := He.keep_ok (T.fact _ (T.at_ 84 rfl))
theorem Txt.k__law_coded (T : Txt K mg) : PySem.W.keepIn K (.ref (He.ga K "_law_coded")) = true := He.keep_ok (T.fact _ (T.at_ 85 rfl))
theorem Txt.k__law_kind (T : Txt K mg) : PySem.W.keepIn K (.ref (He.ga K "_law_kind")) = true := He.keep_ok (T.fact _ (T.at_ 86 rfl))
theorem Txt.k__law_how (T : Txt K mg) : PySem.W.keepIn K (.ref (He.ga K "_law_how")) = true := He.keep_ok (T.fact _ (T.at_ 87 rfl))
theorem Txt.k__law_number_at (T : Txt K mg) : PySem.W.keepIn K (.ref (He.ga K "_law_number_at")) = true := He.keep_ok (T.fact _ (T.at_ 88 rfl))
theorem Txt.k__law_rising_at (T : Txt K mg) : PySem.W.keepIn K (.ref (He.ga K "_law_rising_at")) = true := He.keep_ok (T.fact _ (T.at_ 89 rfl))
theorem Txt.k__law_due (T : Txt K mg) : PySem.W.keepIn K (.ref (He.ga K "_law_due")) = true := He.keep_ok (T.fact _ (T.at_ 90 rfl))
theorem Txt.k__law_right (T : Txt K mg) : PySem.W.keepIn K (.ref (He.ga K "_law_right")) = true := He.keep_ok (T.fact _ (T.at_ 91 rfl))
theorem Txt.k_law (T : Txt K mg) : PySem.W.keepIn K (.ref (He.ga K "law")) = true := He.keep_ok (T.fact _ (T.at_ 92 rfl))
theorem Txt.k_NoCode (T : Txt K mg) : PySem.W.keepIn K (.ref (He.ga K "NoCode")) = true := He.keep_ok (T.fact _ (T.at_ 93 rfl))
theorem Txt.k_CodeReader (T : Txt K mg) : PySem.W.keepIn K (.ref (He.ga K "CodeReader")) = true := He.keep_ok (T.fact _ (T.at_ 94 rfl))
/-! ### the defs -/
abbrev FnP (K : PySem.W.Frag) (x qual : Str) (st : Stmt) (f : Addr) (fd : FuncData) : Prop := FunD K x qual (defArgs st) (defBody st) (defScope st) [] [] f fd
theorem Txt.f_NoCodeDinitD (T : Txt K mg) : ∃ fd, FunD K "__init__" "NoCode.__init__" (defArgs s_NoCodeDinitD) (defBody s_NoCodeDinitD) (defScope s_NoCodeDinitD) [.non] [] (He.ma K (He.ga K "NoCode") "__init__") fd := T.fn d_NoCodeDinitD (List.mem_of_getElem? (i := 0) rfl)
theorem Txt.f_is_whole (T : Txt K mg) : ∃ fd, FnP K "is_whole" "is_whole" s_is_whole (He.ga K "is_whole") fd ∧ Binds K fd ["thing"] [] := by
  obtain ⟨fd, F⟩ := T.fn d_is_whole (List.mem_of_getElem? (i := 1) rfl)
  exact ⟨fd, F, FunD.bindsN (ps := ["thing"]) F fun _ _ _ _ _ _ us hl => match us, hl with | [_], _ => rfl⟩
theorem Txt.f_is_count (T : Txt K mg) : ∃ fd, FnP K "is_count" "is_count" s_is_count (He.ga K "is_count") fd ∧ Binds K fd ["thing"] [] := by
  obtain ⟨fd, F⟩ := T.fn d_is_count (List.mem_of_getElem? (i := 2) rfl)
  exact ⟨fd, F, FunD.bindsN (ps := ["thing"]) F fun _ _ _ _ _ _ us hl => match us, hl with | [_], _ => rfl⟩
theorem Txt.f_code (T : Txt K mg) : ∃ fd, FnP K "code" "code" s_code (He.ga K "code") fd ∧ Binds K fd ["number"] [] := by
  obtain ⟨fd, F⟩ := T.fn d_code (List.mem_of_getElem? (i := 3) rfl)
  exact ⟨fd, F, FunD.bindsN (ps := ["number"]) F fun _ _ _ _ _ _ us hl => match us, hl with | [_], _ => rfl⟩
theorem Txt.f_joined_codes (T : Txt K mg) : ∃ fd, FnP K "joined_codes" "joined_codes" s_joined_codes (He.ga K "joined_codes") fd ∧ Binds K fd ["numbers"] [] := by
  obtain ⟨fd, F⟩ := T.fn d_joined_codes (List.mem_of_getElem? (i := 4) rfl)
  exact ⟨fd, F, FunD.bindsN (ps := ["numbers"]) F fun _ _ _ _ _ _ us hl => match us, hl with | [_], _ => rfl⟩
theorem Txt.f_CodeReaderDinitD (T : Txt K mg) : ∃ fd, FnP K "__init__" "CodeReader.__init__" s_CodeReaderDinitD (He.ma K (He.ga K "CodeReader") "__init__") fd ∧ Binds K fd ["self", "text"] [] := by
  obtain ⟨fd, F⟩ := T.fn d_CodeReaderDinitD (List.mem_of_getElem? (i := 5) rfl)
  exact ⟨fd, F, FunD.bindsN (ps := ["self", "text"]) F fun _ _ _ _ _ _ us hl => match us, hl with | [_, _], _ => rfl⟩
theorem Txt.f_CodeReaderis_done (T : Txt K mg) : ∃ fd, FnP K "is_done" "CodeReader.is_done" s_CodeReaderis_done (He.ma K (He.ga K "CodeReader") "is_done") fd ∧ Binds K fd ["self"] [] := by
  obtain ⟨fd, F⟩ := T.fn d_CodeReaderis_done (List.mem_of_getElem? (i := 6) rfl)
  exact ⟨fd, F, FunD.bindsN (ps := ["self"]) F fun _ _ _ _ _ _ us hl => match us, hl with | [_], _ => rfl⟩
theorem Txt.f_CodeReadernext_number (T : Txt K mg) : ∃ fd, FnP K "next_number" "CodeReader.next_number" s_CodeReadernext_number (He.ma K (He.ga K "CodeReader") "next_number") fd ∧ Binds K fd ["self"] [] := by
  obtain ⟨fd, F⟩ := T.fn d_CodeReadernext_number (List.mem_of_getElem? (i := 7) rfl)
  exact ⟨fd, F, FunD.bindsN (ps := ["self"]) F fun _ _ _ _ _ _ us hl => match us, hl with | [_], _ => rfl⟩
theorem Txt.f_CodeReaderrising (T : Txt K mg) : ∃ fd, FnP K "rising" "CodeReader.rising" s_CodeReaderrising (He.ma K (He.ga K "CodeReader") "rising") fd ∧ Binds K fd ["self", "many"] [] := by
  obtain ⟨fd, F⟩ := T.fn d_CodeReaderrising (List.mem_of_getElem? (i := 8) rfl)
  exact ⟨fd, F, FunD.bindsN (ps := ["self", "many"]) F fun _ _ _ _ _ _ us hl => match us, hl with | [_, _], _ => rfl⟩
theorem Txt.f_gaps (T : Txt K mg) : ∃ fd, FnP K "gaps" "gaps" s_gaps (He.ga K "gaps") fd ∧ Binds K fd ["numbers"] [] := by
  obtain ⟨fd, F⟩ := T.fn d_gaps (List.mem_of_getElem? (i := 9) rfl)
  exact ⟨fd, F, FunD.bindsN (ps := ["numbers"]) F fun _ _ _ _ _ _ us hl => match us, hl with | [_], _ => rfl⟩
theorem Txt.f_is_rising (T : Txt K mg) : ∃ fd, FnP K "is_rising" "is_rising" s_is_rising (He.ga K "is_rising") fd ∧ Binds K fd ["numbers"] [] := by
  obtain ⟨fd, F⟩ := T.fn d_is_rising (List.mem_of_getElem? (i := 10) rfl)
  exact ⟨fd, F, FunD.bindsN (ps := ["numbers"]) F fun _ _ _ _ _ _ us hl => match us, hl with | [_], _ => rfl⟩
theorem Txt.f_is_entry (T : Txt K mg) : ∃ fd, FnP K "is_entry" "is_entry" s_is_entry (He.ga K "is_entry") fd ∧ Binds K fd ["thing"] [] := by
  obtain ⟨fd, F⟩ := T.fn d_is_entry (List.mem_of_getElem? (i := 11) rfl)
  exact ⟨fd, F, FunD.bindsN (ps := ["thing"]) F fun _ _ _ _ _ _ us hl => match us, hl with | [_], _ => rfl⟩
theorem Txt.f_look_entries (T : Txt K mg) : ∃ fd, FnP K "look_entries" "look_entries" s_look_entries (He.ga K "look_entries") fd ∧ Binds K fd ["entries"] [] := by
  obtain ⟨fd, F⟩ := T.fn d_look_entries (List.mem_of_getElem? (i := 12) rfl)
  exact ⟨fd, F, FunD.bindsN (ps := ["entries"]) F fun _ _ _ _ _ _ us hl => match us, hl with | [_], _ => rfl⟩
theorem Txt.f_code_entries (T : Txt K mg) : ∃ fd, FnP K "code_entries" "code_entries" s_code_entries (He.ga K "code_entries") fd ∧ Binds K fd ["entries"] [] := by
  obtain ⟨fd, F⟩ := T.fn d_code_entries (List.mem_of_getElem? (i := 13) rfl)
  exact ⟨fd, F, FunD.bindsN (ps := ["entries"]) F fun _ _ _ _ _ _ us hl => match us, hl with | [_], _ => rfl⟩
theorem Txt.f_decode_entries (T : Txt K mg) : ∃ fd, FnP K "decode_entries" "decode_entries" s_decode_entries (He.ga K "decode_entries") fd ∧ Binds K fd ["text"] [] := by
  obtain ⟨fd, F⟩ := T.fn d_decode_entries (List.mem_of_getElem? (i := 14) rfl)
  exact ⟨fd, F, FunD.bindsN (ps := ["text"]) F fun _ _ _ _ _ _ us hl => match us, hl with | [_], _ => rfl⟩
theorem Txt.f__law_pool (T : Txt K mg) : ∃ fd, FnP K "_law_pool" "_law_pool" s__law_pool (He.ga K "_law_pool") fd ∧ Binds K fd ["_law_script", "_law_at"] [] := by
  obtain ⟨fd, F⟩ := T.fn d__law_pool (List.mem_of_getElem? (i := 15) rfl)
  exact ⟨fd, F, FunD.bindsN (ps := ["_law_script", "_law_at"]) F fun _ _ _ _ _ _ us hl => match us, hl with | [_, _], _ => rfl⟩
theorem Txt.f__law_take (T : Txt K mg) : ∃ fd, FnP K "_law_take" "_law_take" s__law_take (He.ga K "_law_take") fd ∧ Binds K fd ["_law_pool_here", "_law_many"] [] := by
  obtain ⟨fd, F⟩ := T.fn d__law_take (List.mem_of_getElem? (i := 16) rfl)
  exact ⟨fd, F, FunD.bindsN (ps := ["_law_pool_here", "_law_many"]) F fun _ _ _ _ _ _ us hl => match us, hl with | [_, _], _ => rfl⟩
theorem Txt.f__law_entries (T : Txt K mg) : ∃ fd, FnP K "_law_entries" "_law_entries" s__law_entries (He.ga K "_law_entries") fd ∧ Binds K fd ["_law_pool_here", "_law_many", "_law_most"] [] := by
  obtain ⟨fd, F⟩ := T.fn d__law_entries (List.mem_of_getElem? (i := 17) rfl)
  exact ⟨fd, F, FunD.bindsN (ps := ["_law_pool_here", "_law_many", "_law_most"]) F fun _ _ _ _ _ _ us hl => match us, hl with | [_, _, _], _ => rfl⟩
theorem Txt.f__law_code (T : Txt K mg) : ∃ fd, FnP K "_law_code" "_law_code" s__law_code (He.ga K "_law_code") fd ∧ Binds K fd ["_law_number"] [] := by
  obtain ⟨fd, F⟩ := T.fn d__law_code (List.mem_of_getElem? (i := 18) rfl)
  exact ⟨fd, F, FunD.bindsN (ps := ["_law_number"]) F fun _ _ _ _ _ _ us hl => match us, hl with | [_], _ => rfl⟩
theorem Txt.f__law_gaps (T : Txt K mg) : ∃ fd, FnP K "_law_gaps" "_law_gaps" s__law_gaps (He.ga K "_law_gaps") fd ∧ Binds K fd ["_law_numbers"] [] := by
  obtain ⟨fd, F⟩ := T.fn d__law_gaps (List.mem_of_getElem? (i := 19) rfl)
  exact ⟨fd, F, FunD.bindsN (ps := ["_law_numbers"]) F fun _ _ _ _ _ _ us hl => match us, hl with | [_], _ => rfl⟩
theorem Txt.f__law_coded (T : Txt K mg) : ∃ fd, FnP K "_law_coded" "_law_coded" s__law_coded (He.ga K "_law_coded") fd ∧ Binds K fd ["_law_entries_here"] [] := by
  obtain ⟨fd, F⟩ := T.fn d__law_coded (List.mem_of_getElem? (i := 20) rfl)
  exact ⟨fd, F, FunD.bindsN (ps := ["_law_entries_here"]) F fun _ _ _ _ _ _ us hl => match us, hl with | [_], _ => rfl⟩
theorem Txt.f__law_kind (T : Txt K mg) : ∃ fd, FnP K "_law_kind" "_law_kind" s__law_kind (He.ga K "_law_kind") fd ∧ Binds K fd ["_law_e"] [] := by
  obtain ⟨fd, F⟩ := T.fn d__law_kind (List.mem_of_getElem? (i := 21) rfl)
  exact ⟨fd, F, FunD.bindsN (ps := ["_law_e"]) F fun _ _ _ _ _ _ us hl => match us, hl with | [_], _ => rfl⟩
theorem Txt.f__law_how (T : Txt K mg) : ∃ fd, FnP K "_law_how" "_law_how" s__law_how (He.ga K "_law_how") fd ∧ Binds K fd ["_law_deed"] [] := by
  obtain ⟨fd, F⟩ := T.fn d__law_how (List.mem_of_getElem? (i := 22) rfl)
  exact ⟨fd, F, FunD.bindsN (ps := ["_law_deed"]) F fun _ _ _ _ _ _ us hl => match us, hl with | [_], _ => rfl⟩
theorem Txt.f__law_number_at (T : Txt K mg) : ∃ fd, FnP K "_law_number_at" "_law_number_at" s__law_number_at (He.ga K "_law_number_at") fd ∧ Binds K fd ["_law_text", "_law_at"] [] := by
  obtain ⟨fd, F⟩ := T.fn d__law_number_at (List.mem_of_getElem? (i := 23) rfl)
  exact ⟨fd, F, FunD.bindsN (ps := ["_law_text", "_law_at"]) F fun _ _ _ _ _ _ us hl => match us, hl with | [_, _], _ => rfl⟩
theorem Txt.f__law_rising_at (T : Txt K mg) : ∃ fd, FnP K "_law_rising_at" "_law_rising_at" s__law_rising_at (He.ga K "_law_rising_at") fd ∧ Binds K fd ["_law_text", "_law_at", "_law_many"] [] := by
  obtain ⟨fd, F⟩ := T.fn d__law_rising_at (List.mem_of_getElem? (i := 24) rfl)
  exact ⟨fd, F, FunD.bindsN (ps := ["_law_text", "_law_at", "_law_many"]) F fun _ _ _ _ _ _ us hl => match us, hl with | [_, _, _], _ => rfl⟩
theorem Txt.f__law_due (T : Txt K mg) : ∃ fd, FnP K "_law_due" "_law_due" s__law_due (He.ga K "_law_due") fd ∧ Binds K fd ["_law_text"] [] := by
  obtain ⟨fd, F⟩ := T.fn d__law_due (List.mem_of_getElem? (i := 25) rfl)
  exact ⟨fd, F, FunD.bindsN (ps := ["_law_text"]) F fun _ _ _ _ _ _ us hl => match us, hl with | [_], _ => rfl⟩
theorem Txt.f__law_right (T : Txt K mg) : ∃ fd, FnP K "_law_right" "_law_right" s__law_right (He.ga K "_law_right") fd ∧ Binds K fd ["_law_text"] [] := by
  obtain ⟨fd, F⟩ := T.fn d__law_right (List.mem_of_getElem? (i := 26) rfl)
  exact ⟨fd, F, FunD.bindsN (ps := ["_law_text"]) F fun _ _ _ _ _ _ us hl => match us, hl with | [_], _ => rfl⟩
theorem Txt.f_law (T : Txt K mg) : ∃ fd, FnP K "law" "law" s_law (He.ga K "law") fd ∧ Binds K fd ["_law_script"] [] := by
  obtain ⟨fd, F⟩ := T.fn d_law (List.mem_of_getElem? (i := 27) rfl)
  exact ⟨fd, F, FunD.bindsN (ps := ["_law_script"]) F fun _ _ _ _ _ _ us hl => match us, hl with | [_], _ => rfl⟩
/-! ### the error's class -/
structure Err (K : PySem.W.Frag) : Prop where
  oex : OexC K (nc K)
  noAt : PySem.W.findIn K (.ref (nc K)) "at" = some none
  iC : PySem.W.findIn K (.ref (nc K)) "__init__" = some (some (.ref (He.ma K (nc K) "__init__")))
  tI : PySem.W.typeIn K (.ref (He.ma K (nc K) "__init__")) = some (.type "function")
  rdW : ClX.CRead K (He.ga K "Wrong") (.type "type")
  atW : PySem.W.findCls K (.ref (He.ga K "Wrong")) (.type "type") "__init__" = some (.val (.builtin "ValueError.__init__"))
  xf : XfC K (nc K)
  exc : ExcC K (nc K)
  ve : PySem.W.kitOne K (.ref (nc K)) (.type "ValueError") = some true
  kind : ∀ q ∈ kinds, PySem.W.kitOne K (.ref (nc K)) (.ref (He.ga K q.1)) = some q.2
  exm : ∀ q ∈ exms, PySem.W.exmOne K (.ref (nc K)) (.ref (He.ga K q.1)) = some q.2
theorem Txt.two (T : Txt K mg) : (He.cT K ("_law_right", none)).2 ≠ (He.cT K ("law", none)).2 := by
  have h := T.ex
  unfold exB at h
  exact of_decide_eq_true (Bool.and_eq_true_iff.mp h).2
theorem Txt.err (T : Txt K mg) : Err K := by
  have h := T.ex
  unfold exB at h
  have h := (Bool.and_eq_true_iff.mp h).1
  unfold exA at h
  simp only [Bool.and_eq_true, decide_eq_true_eq, List.all_eq_true] at h
  obtain ⟨h1, h2, h3, h4, h5, h6, h7, h8, h9, h10, h11, h12, h13, h14, h15, h16, h17, h18, h19, h20⟩ := h
  exact ⟨⟨oexB_ok h1, He.eqO_ok h2, h3, h4, T.k_NoCode⟩, He.eqO_ok h5, He.eqO_ok h6, h7, ⟨h8, He.eqO_ok h9⟩, cfB_ok h10, ⟨He.eqO_ok h11, He.eqO_ok h12, h3, h13⟩, ⟨He.eqO_ok h11, He.eqO_ok h12, h3, h13, He.eqO_ok h14, He.eqO_ok h15, h16, h17⟩, h18, h19, h20⟩
end
/-! ### a promise with its binding -/
structure Def (P : Program) (w : World) (K : PySem.W.Frag) (mg : Str → Option Value) (base : Heap) (CX : CXT) (k : Nat) (f : Addr) (ps : List Str) (sp : Sp) : Prop where
  ex : ∃ fd, Binds K fd ps [] ∧ FnOk P w K mg base CX k f fd ps sp
section
variable {X : Cx} {CX : CXT} {k : Nat} {f C : Addr} {ps : List Str} {sp : Sp} {E : XK} {x m : Str} {p pos apos : Pos} {e o : Expr} {es : List Expr} {ta : TE} {t : TA}
theorem pe_callD (D : Def X.prog X.w X.K X.mg X.base CX k f ps sp) (hr : Room k X.A) (hg : Gl X x) (hm : X.mg x = some (.ref f)) (hk : PySem.W.keepIn X.K (.ref f) = true) (hx : Passes CX X E)
    (ha : PA X (e :: es) t) (hdb : (x == ("__debug__" : Str)) = false := by decide) (he : starEach (e :: es) X.env = (false, eval e X.env) :: starEach es X.env := by rfl) (hpl : (backTo pos (starEach es X.env)).any (·.1) = false := by rfl) :
    PE X (.Call (.Name x p) (e :: es) [] pos) (tCall sp [] E t) := by
  obtain ⟨fd, b, F⟩ := D.ex
  exact pe_call F hr hg hm hk b .nil hx ha hdb he hpl
theorem pe_methD {pl : Sem Bool} (he : PE X o ta) (c : Cls X.K C) (hm : Meth X.K C m f) (D : Def X.prog X.w X.K X.mg X.base CX k f ps sp) (hr : Room k X.A) (hx : Passes CX X E) (ha : PA X (e :: es) t)
    (hst : starEach (e :: es) X.env = (false, eval e X.env) :: starEach es X.env := by rfl) (hpl : (backTo pos (starEach es X.env)).any (·.1) = false := by rfl)
    (ht : eval (.Call (.Attribute o m apos) (e :: es) [] pos) X.env = (do
      let ov ← eval o X.env
      standAt apos.atName
      let (f, first) ← holding [ov] (getMethod ov m pl)
      callWith pos f first (backTo pos (starEach (e :: es) X.env)) (backToKw pos (keywordEach [] X.env))) := by rfl) :
    PE X (.Call (.Attribute o m apos) (e :: es) [] pos) (tMeth C m sp [] E ta t) := by
  obtain ⟨fd, b, F⟩ := D.ex
  exact pe_meth he c hm F hr b .nil hx ha hst hpl ht
theorem pe_methD0 {pl : Sem Bool} (he : PE X o ta) (c : Cls X.K C) (hm : Meth X.K C m f) (D : Def X.prog X.w X.K X.mg X.base CX k f ps sp) (hr : Room k X.A) (hx : Passes CX X E)
    (ht : eval (.Call (.Attribute o m apos) [] [] pos) X.env = (do
      let ov ← eval o X.env
      standAt apos.atName
      let (f, first) ← holding [ov] (getMethod ov m pl)
      callWith pos f first (backTo pos (starEach [] X.env)) (backToKw pos (keywordEach [] X.env))) := by rfl) :
    PE X (.Call (.Attribute o m apos) [] [] pos) (tMeth C m sp [] E ta tNil) := by
  obtain ⟨fd, b, F⟩ := D.ex
  exact pe_meth0 he c hm F hr b .nil hx ht
theorem pe_makeD (M : Mk X.K C f) (D : Def X.prog X.w X.K X.mg X.base CX k f ps sp) (hr : Room (k + 1) X.A) (hg : Gl X x) (hm : X.mg x = some (.ref C)) (hx : Passes CX X E)
    (ha : PA X (e :: es) t) (hdb : (x == ("__debug__" : Str)) = false := by decide) (he : starEach (e :: es) X.env = (false, eval e X.env) :: starEach es X.env := by rfl) (hpl : (backTo pos (starEach es X.env)).any (·.1) = false := by rfl) :
    PE X (.Call (.Name x p) (e :: es) [] pos) (tMake C sp [] E t) := by
  obtain ⟨fd, b, F⟩ := D.ex
  exact pe_make M F hr hg hm b .nil hx ha hdb he hpl
end
end K10
set_option Elab.async false
set_option linter.all false
set_option maxRecDepth 100000
set_option maxHeartbeats 4000000
/-! Texts as lists of signs; heaps. -/
namespace K10
open PySem PySem.Spec PyProof.Rows L2
abbrev S (l : List Nat) : Str := ⟨l.toArray⟩
theorem S_app (a b : List Nat) : S a ++ S b = S (a ++ b) := by
  show Str.append (S a) (S b) = S (a ++ b)
  unfold Str.append
  simp
theorem S_len (a : List Nat) : (S a).length = a.length := by
  show (a.toArray).size = a.length
  simp
theorem S_inj {a b : List Nat} (h : S a = S b) : a = b := by
  have := congrArg (fun s : Str => s.cps.toList) h
  simpa using this
theorem S_of (x : Str) : x = S x.cps.toList := by
  cases x
  simp
def endL : List Nat := (List.range 16).map (97 + ·)
def furL : List Nat := (List.range 16).map (65 + ·)
theorem ends_S : (PySem.Str.ofString "abcdefghijklmnop") = S endL := by decide +kernel
theorem furs_S : (PySem.Str.ofString "ABCDEFGHIJKLMNOP") = S furL := by decide +kernel
theorem end_at {i : Nat} (h : i < 16) : (PySem.Str.ofString "abcdefghijklmnop").cps[i]? = some (97 + i) := by
  rw [ends_S]
  show (endL.toArray)[i]? = _
  simp [endL, h]
theorem fur_at {i : Nat} (h : i < 16) : (PySem.Str.ofString "ABCDEFGHIJKLMNOP").cps[i]? = some (65 + i) := by
  rw [furs_S]
  show (furL.toArray)[i]? = _
  simp [furL, h]
theorem same_upd {H : Hp} {p : Addr} {o : HO} (h : H p = none) : Same H (upd H p o) := fun b x e => by
  rw [upd_ne (ne_of_none e h)]
  exact e
theorem small_line {n : Nat} (h : n ≤ 1000000) : n ≤ sizeLine := by
  rw [sizeLine_eq]
  omega
theorem small_line' {n : Nat} (h : n ≤ 1000000) : n < sizeLine := by
  rw [sizeLine_eq]
  omega
theorem take_more {α : Type} : ∀ {l : List α} {i : Nat} {x : α}, l[i]? = some x → l.take (i + 1) = l.take i ++ [x]
  | [], i, x, h => by simp at h
  | a :: l, 0, x, h => by
    have e : a = x := Option.some.inj h
    subst e
    rfl
  | a :: l, i + 1, x, h => by
    have ih := take_more (l := l) (i := i) (x := x) h
    show a :: l.take (i + 1) = a :: l.take i ++ [x]
    rw [ih]
    rfl
theorem map_at {α β : Type} {f : α → β} {l : List α} {i : Nat} {y : β} (h : (l.map f)[i]? = some y) : ∃ x, l[i]? = some x ∧ y = f x := by
  rw [List.getElem?_map] at h
  cases e : l[i]? with
  | none =>
    rw [e] at h
    cases h
  | some z =>
    rw [e] at h
    exact ⟨z, rfl, (Option.some.inj h).symm⟩
section
variable {X : Cx} {x : Str} {pos : Pos}
theorem pe_gI {i : Int} {t : Tok} (hg : Gl X x) (hm : X.mg x = some (.int i t)) (hd : (x == ("__debug__" : Str)) = false := by decide) : PE X (.Name x pos) (tC (.int i)) := pe_glob (v := .int i) hg hm ⟨t, rfl⟩ hd
theorem pe_gS {z : Str} {t : Tok} (hg : Gl X x) (hm : X.mg x = some (.str z t)) (hd : (x == ("__debug__" : Str)) = false := by decide) : PE X (.Name x pos) (tC (.str z)) := pe_glob (v := .str z) hg hm ⟨t, rfl⟩ hd
theorem pe_bT {n : String} (hg : Gl X x) (hm : X.mg x = none) (hv : bootBuiltins x = some (.type n)) (hn : x ≠ "__name__" := by decide) (hd : (x == ("__debug__" : Str)) = false := by decide) : PE X (.Name x pos) (tC (.ty n)) := pe_bltn (v := .ty n) hg hm hv rfl hn hd
end
end K10
set_option Elab.async false
set_option linter.all false
set_option maxRecDepth 100000
set_option maxHeartbeats 4000000
/-! The error's __init__; is_whole, is_count, code, gaps. -/
namespace K10
open PySem PySem.Spec PyProof.Rows L2
section
variable {P : Program} {w : World} {K : PySem.W.Frag} {mg : Str → Option Value} {base : Heap}
theorem sc_ncinit : FnScope ["self", "at"] ["self", "at"] (defScope s_NoCodeDinitD) := ⟨rfl, rfl, rfl, by decide +kernel, rfl, by decide +kernel, by decide +kernel⟩
abbrev fNC (K : PySem.W.Frag) : Addr := He.ma K (He.ga K "NoCode") "__init__"
theorem ok_ncinit (T : Txt K mg) {fd : FuncData} (F : FunD K "__init__" "NoCode.__init__" (defArgs s_NoCodeDinitD) (defBody s_NoCodeDinitD) (defScope s_NoCodeDinitD) [.non] [] (fNC K) fd) : FnOk P w K mg base CX0 1 (fNC K) fd ["self", "at"] (spExcInit "at" (nc K)) := by
  refine F.ok sc_ncinit (fun vs H Q E h => ?_) (fun cdv A outer s H vs Q E hr h => ?_)
  · obtain ⟨a, v, rfl, _⟩ := h
    rfl
  · obtain ⟨a, v, rfl, ha, q⟩ := h
    refine ⟨_, PSs.nox (pss_cons (ps_expr (pe_weinit (by rfl) T.g_Wrong T.err.rdW T.err.atW (pa_cons (pv 0) (pa_cons pe_str pa_nil)))) (pss_one (ps_ost (pv 0) (pv 1)))), ?_⟩
    refine ⟨_, rfl, a, nc K, _, rfl, by decide, T.err.oex, ha, ?_⟩
    exact ⟨_, rfl, _, rfl, a, nc K, rfl, T.err.oex, T.err.noAt, .inl ⟨ha, fun dx n ne => q dx n ne⟩⟩
/-! ### is_whole, is_count -/
theorem sc_whole : FnScope ["thing"] ["thing"] (defScope s_is_whole) := ⟨rfl, rfl, rfl, by decide +kernel, rfl, by decide +kernel, by decide +kernel⟩
def spWhole : Sp := fun vs H Q _ => ∃ n : Int, vs = [.int n] ∧ Q (.bl true) H
theorem ok_is_whole (T : Txt K mg) : Def P w K mg base CX0 1 (He.ga K "is_whole") ["thing"] spWhole := by
  obtain ⟨fd, F, b⟩ := T.f_is_whole
  refine ⟨fd, b, F.ok sc_whole (fun vs H Q E h => ?_) (fun cdv A outer s H vs Q E hr h => ?_)⟩
  · obtain ⟨n, rfl, _⟩ := h
    rfl
  · obtain ⟨n, rfl, q⟩ := h
    refine ⟨_, PSs.nox (pss_one (ps_ret (pe_and (pe_callB call_isi (by rfl) T.z_isinstance (by decide +kernel) (pa_cons (pv 0) (pa_cons (pe_bltn (v := .ty "int") (by rfl) T.z_int (by decide +kernel) rfl) pa_nil)))
      (pe_one (pe_not (pe_callB call_isi (by rfl) T.z_isinstance (by decide +kernel) (pa_cons (pv 0) (pa_cons (pe_bltn (v := .ty "bool") (by rfl) T.z_bool (by decide +kernel) rfl) pa_nil)))))))), ?_⟩
    refine ⟨_, rfl, _, _, _, _, true, rfl, .ty "int", .base (.int n), kit_ty (by decide +kernel), true, rfl, iteT ?_⟩
    exact ⟨_, rfl, _, _, _, _, false, rfl, .ty "bool", .base (.int n), kit_ty (by decide +kernel), false, rfl, q⟩
theorem sc_count : FnScope ["thing"] ["thing"] (defScope s_is_count) := ⟨rfl, rfl, rfl, by decide +kernel, rfl, by decide +kernel, by decide +kernel⟩
def spCount : Sp := fun vs H Q _ => ∃ n : Int, vs = [.int n] ∧ 0 ≤ n ∧ Q (.bl true) H
theorem ok_is_count (T : Txt K mg) : Def P w K mg base CX0 2 (He.ga K "is_count") ["thing"] spCount := by
  obtain ⟨fd, F, b⟩ := T.f_is_count
  refine ⟨fd, b, F.ok sc_count (fun vs H Q E h => ?_) (fun cdv A outer s H vs Q E hr h => ?_)⟩
  · obtain ⟨n, rfl, _⟩ := h
    rfl
  · obtain ⟨n, rfl, hn, q⟩ := h
    refine ⟨_, PSs.nox (pss_one (ps_ret (pe_and (pe_callD (ok_is_whole T) hr (by rfl) T.g_is_whole T.k_is_whole pass0 (pa_cons (pv 0) pa_nil)) (pe_one (pe_cmpR op_ge (pv 0) pe_int (nomark _)))))), ?_⟩
    refine ⟨_, rfl, n, rfl, true, rfl, iteT ?_⟩
    refine ⟨_, rfl, _, _, rfl, rfl, ?_⟩
    show Q (.bl (decide ((0 : Int) ≤ n))) H
    rw [decide_eq_true hn]
    exact q
end
end K10
set_option Elab.async false
set_option linter.all false
set_option maxRecDepth 100000
set_option maxHeartbeats 4000000
/-! code, _law_code. -/
namespace K10
open PySem PySem.Spec PyProof.Rows L2
section
variable {P : Program} {w : World} {K : PySem.W.Frag} {mg : Str → Option Value} {base : Heap}
theorem sc_code : FnScope ["number", "told", "digit"] ["number"] (defScope s_code) := ⟨rfl, rfl, rfl, by decide +kernel, rfl, by decide +kernel, by decide +kernel⟩
def spCode : Sp := fun vs H Q _ => ∃ n : Nat, vs = [.int n] ∧ (cd n).length ≤ 1000000 ∧ ∀ H', Same H H' → Q (.str (S (cd n))) H'
theorem ok_code (T : Txt K mg) : Def P w K mg base CX0 3 (He.ga K "code") ["number"] spCode := by
  obtain ⟨fd, F, b⟩ := T.f_code
  obtain ⟨tE, gE⟩ := T.s_ENDS
  obtain ⟨tF, gF⟩ := T.s_FURTHER
  obtain ⟨tB, gB⟩ := T.base
  refine ⟨fd, b, F.ok sc_code (fun vs H Q E h => ?_) (fun cdv A outer s H vs Q E hr h => ?_)⟩
  · obtain ⟨n, rfl, _⟩ := h
    rfl
  · obtain ⟨n, rfl, hz, q⟩ := h
    refine ⟨_, PSs.nox (pss_cons (ps_if (pt_not (pt_val (pe_callD (ok_is_count T) hr (by rfl) T.g_is_count T.k_is_count pass0 (pa_cons (pv 0) pa_nil)))) (pss_one ps_never) pss_nil)
      (pss_cons (ps_set (i := 1) sc_code.nd rfl (.inl rfl) pe_str)
      (pss_cons (ps_while PassesOwn.never (pt_cmpR op_ge (pv 0) (pe_gI (by rfl) gB) (nomark _))
        (pss_cons (ps_asg (pe_callB call_divmod (by rfl) T.z_divmod (by decide +kernel) (pa_cons (pv 0) (pa_cons (pe_gI (by rfl) gB) pa_nil)))
            (pg_tup rfl (pgs_cons (pg_name (i := 0) sc_code.nd rfl (.inl rfl)) (pgs_cons (pg_name (i := 2) sc_code.nd rfl (.inl rfl)) pgs_nil))))
          (pss_one (ps_aug (i := 1) sc_code.nd rfl (.inl rfl) (pe_item_str (pe_gS (by rfl) gF) (pv 2) (fun _ _ => rfl)) iop_add_str))))
      (pss_one (ps_ret (pe_op op_add_str (pv 1) (pe_item_str (pe_gS (by rfl) gE) (pv 0) (fun _ _ => rfl)))))))), ?_⟩
    refine ⟨_, rfl, n, rfl, Int.natCast_nonneg n, true, rfl, iteF ?_⟩
    refine while_by (fun σ H1 => ∃ (m : Nat) (pre : List Nat) (x : Option V), σ = [some (.int m), some (.str (S pre)), x] ∧ pre ++ cd m = cd n ∧ Same H H1) (fun σ _ => match σ with | some (.int m) :: _ => m.toNat | _ => 0)
      ⟨n, [], none, rfl, rfl, Same.refl H⟩ (fun σ H1 hp => ?_) (fun σ H1 Q1 Q2 h12 hq => ?_)
    · obtain ⟨m, pre, x, rfl, hm, sm⟩ := hp
      refine ⟨_, rfl, m, 16, rfl, rfl, _, rfl, ite2 (fun hc => ?_) (fun hc => ?_)⟩
      · have hge : (16 : Int) ≤ (m : Int) := of_decide_eq_true hc
        have hge' : ¬ m < 16 := by omega
        refine ⟨_, rfl, m, 16, rfl, ⟨by decide, by decide⟩, fun p np => ?_⟩
        have hq : (m : Int) / 16 = ((m / 16 : Nat) : Int) := by omega
        have hmod : (m : Int) % 16 = ((m % 16 : Nat) : Int) := by omega
        refine ⟨p, _, rfl, .inl (.inl upd_same), rfl, _, _, rfl, _, _, rfl, rfl, ?_⟩
        have hlen : pre.length + (cd m).length = (cd n).length := by rw [← List.length_append, hm]
        have hlm : (cd m).length = (cd (m / 16)).length + 1 := by rw [cd_ge hge']; rfl
        refine ⟨_, rfl, _, rfl, _, _, 65 + m % 16, rfl, rfl, by omega, by omega, ?_, ?_, ?_⟩
        · show (m : Int) % 16 < 16
          omega
        · rw [hmod, Int.toNat_natCast]
          exact fur_at (by omega)
        · refine ⟨_, _, rfl, rfl, ?_, ?_⟩
          · rw [S_len]
            show pre.length + 1 ≤ sizeLine
            exact small_line (by omega)
          · refine ⟨⟨m / 16, pre ++ [65 + m % 16], some (.int ((m : Int) % 16)), ?_, ?_, sm.trans (same_upd np)⟩, ?_⟩
            · rw [hq]
              show [some (V.int ((m / 16 : Nat) : Int)), some (V.str (S pre ++ S [65 + m % 16])), some (V.int ((m : Int) % 16))] = _
              rw [S_app]
            · rw [List.append_assoc, ← hm, cd_ge hge']
              rfl
            · show ((m : Int) / 16).toNat < (m : Int).toNat
              omega
      · have hlt : ¬ ((16 : Int) ≤ (m : Int)) := fun z => hc (decide_eq_true z)
        have hlt' : m < 16 := by omega
        have hlen : pre.length + (cd m).length = (cd n).length := by rw [← List.length_append, hm]
        have hlm : (cd m).length = 1 := by rw [cd_lt hlt']; rfl
        refine ⟨_, rfl, _, rfl, _, _, 97 + m, rfl, rfl, by omega, by omega, ?_, ?_, ?_⟩
        · show (m : Int) < 16
          omega
        · rw [Int.toNat_natCast]
          exact end_at hlt'
        · refine ⟨_, _, rfl, rfl, ?_, ?_⟩
          · rw [S_len]
            show pre.length + 1 ≤ sizeLine
            exact small_line (by omega)
          · show Q (.str (S pre ++ S [97 + m])) H1
            rw [S_app, ← cd_lt hlt', hm]
            exact q _ sm
    · obtain ⟨x, e, i, j, ei, ej, k, ek, z⟩ := hq
      exact ⟨x, e, i, j, ei, ej, k, ek, h12 _ _ z⟩
end
end K10
set_option Elab.async false
set_option linter.all false
set_option maxRecDepth 100000
set_option maxHeartbeats 4000000
/-! joined_codes, gaps, _law_gaps. -/
namespace K10
open PySem PySem.Spec PyProof.Rows L2
theorem Same.seqT {K : PySem.W.Frag} {H H' : Hp} {a : Addr} {xs : List V} (e : Same H H') (h : SqT K H a xs) : SqT K H' a xs := by
  rcases h with (h | ⟨o, h⟩) | h
  · exact .inl (.inl (e _ _ h))
  · exact .inl (.inr ⟨o, e _ _ h⟩)
  · exact .inr h
theorem S_cps (l : List Nat) : (S l).cps.toList = l := by simp
theorem join_S : ∀ ls : List (List Nat), Txt.join (PySem.Str.ofString "") (ls.map S) = S ls.flatten := by
  intro ls
  rw [TL.join_eq]
  have h0 : (PySem.Str.ofString "") = S [] := by decide +kernel
  rw [h0]
  induction ls with
  | nil => rfl
  | cons x r ih =>
    cases r with
    | nil =>
      show S x = S (x ++ [])
      rw [List.append_nil]
    | cons y r =>
      show S x ++ S [] ++ Str.join (S []) ((y :: r).map S) = S (x ++ (y :: r).flatten)
      rw [ih, S_app, S_app, List.append_nil]
theorem lens_flat : ∀ ls : List (List Nat), ((ls.map S).map (·.length)).sum = ls.flatten.length
  | [] => rfl
  | x :: r => by
    rw [List.map_cons, List.map_cons, List.sum_cons, lens_flat r, S_len, List.flatten_cons, List.length_append]
def lastD : Int → List Int → Int
  | d, [] => d
  | _, x :: r => lastD x r
theorem lastD_snoc : ∀ (d : Int) (l : List Int) (x : Int), lastD d (l ++ [x]) = x
  | _, [], _ => rfl
  | _, y :: r, x => lastD_snoc y r x
theorem gp_snoc : ∀ (d : Int) (l : List Int) (x : Int), gp d (l ++ [x]) = gp d l ++ [x - lastD d l - 1]
  | _, [], _ => rfl
  | d, y :: r, x => by
    show (y - d - 1) :: gp y (r ++ [x]) = (y - d - 1) :: (gp y r ++ [x - lastD y r - 1])
    rw [gp_snoc]
section
variable {P : Program} {w : World} {K : PySem.W.Frag} {mg : Str → Option Value} {base : Heap}
/-! ### joined_codes -/
theorem sc_joined : FnScope ["numbers", "number"] ["numbers"] (defScope s_joined_codes) := ⟨rfl, rfl, rfl, by decide +kernel, rfl, by decide +kernel, by decide +kernel⟩
def spJoined (K : PySem.W.Frag) : Sp := fun vs H Q _ => ∃ (a : Addr) (ns : List Int), vs = [.ref a] ∧ SqL K H a (ns.map V.int) ∧ (∀ z ∈ ns, 0 ≤ z) ∧ (cds ns).length ≤ 1000000 ∧ ∀ H', Same H H' → Q (.str (S (cds ns))) H'
theorem cd_le_cds {ns : List Int} {z : Int} (h : z ∈ ns) : (cd z.toNat).length ≤ (cds ns).length := by
  induction ns with
  | nil => cases h
  | cons x r ih =>
    show _ ≤ (cd x.toNat ++ cds r).length
    rw [List.length_append]
    rcases List.mem_cons.mp h with e | h
    · rw [e]; omega
    · have := ih h; omega
theorem ok_joined (T : Txt K mg) : Def P w K mg base CX0 4 (He.ga K "joined_codes") ["numbers"] (spJoined K) := by
  obtain ⟨fd, F, b⟩ := T.f_joined_codes
  refine ⟨fd, b, F.ok sc_joined (fun vs H Q E h => ?_) (fun cdv A outer s H vs Q E hr h => ?_)⟩
  · obtain ⟨a, n, rfl, _⟩ := h
    rfl
  · obtain ⟨a, ns, rfl, hS, hnn, hz, q⟩ := h
    have hlen := cds_len ns
    refine ⟨_, PSs.nox (pss_one (ps_ret (pe_join pe_str (pe_lc (own := [("number", 1)]) (g := gName 1) (tt := tYes) (by rfl) sc_joined.nd (pi_list (pv 0)) (blkOk_by (own := [("number", 1)]) (N := ["numbers", "number"]) (sc := defScope s_joined_codes) (by decide +kernel))
      (fun _ _ _ _ _ => pg_name (i := 1) sc_joined.nd rfl (Or.inl rfl)) (fun _ _ _ _ _ => pts_nil) (fun _ _ _ _ _ => pe_callD (ok_code T) hr (by rfl) T.g_code T.k_code pass0 (pa_cons (pv 1) pa_nil)))))), ?_⟩
    refine ⟨⟨_, rfl⟩, .ref a, rfl, a, rfl, ⟨_, hS⟩, fun D nD => ?_⟩
    refine lc_list (K := K) (a := a) (xs := ns.map V.int) (fun i H1 => Same H H1 ∧ H1 D = some (.lst (((ns.take i).map fun z => S (cd z.toNat)).map V.str))) ⟨same_upd nD, upd_same⟩ (fun i H1 _ hp => hp.1.seq hS) (fun i x H1 hi hp => ?_) (fun H1 hp => ?_)
    · obtain ⟨z, hz', rfl⟩ := map_at hi
      obtain ⟨sm, eD⟩ := hp
      have hmem := List.mem_of_getElem? hz'
      have hzn := hnn z hmem
      refine ⟨rfl, V.int z, rfl, z.toNat, by rw [Int.toNat_of_nonneg hzn]; rfl, Nat.le_trans (cd_le_cds hmem) hz, fun H2 s2 => ?_⟩
      refine ⟨_, s2 _ _ eD, ?_, ?_, ?_⟩
      · rw [List.length_map, List.length_map]
        have : (ns.take i).length ≤ ns.length := by rw [List.length_take]; omega
        exact small_line' (by omega)
      · intro b o e
        rw [upd_ne (ne_of_none e nD)]
        exact s2 _ _ (sm _ _ e)
      · rw [upd_same, take_more hz']
        simp
    · obtain ⟨sm, eD⟩ := hp
      rw [List.length_map, List.take_length] at eD
      have e1 : (ns.map fun z => S (cd z.toNat)) = (ns.map fun z => cd z.toNat).map S := by rw [List.map_map]; rfl
      rw [e1] at eD
      have e2 : (ns.map fun z => cd z.toNat).flatten = cds ns := by
        unfold cds
        rw [List.flatMap_def]
      refine ⟨_, D, _, rfl, rfl, .inl (SqL.of eD), ?_, ?_⟩
      · rw [lens_flat, e2]
        have h0 : (PySem.Str.ofString "").length = 0 := by decide +kernel
        rw [h0]
        omega
      · show Q (.str (Txt.join _ _)) H1
        rw [join_S, e2]
        exact q _ sm
/-! ### gaps -/
theorem sc_gaps : FnScope ["numbers", "last", "told", "number"] ["numbers"] (defScope s_gaps) := ⟨rfl, rfl, rfl, by decide +kernel, rfl, by decide +kernel, by decide +kernel⟩
def spGaps (K : PySem.W.Frag) : Sp := fun vs H Q _ => ∃ (a : Addr) (ns : List Int), vs = [.ref a] ∧ (SqL K H a (ns.map V.int) ∨ SqT K H a (ns.map V.int)) ∧ ns.length ≤ 1000000 ∧ ∀ (H' : Hp) (p : Addr), Same H H' → H p = none → H' p = some (.lst ((gp (-1) ns).map V.int)) → Q (.ref p) H'
def gapsInv (H : Hp) (a : Addr) (ns : List Int) (o : Addr) : Nat → L2.St → Hp → Prop := fun i σ H1 => ∃ x : Option V, σ = [some (.ref a), some (.int (lastD (-1) (ns.take i))), some (.ref o), x] ∧ Same H H1 ∧ H1 o = some (.lst ((gp (-1) (ns.take i)).map V.int))
theorem ok_gaps (T : Txt K mg) : Def P w K mg base CX0 1 (He.ga K "gaps") ["numbers"] (spGaps K) := by
  obtain ⟨fd, F, b⟩ := T.f_gaps
  refine ⟨fd, b, F.ok sc_gaps (fun vs H Q E h => ?_) (fun cdv A outer s H vs Q E hr h => ?_)⟩
  · obtain ⟨a, n, rfl, _⟩ := h
    rfl
  · obtain ⟨a, ns, rfl, hS, hz, q⟩ := h
    have turn : ∀ (o : Addr) (no : H o = none) (i : Nat) (x : V) (σ : L2.St) (H1 : Hp) (nx : L2.St → Hp → Prop), (ns.map V.int)[i]? = some x → gapsInv H a ns o i σ H1 → (∀ σ' H', gapsInv H a ns o (i + 1) σ' H' → nx σ' H') →
        ∃ z, x = V.int z ∧ ∃ l, σ.set 3 (some (.int z)) = [some (.ref a), some (.int l), some (.ref o), some (.int z)] ∧ H1 o = some (.lst ((gp (-1) (ns.take i)).map V.int)) ∧ ((gp (-1) (ns.take i)).map V.int).length < sizeLine ∧
          nx [some (.ref a), some (.int z), some (.ref o), some (.int z)] (upd H1 o (.lst ((gp (-1) (ns.take i)).map V.int ++ [.int (z - l - 1)]))) := by
      intro o no i x σ H1 nx hi hp hnx
      obtain ⟨z, hz', rfl⟩ := map_at hi
      obtain ⟨x, rfl, sm, eo⟩ := hp
      have hil : i < ns.length := (List.getElem?_eq_some_iff.mp hz').1
      refine ⟨z, rfl, _, rfl, eo, ?_, hnx _ _ ⟨some (.int z), ?_, fun b u e => ?_, ?_⟩⟩
      · rw [List.length_map, gp_len, List.length_take]
        exact small_line' (by omega)
      · rw [take_more hz', lastD_snoc]
      · rw [upd_ne (ne_of_none e no)]
        exact sm _ _ e
      · rw [upd_same, take_more hz', gp_snoc, List.map_append]
        rfl
    rcases hS with hS | hS
    · refine ⟨_, PSs.nox (pss_cons (ps_set (i := 1) sc_gaps.nd rfl (.inl rfl) (pe_un un_neg pe_int)) (pss_cons (ps_set (i := 2) sc_gaps.nd rfl (.inl rfl) (pe_lst pa_nil))
        (pss_cons (ps_for PassesOwn.never rfl (pi_list (pv 0)) (pg_name (i := 3) sc_gaps.nd rfl (.inl rfl))
          (pss_cons (ps_expr (pe_bm PySem.F.plainAttrs_list PySem.F.slot_list_append PySem.F.type_list_append mt_append (pv 2) (pa_cons (pe_op op_sub (pe_op op_sub (pv 3) (pv 1)) pe_int) pa_nil)))
            (pss_one (ps_set (i := 1) sc_gaps.nd rfl (.inl rfl) (pv 3)))))
        (pss_one (ps_ret (pv 2)))))), ?_⟩
      refine ⟨1, rfl, Nat.zero_le _, fun o no => ?_⟩
      refine ⟨.ref a, rfl, a, rfl, ⟨_, (same_upd no).seq hS⟩, for_list (K := K) (a := a) (xs := ns.map V.int) (gapsInv H a ns o) ⟨none, rfl, same_upd no, upd_same⟩ (fun i σ H1 _ ⟨_, _, sm, _⟩ => sm.seq hS) (fun i x σ H1 hi hp => ?_) (fun σ H1 hp => ?_)⟩
      · obtain ⟨z, rfl, l, es, eo, hl, hn⟩ := turn o no i x σ H1 _ hi hp (fun _ _ z => z)
        show tSeq _ _ _ (σ.set 3 (some (.int z))) H1
        rw [es]
        refine ⟨.ref o, rfl, .inl ⟨rfl, _, SqL.of eo⟩, .int z, rfl, .int l, rfl, z, l, rfl, rfl, _, _, rfl, rfl, o, _, _, rfl, rfl, eo, hl, ?_⟩
        exact ⟨_, rfl, hn⟩
      · obtain ⟨x, rfl, sm, eo⟩ := hp
        rw [List.length_map, List.take_length] at eo
        exact ⟨_, rfl, q _ o sm no eo⟩
    · refine ⟨_, PSs.nox (pss_cons (ps_set (i := 1) sc_gaps.nd rfl (.inl rfl) (pe_un un_neg pe_int)) (pss_cons (ps_set (i := 2) sc_gaps.nd rfl (.inl rfl) (pe_lst pa_nil))
        (pss_cons (ps_for PassesOwn.never rfl (pi_tup (pv 0)) (pg_name (i := 3) sc_gaps.nd rfl (.inl rfl))
          (pss_cons (ps_expr (pe_bm PySem.F.plainAttrs_list PySem.F.slot_list_append PySem.F.type_list_append mt_append (pv 2) (pa_cons (pe_op op_sub (pe_op op_sub (pv 3) (pv 1)) pe_int) pa_nil)))
            (pss_one (ps_set (i := 1) sc_gaps.nd rfl (.inl rfl) (pv 3)))))
        (pss_one (ps_ret (pv 2)))))), ?_⟩
      refine ⟨1, rfl, Nat.zero_le _, fun o no => ?_⟩
      refine ⟨.ref a, rfl, a, rfl, ⟨_, Same.seqT (same_upd no) hS⟩, for_tup (K := K) (a := a) (xs := ns.map V.int) (gapsInv H a ns o) ⟨none, rfl, same_upd no, upd_same⟩ (fun i σ H1 _ ⟨_, _, sm, _⟩ => Same.seqT sm hS) (fun i x σ H1 hi hp => ?_) (fun σ H1 hp => ?_)⟩
      · obtain ⟨z, rfl, l, es, eo, hl, hn⟩ := turn o no i x σ H1 _ hi hp (fun _ _ z => z)
        show tSeq _ _ _ (σ.set 3 (some (.int z))) H1
        rw [es]
        refine ⟨.ref o, rfl, .inl ⟨rfl, _, SqL.of eo⟩, .int z, rfl, .int l, rfl, z, l, rfl, rfl, _, _, rfl, rfl, o, _, _, rfl, rfl, eo, hl, ?_⟩
        exact ⟨_, rfl, hn⟩
      · obtain ⟨x, rfl, sm, eo⟩ := hp
        rw [List.length_map, List.take_length] at eo
        exact ⟨_, rfl, q _ o sm no eo⟩
end
end K10
set_option Elab.async false
set_option linter.all false
set_option maxRecDepth 100000
set_option maxHeartbeats 4000000
/-! _law_gaps, _law_code. -/
namespace K10
open PySem PySem.Spec PyProof.Rows L2
section
variable {P : Program} {w : World} {K : PySem.W.Frag} {mg : Str → Option Value} {base : Heap}
/-! ### _law_gaps -/
theorem sc_lgaps : FnScope ["_law_numbers", "_law_last", "_law_told", "_law_number"] ["_law_numbers"] (defScope s__law_gaps) := ⟨rfl, rfl, rfl, by decide +kernel, rfl, by decide +kernel, by decide +kernel⟩
theorem ok_lgaps (T : Txt K mg) : Def P w K mg base CX0 1 (He.ga K "_law_gaps") ["_law_numbers"] (spGaps K) := by
  obtain ⟨fd, F, b⟩ := T.f__law_gaps
  refine ⟨fd, b, F.ok sc_lgaps (fun vs H Q E h => ?_) (fun cdv A outer s H vs Q E hr h => ?_)⟩
  · obtain ⟨a, n, rfl, _⟩ := h
    rfl
  · obtain ⟨a, ns, rfl, hS, hz, q⟩ := h
    have turn : ∀ (o : Addr) (no : H o = none) (i : Nat) (x : V) (σ : L2.St) (H1 : Hp) (nx : L2.St → Hp → Prop), (ns.map V.int)[i]? = some x → gapsInv H a ns o i σ H1 → (∀ σ' H', gapsInv H a ns o (i + 1) σ' H' → nx σ' H') →
        ∃ z, x = V.int z ∧ ∃ l, σ.set 3 (some (.int z)) = [some (.ref a), some (.int l), some (.ref o), some (.int z)] ∧ H1 o = some (.lst ((gp (-1) (ns.take i)).map V.int)) ∧ ((gp (-1) (ns.take i)).map V.int).length < sizeLine ∧
          nx [some (.ref a), some (.int z), some (.ref o), some (.int z)] (upd H1 o (.lst ((gp (-1) (ns.take i)).map V.int ++ [.int (z - l - 1)]))) := by
      intro o no i x σ H1 nx hi hp hnx
      obtain ⟨z, hz', rfl⟩ := map_at hi
      obtain ⟨x, rfl, sm, eo⟩ := hp
      have hil : i < ns.length := (List.getElem?_eq_some_iff.mp hz').1
      refine ⟨z, rfl, _, rfl, eo, ?_, hnx _ _ ⟨some (.int z), ?_, fun b u e => ?_, ?_⟩⟩
      · rw [List.length_map, gp_len, List.length_take]
        exact small_line' (by omega)
      · rw [take_more hz', lastD_snoc]
      · rw [upd_ne (ne_of_none e no)]
        exact sm _ _ e
      · rw [upd_same, take_more hz', gp_snoc, List.map_append]
        rfl
    rcases hS with hS | hS
    · refine ⟨_, PSs.nox (pss_cons (ps_set (i := 1) sc_lgaps.nd rfl (.inl rfl) (pe_un un_neg pe_int)) (pss_cons (ps_set (i := 2) sc_lgaps.nd rfl (.inl rfl) (pe_lst pa_nil))
        (pss_cons (ps_for PassesOwn.never rfl (pi_list (pv 0)) (pg_name (i := 3) sc_lgaps.nd rfl (.inl rfl))
          (pss_cons (ps_expr (pe_bm PySem.F.plainAttrs_list PySem.F.slot_list_append PySem.F.type_list_append mt_append (pv 2) (pa_cons (pe_op op_sub (pe_op op_sub (pv 3) (pv 1)) pe_int) pa_nil)))
            (pss_one (ps_set (i := 1) sc_lgaps.nd rfl (.inl rfl) (pv 3)))))
        (pss_one (ps_ret (pv 2)))))), ?_⟩
      refine ⟨1, rfl, Nat.zero_le _, fun o no => ?_⟩
      refine ⟨.ref a, rfl, a, rfl, ⟨_, (same_upd no).seq hS⟩, for_list (K := K) (a := a) (xs := ns.map V.int) (gapsInv H a ns o) ⟨none, rfl, same_upd no, upd_same⟩ (fun i σ H1 _ ⟨_, _, sm, _⟩ => sm.seq hS) (fun i x σ H1 hi hp => ?_) (fun σ H1 hp => ?_)⟩
      · obtain ⟨z, rfl, l, es, eo, hl, hn⟩ := turn o no i x σ H1 _ hi hp (fun _ _ z => z)
        show tSeq _ _ _ (σ.set 3 (some (.int z))) H1
        rw [es]
        refine ⟨.ref o, rfl, .inl ⟨rfl, _, SqL.of eo⟩, .int z, rfl, .int l, rfl, z, l, rfl, rfl, _, _, rfl, rfl, o, _, _, rfl, rfl, eo, hl, ?_⟩
        exact ⟨_, rfl, hn⟩
      · obtain ⟨x, rfl, sm, eo⟩ := hp
        rw [List.length_map, List.take_length] at eo
        exact ⟨_, rfl, q _ o sm no eo⟩
    · refine ⟨_, PSs.nox (pss_cons (ps_set (i := 1) sc_lgaps.nd rfl (.inl rfl) (pe_un un_neg pe_int)) (pss_cons (ps_set (i := 2) sc_lgaps.nd rfl (.inl rfl) (pe_lst pa_nil))
        (pss_cons (ps_for PassesOwn.never rfl (pi_tup (pv 0)) (pg_name (i := 3) sc_lgaps.nd rfl (.inl rfl))
          (pss_cons (ps_expr (pe_bm PySem.F.plainAttrs_list PySem.F.slot_list_append PySem.F.type_list_append mt_append (pv 2) (pa_cons (pe_op op_sub (pe_op op_sub (pv 3) (pv 1)) pe_int) pa_nil)))
            (pss_one (ps_set (i := 1) sc_lgaps.nd rfl (.inl rfl) (pv 3)))))
        (pss_one (ps_ret (pv 2)))))), ?_⟩
      refine ⟨1, rfl, Nat.zero_le _, fun o no => ?_⟩
      refine ⟨.ref a, rfl, a, rfl, ⟨_, Same.seqT (same_upd no) hS⟩, for_tup (K := K) (a := a) (xs := ns.map V.int) (gapsInv H a ns o) ⟨none, rfl, same_upd no, upd_same⟩ (fun i σ H1 _ ⟨_, _, sm, _⟩ => Same.seqT sm hS) (fun i x σ H1 hi hp => ?_) (fun σ H1 hp => ?_)⟩
      · obtain ⟨z, rfl, l, es, eo, hl, hn⟩ := turn o no i x σ H1 _ hi hp (fun _ _ z => z)
        show tSeq _ _ _ (σ.set 3 (some (.int z))) H1
        rw [es]
        refine ⟨.ref o, rfl, .inl ⟨rfl, _, SqL.of eo⟩, .int z, rfl, .int l, rfl, z, l, rfl, rfl, _, _, rfl, rfl, o, _, _, rfl, rfl, eo, hl, ?_⟩
        exact ⟨_, rfl, hn⟩
      · obtain ⟨x, rfl, sm, eo⟩ := hp
        rw [List.length_map, List.take_length] at eo
        exact ⟨_, rfl, q _ o sm no eo⟩
/-! ### _law_code -/
theorem sc_lcode : FnScope ["_law_number", "_law_told"] ["_law_number"] (defScope s__law_code) := ⟨rfl, rfl, rfl, by decide +kernel, rfl, by decide +kernel, by decide +kernel⟩
theorem ok_lcode (T : Txt K mg) : Def P w K mg base CX0 1 (He.ga K "_law_code") ["_law_number"] spCode := by
  obtain ⟨fd, F, b⟩ := T.f__law_code
  refine ⟨fd, b, F.ok sc_lcode (fun vs H Q E h => ?_) (fun cdv A outer s H vs Q E hr h => ?_)⟩
  · obtain ⟨n, rfl, _⟩ := h
    rfl
  · obtain ⟨n, rfl, hz, q⟩ := h
    refine ⟨_, PSs.nox (pss_cons (ps_set (i := 1) sc_lcode.nd rfl (.inl rfl) pe_str)
      (pss_cons (ps_while PassesOwn.never (pt_cmpR op_gt (pv 0) pe_int (nomark _))
        (pss_cons (ps_set (i := 1) sc_lcode.nd rfl (.inl rfl) (pe_op op_add_str (pv 1) (pe_item_str pe_str (pe_op op_mod (pv 0) pe_int) (fun _ _ => rfl))))
          (pss_one (ps_set (i := 0) sc_lcode.nd rfl (.inl rfl) (pe_op op_fdiv (pv 0) pe_int)))))
      (pss_one (ps_ret (pe_op op_add_str (pv 1) (pe_item_str pe_str (pv 0) (fun _ _ => rfl))))))), ?_⟩
    refine while_by (fun σ H1 => ∃ (m : Nat) (pre : List Nat), σ = [some (.int m), some (.str (S pre))] ∧ pre ++ cd m = cd n ∧ H1 = H) (fun σ _ => match σ with | some (.int m) :: _ => m.toNat | _ => 0)
      ⟨n, [], rfl, rfl, rfl⟩ (fun σ H1 hp => ?_) (fun σ H1 Q1 Q2 h12 hq => ?_)
    · obtain ⟨m, pre, rfl, hm, rfl⟩ := hp
      refine ⟨_, rfl, m, 15, rfl, rfl, _, rfl, ite2 (fun hc => ?_) (fun hc => ?_)⟩
      · have hge : (15 : Int) < (m : Int) := of_decide_eq_true hc
        have hge' : ¬ m < 16 := by omega
        have hq : (m : Int) / 16 = ((m / 16 : Nat) : Int) := by omega
        have hmod : (m : Int) % 16 = ((m % 16 : Nat) : Int) := by omega
        have hlen : pre.length + (cd m).length = (cd n).length := by rw [← List.length_append, hm]
        have hlm : (cd m).length = (cd (m / 16)).length + 1 := by rw [cd_ge hge']; rfl
        refine ⟨_, rfl, _, rfl, m, 16, rfl, rfl, (by show (0 : Int) < 16; decide), _, _, 65 + m % 16, rfl, rfl, by omega, by omega, ?_, ?_, ?_⟩
        · show (m : Int) % 16 < 16
          omega
        · rw [hmod, Int.toNat_natCast]
          exact fur_at (by omega)
        · refine ⟨_, _, rfl, rfl, ?_, ?_⟩
          · rw [S_len]
            show pre.length + 1 ≤ sizeLine
            exact small_line (by omega)
          · refine ⟨_, rfl, m, 16, rfl, rfl, ⟨by decide, by decide⟩, ⟨m / 16, pre ++ [65 + m % 16], ?_, ?_, rfl⟩, ?_⟩
            · show [some (V.int ((m : Int) / 16)), some (V.str (S pre ++ S [65 + m % 16]))] = _
              rw [S_app, hq]
            · rw [List.append_assoc, ← hm, cd_ge hge']
              rfl
            · show ((m : Int) / 16).toNat < (m : Int).toNat
              omega
      · have hlt : ¬ ((15 : Int) < (m : Int)) := fun z => hc (decide_eq_true z)
        have hlt' : m < 16 := by omega
        have hlen : pre.length + (cd m).length = (cd n).length := by rw [← List.length_append, hm]
        have hlm : (cd m).length = 1 := by rw [cd_lt hlt']; rfl
        refine ⟨_, rfl, _, rfl, _, _, 97 + m, rfl, rfl, by omega, by omega, ?_, ?_, ?_⟩
        · show (m : Int) < 16
          omega
        · rw [Int.toNat_natCast]
          exact end_at hlt'
        · refine ⟨_, _, rfl, rfl, ?_, ?_⟩
          · rw [S_len]
            show pre.length + 1 ≤ sizeLine
            exact small_line (by omega)
          · show Q (.str (S pre ++ S [97 + m])) H1
            rw [S_app, ← cd_lt hlt', hm]
            exact q _ (Same.refl _)
    · obtain ⟨x, e, i, j, ei, ej, k, ek, z⟩ := hq
      exact ⟨x, e, i, j, ei, ej, k, ek, h12 _ _ z⟩
end
end K10
set_option Elab.async false
set_option linter.all false
set_option maxRecDepth 100000
set_option maxHeartbeats 4000000
/-! is_rising, is_entry. -/
namespace K10
open PySem PySem.Spec PyProof.Rows L2
theorem rf_lt : ∀ (d : Int) (l : List Int), rf d l → ∀ z ∈ l, d < z
  | _, [], _, z, h => by cases h
  | d, x :: r, h, z, hz => by
    obtain ⟨h1, h2⟩ := h
    rcases List.mem_cons.mp hz with e | hz
    · rw [e]; exact h1
    · have := rf_lt x r h2 z hz
      omega
theorem rf_get : ∀ (d : Int) (l : List Int) (i : Nat) (x y : Int), rf d l → l[i]? = some x → l[i + 1]? = some y → x < y
  | _, [], _, _, _, _, h, _ => by simp at h
  | _, [_], 0, _, _, _, _, h => by simp at h
  | _, [_], i + 1, _, _, _, h, _ => by simp at h
  | d, a :: b :: r, 0, x, y, h, h1, h2 => by
    have e1 : a = x := Option.some.inj h1
    have e2 : b = y := Option.some.inj h2
    rw [← e1, ← e2]
    exact h.2.1
  | d, a :: b :: r, i + 1, x, y, h, h1, h2 => rf_get a (b :: r) i x y h.2 h1 h2
theorem cut1 (xs : List V) : cutV xs (some 1) none = xs.drop 1 := by
  unfold cutV
  rw [show HT.sIx xs.length 0 (some 1) = min 1 xs.length from HT.sIx_nat xs.length 0 1, HT.sIx_none]
  cases xs with
  | nil => rfl
  | cons x r =>
    rw [show min 1 (x :: r).length = 1 by
      rw [List.length_cons]
      omega]
    show (List.take ((x :: r).length - 1) r) = r
    rw [List.length_cons, Nat.add_sub_cancel]
    exact List.take_length
/-- a comprehension over zip of two tuples, the second one not longer -/
theorem lc_zipT {K : PySem.W.Frag} {a b : Addr} {xs ys : List V} {g : TG} {tt : TT} {te : TE} {vs : List Nat} {σ : L2.St} {H1 : Hp} {D : Addr} {Qd : Hp → Prop} (hl : ys.length ≤ xs.length) (Pv : Nat → Hp → Prop) (h0 : Pv 0 (upd H1 D (.lst []))) (hq : ∀ i H, Pv i H → SqT K H a xs ∧ SqT K H b ys)
    (hs : ∀ (i : Nat) (x y : V) (T : Addr) (H : Hp), xs[i]? = some x → ys[i]? = some y → Pv i H → H T = none → g (.ref T) (wipe σ vs) (upd H T (.tup [x, y])) fun σ2 H2 => wipe σ2 vs = wipe σ vs ∧ tt σ2 H2 fun b H3 =>
      if b = true then te σ2 H3 fun y H4 => ∃ acc, H4 D = some (.lst acc) ∧ acc.length < sizeLine ∧ Pv (i + 1) (upd H4 D (.lst (acc ++ [y]))) else Pv (i + 1) H3) (hd : ∀ H, Pv ys.length H → Qd H) :
    ∃ W : Nat → Nat → Hp → Prop, (∃ m, W 0 m (upd H1 D (.lst []))) ∧ ∀ i m H, W i m H →
      ((RZ.ItzT K a b).stop i H ∧ Qd H) ∨ ((RZ.ItzT K a b).go i H ∧ ∃ Nx : Hp → Prop, (∀ H', Nx H' → ∃ m', m' < m ∧ W (i + 1) m' H') ∧ ∀ x H', (RZ.ItzT K a b).yld i H x H' → g x (wipe σ vs) H' fun σ2 H2 => wipe σ2 vs = wipe σ vs ∧ tt σ2 H2 fun b H3 =>
        if b = true then te σ2 H3 fun y H4 => ∃ acc, H4 D = some (.lst acc) ∧ acc.length < sizeLine ∧ Nx (upd H4 D (.lst (acc ++ [y]))) else Nx H3) := by
  refine ⟨fun i m H => m = ys.length - i ∧ i ≤ ys.length ∧ Pv i H, ⟨ys.length, rfl, Nat.zero_le _, h0⟩, ?_⟩
  rintro i m H ⟨rfl, hi, p⟩
  obtain ⟨qx, qy⟩ := hq i H p
  by_cases hlt : i < ys.length
  · have hlt2 : i < xs.length := by omega
    refine .inr ⟨⟨xs, ys, _, _, qx, qy, List.getElem?_eq_getElem hlt2, List.getElem?_eq_getElem hlt⟩, Pv (i + 1), fun H' p' => ⟨ys.length - (i + 1), by omega, rfl, hlt, p'⟩, fun v H' y => ?_⟩
    obtain ⟨T, x', y', rfl, hT, rfl, f1, f2⟩ := y
    exact hs i x' y' T H (f1 xs qx) (f2 ys qy) p hT
  · have e : i = ys.length := by omega
    subst e
    exact .inl ⟨⟨xs, ys, qx, qy, .inr (Nat.le_refl _)⟩, hd H p⟩
theorem eqv_ints_nil {ns : List Int} (h : ns ≠ []) : PyData.eqv (.tuple (ns.map PyData.int)) (.tuple []) = false := by
  cases ns with
  | nil => exact absurd rfl h
  | cons x r => rfl
theorem canLay_ints : ∀ ns : List Int, PyData.canLayAll0 (ns.map PyData.int) = true
  | [] => rfl
  | x :: r => by
    show (PyData.canLay0 (.int x) && PyData.canLayAll0 (r.map PyData.int)) = true
    rw [canLay_ints r]
    rfl
theorem depth_ints : ∀ ns : List Int, PyData.depthAll (ns.map PyData.int) ≤ 1
  | [] => by decide
  | x :: r => by
    have h := depth_ints r
    show max (PyData.depth (.int x)) (PyData.depthAll (r.map PyData.int)) ≤ 1
    have h2 : PyData.depth (.int x) ≤ 1 := by unfold PyData.depth; omega
    omega
theorem shaped_ints (ns : List Int) : SeqAt.shaped (.tuple (ns.map PyData.int)) = true := by
  unfold SeqAt.shaped
  rw [Bool.and_eq_true]
  refine ⟨canLay_ints ns, decide_eq_true ?_⟩
  have h := depth_ints ns
  unfold PyData.depth
  omega
theorem dp_ints (K : PySem.W.Frag) (H : Hp) : ∀ ns : List Int, DpAll K H (ns.map V.int) (ns.map PyData.int)
  | [] => .nil
  | x :: r => .cons (.int x) (dp_ints K H r)
section
variable {P : Program} {w : World} {K : PySem.W.Frag} {mg : Str → Option Value} {base : Heap}
/-! ### is_rising -/
theorem sc_rising : FnScope ["numbers", "number", "one", "other"] ["numbers"] (defScope s_is_rising) := ⟨rfl, rfl, rfl, by decide +kernel, rfl, by decide +kernel, by decide +kernel⟩
def spRising : Sp := fun vs H Q _ => ∃ (a : Addr) (ns : List Int), vs = [.ref a] ∧ H a = some (.tup (ns.map V.int)) ∧ rf (-1) ns ∧ ns ≠ [] ∧ ns.length ≤ 1000000 ∧ ∀ H', Same H H' → Q (.bl true) H'
theorem bls (n : Nat) : (List.replicate n V.bl).length = n := List.length_replicate
theorem rep_bl (n : Nat) : (List.replicate n true).map V.bl = List.replicate n (V.bl true) := by rw [List.map_replicate]
theorem rep_all (n : Nat) : (List.replicate n true).all id = true := by
  rw [List.all_eq_true]
  intro x hx
  rw [(List.mem_replicate.mp hx).2]
  rfl
theorem ok_rising (T : Txt K mg) : Def P w K mg base CX0 3 (He.ga K "is_rising") ["numbers"] spRising := by
  obtain ⟨fd, F, b⟩ := T.f_is_rising
  refine ⟨fd, b, F.ok sc_rising (fun vs H Q E h => ?_) (fun cdv A outer s H vs Q E hr h => ?_)⟩
  · obtain ⟨a, n, rfl, _⟩ := h
    rfl
  · obtain ⟨a, ns, rfl, hS, hrf, hne, hz, q⟩ := h
    have hlen : 0 < ns.length := List.length_pos_iff.mpr hne
    refine ⟨_, PSs.nox (pss_cons (ps_if (pt_not (pt_val (pe_callB (cr_all rfl) (by rfl) T.z_all (by decide +kernel) (pa_cons
        (pe_lc (own := [("number", 1)]) (g := gName 1) (tt := tYes) (by rfl) sc_rising.nd (pi_tup (pv 0)) (blkOk_by (own := [("number", 1)]) (N := ["numbers", "number", "one", "other"]) (sc := defScope s_is_rising) (by decide +kernel))
          (fun _ _ _ _ _ => pg_name (i := 1) sc_rising.nd rfl (Or.inl rfl)) (fun _ _ _ _ _ => pts_nil) (fun _ _ _ _ _ => pe_callD (ok_is_count T) hr (by rfl) T.g_is_count T.k_is_count pass0 (pa_cons (pv 1) pa_nil))) pa_nil)))) (pss_one ps_never) pss_nil)
      (pss_one (ps_ret (pe_callB (cr_all rfl) (by rfl) T.z_all (by decide +kernel) (pa_cons
        (pe_lc (own := [("one", 2), ("other", 3)]) (g := gTup K 2 (gCons (gName 2) (gCons (gName 3) gNil))) (tt := tYes) (by rfl) sc_rising.nd (RZ.pi_zipA (by rfl) T.z_zip (pa_cons (pv 0) (pa_cons (pe_slice sl_tup (pv 0) (po_some pe_int) po_none) pa_nil)))
          (blkOk_by (own := [("one", 2), ("other", 3)]) (N := ["numbers", "number", "one", "other"]) (sc := defScope s_is_rising) (by decide +kernel))
          (fun _ _ _ _ _ => pg_tup rfl (pgs_cons (pg_name (i := 2) sc_rising.nd rfl (Or.inl rfl)) (pgs_cons (pg_name (i := 3) sc_rising.nd rfl (Or.inl rfl)) pgs_nil))) (fun _ _ _ _ _ => pts_nil) (fun _ _ _ _ _ => pe_cmpR op_lt (pv 2) (pv 3) (nomark _))) pa_nil))))), ?_⟩
    refine ⟨.ref a, rfl, a, rfl, ⟨_, SqT.of hS⟩, fun D nD => ?_⟩
    refine lc_tup (K := K) (a := a) (xs := ns.map V.int) (fun i H1 => Same H H1 ∧ H1 D = some (.lst ((List.replicate i true).map V.bl)) ∧ i ≤ ns.length) ⟨same_upd nD, upd_same, Nat.zero_le _⟩ (fun i H1 _ hp => Same.seqT hp.1 (SqT.of hS)) (fun i x H1 hi hp => ?_) (fun H1 hp => ?_)
    · obtain ⟨z, hz', rfl⟩ := map_at hi
      obtain ⟨sm, eD, hle⟩ := hp
      have hil : i < ns.length := (List.getElem?_eq_some_iff.mp hz').1
      have hzn := rf_lt _ _ hrf z (List.mem_of_getElem? hz')
      refine ⟨rfl, V.int z, rfl, z, rfl, by omega, _, eD, ?_, ?_, ?_, hil⟩
      · rw [List.length_map, List.length_replicate]
        exact small_line' (by omega)
      · intro b o e
        rw [upd_ne (ne_of_none e nD)]
        exact sm _ _ e
      · rw [upd_same, List.replicate_succ', List.map_append]
        rfl
    · obtain ⟨sm, eD, hle⟩ := hp
      refine ⟨D, _, rfl, SqL.of eD, true, by rw [rep_all], iteF ?_⟩
      refine ⟨.ref a, rfl, .ref a, rfl, 1, rfl, a, ns.map V.int, rfl, SqT.of (sm _ _ hS), ?_, fun c nc => ?_⟩
      · intro hh
        have h1 := hh.1
        rw [List.length_map, show HT.sIx ns.length 0 (some 1) = min 1 ns.length from HT.sIx_nat ns.length 0 1] at h1
        omega
      · have s2 := same_upd (o := HO.tup (cutV (ns.map V.int) (some 1) none)) nc
        have e1 := s2 _ _ (sm _ _ hS)
        have e2 : upd H1 c (.tup (cutV (ns.map V.int) (some 1) none)) c = some (.tup ((ns.drop 1).map V.int)) := by rw [upd_same, cut1, List.map_drop]
        refine ⟨a, c, ns.map V.int, (ns.drop 1).map V.int, rfl, .inr ⟨SqT.of e1, SqT.of e2, fun D2 nD2 => ?_⟩⟩
        refine lc_zipT (K := K) (a := a) (b := c) (xs := ns.map V.int) (ys := (ns.drop 1).map V.int) (by rw [List.length_map, List.length_map, List.length_drop]; omega)
          (fun i H2 => Same (upd H1 c (.tup (cutV (ns.map V.int) (some 1) none))) H2 ∧ H2 D2 = some (.lst ((List.replicate i true).map V.bl)) ∧ i ≤ ns.length)
          ⟨same_upd nD2, upd_same, Nat.zero_le _⟩ (fun i H2 hp => ⟨Same.seqT hp.1 (SqT.of e1), Same.seqT hp.1 (SqT.of e2)⟩) (fun i x y Tp H2 hx hy hp nT => ?_) (fun H2 hp => ?_)
        · obtain ⟨x1, hx1, rfl⟩ := map_at hx
          obtain ⟨y1, hy1, rfl⟩ := map_at hy
          obtain ⟨sm2, eD2, hle2⟩ := hp
          rw [List.getElem?_drop, Nat.add_comm 1 i] at hy1
          have hlt := rf_get _ _ i x1 y1 hrf hx1 hy1
          have hil : i < ns.length := (List.getElem?_eq_some_iff.mp hx1).1
          refine ⟨Tp, _, rfl, SqT.of upd_same, rfl, _, _, rfl, _, _, rfl, rfl, rfl, ?_⟩
          refine ⟨_, rfl, _, rfl, x1, y1, rfl, rfl, ?_⟩
          have nTD : D2 ≠ Tp := ne_of_none eD2 nT
          refine ⟨_, by rw [upd_ne nTD]; exact eD2, ?_, ?_, ?_, hil⟩
          · rw [List.length_map, List.length_replicate]
            exact small_line' (by omega)
          · intro b o e
            rw [upd_ne (ne_of_none e nD2)]
            exact same_upd nT _ _ (sm2 _ _ e)
          · rw [upd_same, List.replicate_succ', List.map_append]
            show some (HO.lst (List.map V.bl (List.replicate i true) ++ [V.bl (decide (x1 < y1))])) = _
            rw [decide_eq_true hlt]
            rfl
        · obtain ⟨sm2, eD2, hle2⟩ := hp
          refine ⟨D2, _, rfl, SqL.of eD2, ?_⟩
          rw [rep_all]
          exact q _ ((sm.trans s2).trans sm2)
end
end K10
set_option Elab.async false
set_option linter.all false
set_option maxRecDepth 100000
set_option maxHeartbeats 4000000
/-! is_entry, look_entries, code_entries. -/
namespace K10
open PySem PySem.Spec PyProof.Rows L2
/-- at p: the entry e, a tuple (slot, places) -/
def EntAt (H : Hp) (p : Addr) (e : Int × List Int) : Prop := ∃ t, H p = some (.tup [.int e.1, .ref t]) ∧ H t = some (.tup (e.2.map V.int))
def EntsAt (H : Hp) (ps : List Addr) (es : List (Int × List Int)) : Prop := ps.length = es.length ∧ ∀ (i : Nat) (p : Addr) (e : Int × List Int), ps[i]? = some p → es[i]? = some e → EntAt H p e
theorem EntAt.same {H H' : Hp} {p : Addr} {e : Int × List Int} (h : EntAt H p e) (s : Same H H') : EntAt H' p e := by
  obtain ⟨t, h1, h2⟩ := h
  exact ⟨t, s _ _ h1, s _ _ h2⟩
theorem EntsAt.same {H H' : Hp} {ps : List Addr} {es : List (Int × List Int)} (h : EntsAt H ps es) (s : Same H H') : EntsAt H' ps es := ⟨h.1, fun i p e h1 h2 => (h.2 i p e h1 h2).same s⟩
theorem EntsAt.nil (H : Hp) : EntsAt H [] [] := ⟨rfl, fun i p e h => by simp at h⟩
theorem EntsAt.get {H : Hp} {ps : List Addr} {es : List (Int × List Int)} (h : EntsAt H ps es) {i : Nat} {p : Addr} (hp : ps[i]? = some p) : ∃ e, es[i]? = some e ∧ EntAt H p e := by
  have hl : i < ps.length := (List.getElem?_eq_some_iff.mp hp).1
  have hl2 : i < es.length := by rw [← h.1]; exact hl
  exact ⟨_, List.getElem?_eq_getElem hl2, h.2 i p _ hp (List.getElem?_eq_getElem hl2)⟩
theorem EntsAt.snoc {H : Hp} {ps : List Addr} {es : List (Int × List Int)} {p : Addr} {e : Int × List Int} (h : EntsAt H ps es) (he : EntAt H p e) : EntsAt H (ps ++ [p]) (es ++ [e]) := by
  refine ⟨by rw [List.length_append, List.length_append, h.1]; rfl, fun i q f h1 h2 => ?_⟩
  by_cases hi : i < ps.length
  · rw [List.getElem?_append_left hi] at h1
    rw [List.getElem?_append_left (by rw [← h.1]; exact hi)] at h2
    exact h.2 i q f h1 h2
  · rw [List.getElem?_append_right (by omega)] at h1
    rw [List.getElem?_append_right (by rw [← h.1]; omega), ← h.1] at h2
    have h0 : i - ps.length = 0 := by
      cases hk : i - ps.length with
      | zero => rfl
      | succ k => rw [hk] at h1; simp at h1
    rw [h0] at h1 h2
    have e1 : p = q := Option.some.inj h1
    have e2 : e = f := Option.some.inj h2
    rw [← e1, ← e2]
    exact he
section
variable {P : Program} {w : World} {K : PySem.W.Frag} {mg : Str → Option Value} {base : Heap}
/-! ### is_entry -/
theorem sc_entry : FnScope ["thing"] ["thing"] (defScope s_is_entry) := ⟨rfl, rfl, rfl, by decide +kernel, rfl, by decide +kernel, by decide +kernel⟩
def spEntry : Sp := fun vs H Q _ => ∃ (a : Addr) (e : Int × List Int), vs = [.ref a] ∧ EntAt H a e ∧ 0 ≤ e.1 ∧ GoodE e ∧ e.2.length ≤ 1000000 ∧ ∀ H', Same H H' → Q (.bl true) H'
theorem ok_entry (T : Txt K mg) : Def P w K mg base CX0 4 (He.ga K "is_entry") ["thing"] spEntry := by
  obtain ⟨fd, F, b⟩ := T.f_is_entry
  refine ⟨fd, b, F.ok sc_entry (fun vs H Q E h => ?_) (fun cdv A outer s H vs Q E hr h => ?_)⟩
  · obtain ⟨a, n, rfl, _⟩ := h
    rfl
  · obtain ⟨a, ⟨sl, ns⟩, rfl, ⟨t, h1, h2⟩, hs, ⟨hne, hrf⟩, hz, q⟩ := h
    refine ⟨_, PSs.nox (pss_cons (ps_if (PW.pt (pw_or (pt_not (pt_val (pe_callB call_isi (by rfl) T.z_isinstance (by decide +kernel) (pa_cons (pv 0) (pa_cons (pe_bT (n := "tuple") (by rfl) T.z_tuple (by decide +kernel)) pa_nil)))))
        (pw_or (pt_cmpR op_ne (pe_callB call_len (by rfl) T.z_len (by decide +kernel) (pa_cons (pv 0) pa_nil)) pe_int (nomark _))
          (pw_or1 (pt_not (pt_val (pe_callD (ok_is_count T) (hr.mono (by decide)) (by rfl) T.g_is_count T.k_is_count pass0 (pa_cons (pe_ix ix_tup (pv 0) pe_int (fun _ _ => rfl)) pa_nil)))))))) (pss_one (ps_ret pe_bl)) pss_nil)
      (pss_one (ps_ret (pe_and (pe_callB call_isi (by rfl) T.z_isinstance (by decide +kernel) (pa_cons (pe_ix ix_tup (pv 0) pe_int (fun _ _ => rfl)) (pa_cons (pe_bT (n := "tuple") (by rfl) T.z_tuple (by decide +kernel)) pa_nil)))
        (pe_and (pe_cmpR (op_neD hr.units) (pe_ix ix_tup (pv 0) pe_int (fun _ _ => rfl)) (pe_tup pa_nil) (nomark _))
          (pe_one (pe_callD (ok_rising T) (hr.mono (by decide)) (by rfl) T.g_is_rising T.k_is_rising pass0 (pa_cons (pe_ix ix_tup (pv 0) pe_int (fun _ _ => rfl)) pa_nil)))))))), ?_⟩
    refine ⟨_, rfl, _, _, _, _, true, rfl, .ty "tuple", .base (.tup h1), kit_ty (by decide +kernel), true, rfl, iteF ?_⟩
    refine ⟨_, rfl, _, 2, rfl, .inr ⟨_, SqT.of h1, rfl⟩, rfl, false, rfl, iteF ?_⟩
    refine ⟨_, rfl, a, _, 0, _, rfl, rfl, SqT.of h1, atI_nat (j := 0) rfl, sl, rfl, hs, true, rfl, iteF ?_⟩
    refine ⟨_, rfl, a, _, 1, _, rfl, rfl, SqT.of h1, atI_nat (j := 1) rfl, _, _, _, _, true, rfl, .ty "tuple", .base (.tup h2), kit_ty (by decide +kernel), true, rfl, iteT ?_⟩
    refine ⟨_, rfl, a, _, 1, _, rfl, rfl, SqT.of h1, atI_nat (j := 1) rfl, Nat.zero_le _, fun p np => ?_⟩
    have s1 := same_upd (o := HO.tup []) np
    refine ⟨.tuple (ns.map PyData.int), .tuple [], .tup (SqT.of (s1 _ _ h2)) (dp_ints _ _ ns), .tup (SqT.of upd_same) .nil, shaped_ints ns, by decide +kernel, true, ?_, iteT ?_⟩
    · rw [eqv_ints_nil hne]
      rfl
    · exact ⟨_, rfl, a, _, 1, _, rfl, rfl, SqT.of (s1 _ _ h1), atI_nat (j := 1) rfl, t, ns, rfl, s1 _ _ h2, hrf, hne, hz, fun H' s2 => q _ (s1.trans s2)⟩
/-! ### look_entries -/
theorem sc_look : FnScope ["entries", "last", "at", "entry"] ["entries"] (defScope s_look_entries) := ⟨rfl, rfl, rfl, by decide +kernel, rfl, by decide +kernel, by decide +kernel⟩
def spLook : Sp := fun vs H Q _ => ∃ (a : Addr) (ps : List Addr) (es : List (Int × List Int)), vs = [.ref a] ∧ H a = some (.lst (ps.map V.ref)) ∧ EntsAt H ps es ∧ rf (-1) (es.map (·.1)) ∧ (∀ e ∈ es, GoodE e ∧ e.2.length ≤ 1000000) ∧ ∀ H', Same H H' → Q .non H'
theorem rf_take : ∀ (d : Int) (l : List Int) (i : Nat) (x : Int), rf d l → l[i]? = some x → lastD d (l.take i) < x
  | _, [], _, _, _, h => by simp at h
  | d, a :: r, 0, x, h, h1 => by
    have e1 : a = x := Option.some.inj h1
    rw [← e1]
    exact h.1
  | d, a :: r, i + 1, x, h, h1 => rf_take a r i x h.2 h1
theorem ok_look (T : Txt K mg) : Def P w K mg base CX0 5 (He.ga K "look_entries") ["entries"] spLook := by
  obtain ⟨fd, F, b⟩ := T.f_look_entries
  refine ⟨fd, b, F.ok sc_look (fun vs H Q E h => ?_) (fun cdv A outer s H vs Q E hr h => ?_)⟩
  · obtain ⟨a, n, m, rfl, _⟩ := h
    rfl
  · obtain ⟨a, ps, es, rfl, hS, hE, hrf, hG, q⟩ := h
    refine ⟨_, PSs.nox (pss_cons (ps_if (pt_not (pt_val (pe_callB call_isi (by rfl) T.z_isinstance (by decide +kernel) (pa_cons (pv 0) (pa_cons (pe_bT (n := "list") (by rfl) T.z_list (by decide +kernel)) pa_nil))))) (pss_one ps_never) pss_nil)
      (pss_cons (ps_set (i := 1) sc_look.nd rfl (.inl rfl) (pe_un un_neg pe_int))
      (pss_one (ps_for PassesOwn.never rfl (pi_enum (by rfl) T.z_enumerate (pa_cons (pv 0) pa_nil)) (pg_tup rfl (pgs_cons (pg_name (i := 2) sc_look.nd rfl (Or.inl rfl)) (pgs_cons (pg_name (i := 3) sc_look.nd rfl (Or.inl rfl)) pgs_nil)))
        (pss_cons (ps_if (PW.pt (pw_or (pt_not (pt_val (pe_callD (ok_entry T) hr (by rfl) T.g_is_entry T.k_is_entry pass0 (pa_cons (pv 3) pa_nil)))) (pw_or1 (pt_cmpR op_le (pe_ix ix_tup (pv 3) pe_int (fun _ _ => rfl)) (pv 1) (nomark _))))) (pss_one ps_never) pss_nil)
          (pss_one (ps_set (i := 1) sc_look.nd rfl (.inl rfl) (pe_ix ix_tup (pv 3) pe_int (fun _ _ => rfl))))))))), ?_⟩
    refine ⟨_, rfl, _, _, _, _, true, rfl, .ty "list", .base (.lst hS), kit_ty (by decide +kernel), true, rfl, iteF ?_⟩
    refine ⟨1, rfl, .ref a, rfl, a, ps.map V.ref, rfl, SqL.of hS, ?_⟩
    refine ⟨fun i m σ H1 => ∃ x2 x3, σ = [some (.ref a), some (.int (lastD (-1) ((es.map (·.1)).take i))), x2, x3] ∧ i + m = ps.length ∧ Same H H1, ⟨ps.length, none, none, rfl, by omega, Same.refl H⟩, fun i m σ H1 hW => ?_⟩
    obtain ⟨x2, x3, rfl, em, sm⟩ := hW
    have hS1 := sm _ _ hS
    by_cases hi : i < ps.length
    · have hp : ps[i]? = some ps[i] := List.getElem?_eq_getElem hi
      obtain ⟨e, he, hea⟩ := hE.get hp
      obtain ⟨gd, hlen⟩ := hG e (List.mem_of_getElem? he)
      have hs : (es.map (·.1))[i]? = some e.1 := by rw [List.getElem?_map, he]; rfl
      have h0 := rf_lt _ _ hrf e.1 (List.mem_of_getElem? hs)
      have hlt := rf_take _ _ i e.1 hrf hs
      have hxs : (ps.map V.ref)[i]? = some (.ref ps[i]) := by rw [List.getElem?_map, hp]; rfl
      refine .inr ⟨⟨_, _, SqL.of hS1, hxs⟩, fun σ' H' => ∃ x2 x3, σ' = [some (.ref a), some (.int (lastD (-1) ((es.map (·.1)).take (i + 1)))), x2, x3] ∧ Same H H', fun σ' H' hN => ?_, fun v H' hy => ?_⟩
      · obtain ⟨z2, z3, e1, e2⟩ := hN
        exact ⟨m - 1, by omega, z2, z3, e1, by omega, e2⟩
      · obtain ⟨Tp, x, rfl, nT, rfl, fx⟩ := hy
        have ex : x = .ref ps[i] := Option.some.inj ((fx _ (SqL.of hS1)).symm.trans hxs)
        subst ex
        have s2 := same_upd (o := HO.tup [V.int (i : Nat), .ref ps[i]]) nT
        have sH := sm.trans s2
        obtain ⟨t, t1, t2⟩ := hea.same sH
        refine ⟨Tp, _, rfl, SqT.of upd_same, rfl, _, _, rfl, _, _, rfl, rfl, ?_⟩
        refine ⟨.ref ps[i], rfl, ps[i], e, rfl, ⟨t, t1, t2⟩, by omega, gd, hlen, fun H2 s3 => ?_⟩
        refine ⟨true, rfl, iteF ?_⟩
        refine ⟨.ref ps[i], rfl, ps[i], _, 0, _, rfl, rfl, SqT.of (s3 _ _ t1), atI_nat (j := 0) rfl, _, rfl, _, _, rfl, rfl, false, ?_, iteF ?_⟩
        · show V.bl (decide (e.1 ≤ lastD (-1) ((es.map (·.1)).take i))) = V.bl false
          rw [decide_eq_false (by omega)]
        · refine ⟨.ref ps[i], rfl, ps[i], _, 0, _, rfl, rfl, SqT.of (s3 _ _ t1), atI_nat (j := 0) rfl, some (V.int (i : Nat)), some (V.ref ps[i]), ?_, sH.trans s3⟩
          rw [take_more hs, lastD_snoc]
          rfl
    · refine .inl ⟨⟨_, SqL.of hS1, ?_⟩, q _ sm⟩
      rw [List.length_map]
      omega
end
end K10
set_option Elab.async false
set_option linter.all false
set_option maxRecDepth 100000
set_option maxHeartbeats 4000000
/-! code_entries. -/
namespace K10
open PySem PySem.Spec PyProof.Rows L2
theorem pls_snoc (l : List (Int × List Int)) (e : Int × List Int) : pls (l ++ [e]) = pls l ++ pl e := by
  unfold pls
  rw [List.flatMap_append]
  show _ ++ (pl e ++ []) = _
  rw [List.append_nil]
section
variable {P : Program} {w : World} {K : PySem.W.Frag} {mg : Str → Option Value} {base : Heap}
theorem sc_ce : FnScope ["entries", "slot", "places", "numbers"] ["entries"] (defScope s_code_entries) := ⟨rfl, rfl, rfl, by decide +kernel, rfl, by decide +kernel, by decide +kernel⟩
def spCE : Sp := fun vs H Q _ => ∃ (a : Addr) (ps : List Addr) (es : List (Int × List Int)) (cs : List Nat), vs = [.ref a] ∧ H a = some (.lst (ps.map V.ref)) ∧ EntsAt H ps es ∧ GoodL cs es ∧ cs.length ≤ 100000 ∧ ∀ H', Same H H' → Q (.str (S cs)) H'
theorem ok_ce (T : Txt K mg) : Def P w K mg base CX0 6 (He.ga K "code_entries") ["entries"] spCE := by
  obtain ⟨fd, F, b⟩ := T.f_code_entries
  refine ⟨fd, b, F.ok sc_ce (fun vs H Q E h => ?_) (fun cdv A outer s H vs Q E hr h => ?_)⟩
  · obtain ⟨a, n, m, c, rfl, _⟩ := h
    rfl
  · obtain ⟨a, ps, es, cs, rfl, hS, hE, hG, hz, q⟩ := h
    have hlen := hG.len
    have hnums := nums_len hG
    refine ⟨_, PSs.nox (pss_cons (ps_expr (pe_callD (ok_look T) hr (by rfl) T.g_look_entries T.k_look_entries pass0 (pa_cons (pv 0) pa_nil)))
      (pss_cons (ps_set (i := 3) sc_ce.nd rfl (.inl rfl) (pe_op op_cat (pe_lst (pa_cons (pe_callB call_len (by rfl) T.z_len (by decide +kernel) (pa_cons (pv 0) pa_nil)) pa_nil))
        (pe_callD (ok_gaps T) (hr.mono (by decide)) (by rfl) T.g_gaps T.k_gaps pass0 (pa_cons
          (pe_lc (own := [("slot", 1), ("places", 2)]) (g := gTup K 2 (gCons (gName 1) (gCons (gName 2) gNil))) (tt := tYes) (by rfl) sc_ce.nd (pi_list (pv 0)) (blkOk_by (own := [("slot", 1), ("places", 2)]) (N := ["entries", "slot", "places", "numbers"]) (sc := defScope s_code_entries) (by decide +kernel))
            (fun _ _ _ _ _ => pg_tup rfl (pgs_cons (pg_name (i := 1) sc_ce.nd rfl (Or.inl rfl)) (pgs_cons (pg_name (i := 2) sc_ce.nd rfl (Or.inl rfl)) pgs_nil))) (fun _ _ _ _ _ => pts_nil) (fun _ _ _ _ _ => pv 1)) pa_nil))))
      (pss_cons (ps_for PassesOwn.never rfl (pi_list (pv 0)) (pg_tup rfl (pgs_cons (pg_name (i := 1) sc_ce.nd rfl (Or.inl rfl)) (pgs_cons (pg_name (i := 2) sc_ce.nd rfl (Or.inl rfl)) pgs_nil)))
        (pss_one (ps_aug (i := 3) sc_ce.nd rfl (.inl rfl) (pe_op op_cat (pe_lst (pa_cons (pe_op op_sub (pe_callB call_len (by rfl) T.z_len (by decide +kernel) (pa_cons (pv 2) pa_nil)) pe_int) pa_nil))
          (pe_callD (ok_gaps T) (hr.mono (by decide)) (by rfl) T.g_gaps T.k_gaps pass0 (pa_cons (pv 2) pa_nil))) iop_ext)))
      (pss_one (ps_ret (pe_callD (ok_joined T) (hr.mono (by decide)) (by rfl) T.g_joined_codes T.k_joined_codes pass0 (pa_cons (pv 3) pa_nil))))))), ?_⟩
    -- look_entries(entries)
    refine ⟨_, rfl, a, ps, es, rfl, hS, hE, hG.slots, fun e he => ⟨hG.each e he, by have := hG.lenE he; omega⟩, fun H1 s1 => ?_⟩
    -- [len(entries)]
    refine ⟨_, rfl, _, _, rfl, .inl ⟨_, SqL.of (s1 _ _ hS), rfl⟩, (by show 1 ≤ sizeLine; decide), fun o no => ?_⟩
    have s2 := s1.trans (same_upd (o := HO.lst [V.int ((ps.map V.ref).length : Nat)]) no)
    -- the slots
    refine ⟨_, rfl, a, rfl, ⟨_, SqL.of (s2 _ _ hS)⟩, fun D nD => ?_⟩
    refine lc_list (K := K) (a := a) (xs := ps.map V.ref) (fun i H2 => Same (upd H1 o (.lst [V.int ((ps.map V.ref).length : Nat)])) H2 ∧ H2 D = some (.lst (((es.take i).map (·.1)).map V.int)) ∧ i ≤ ps.length) ⟨same_upd nD, upd_same, Nat.zero_le _⟩
      (fun i H2 _ hp => SqL.of ((s2.trans hp.1) _ _ hS)) (fun i x H2 hi hp => ?_) (fun H2 hp => ?_)
    · obtain ⟨p, hp', rfl⟩ := map_at hi
      obtain ⟨sm, eD, hle⟩ := hp
      obtain ⟨e, he, hea⟩ := hE.get hp'
      have hil : i < ps.length := (List.getElem?_eq_some_iff.mp hp').1
      obtain ⟨t, t1, t2⟩ := hea.same (s2.trans sm)
      refine ⟨p, _, rfl, SqT.of t1, rfl, _, _, rfl, _, _, rfl, rfl, rfl, ?_⟩
      refine ⟨_, rfl, _, eD, ?_, ?_, ?_, hil⟩
      · rw [List.length_map, List.length_map, List.length_take]
        exact small_line' (by have := hE.1; omega)
      · intro b u e
        rw [upd_ne (ne_of_none e nD)]
        exact sm _ _ e
      · rw [upd_same, take_more he, List.map_append, List.map_append]
        rfl
    · obtain ⟨sm, eD, hle⟩ := hp
      rw [List.length_map, hE.1, List.take_length] at eD
      have hsl : ((List.map (fun e : Int × List Int => e.1) es).length) ≤ 1000000 := by rw [List.length_map]; omega
      refine ⟨D, es.map (·.1), rfl, .inl (SqL.of eD), hsl, fun H3 g s3 ng eg => ?_⟩
      have eo : H3 o = some (.lst [V.int ((ps.map V.ref).length : Nat)]) := s3 _ _ (sm _ _ upd_same)
      have hpl : ((ps.map V.ref).length : Int) = (es.length : Int) := by rw [List.length_map, hE.1]
      have hcat : 1 + ((gp (-1) (List.map (fun e : Int × List Int => e.1) es)).map V.int).length ≤ sizeLine := by
        rw [List.length_map, gp_len, List.length_map]
        exact small_line (by omega)
      refine ⟨o, g, _, _, rfl, rfl, eo, eg, hcat, fun n0 nn0 => ?_⟩
      have s4 := (((s2.trans sm).trans s3).trans (same_upd (o := HO.lst ([V.int ((ps.map V.ref).length : Nat)] ++ (gp (-1) (List.map (fun e : Int × List Int => e.1) es)).map V.int)) nn0))
      have nH : H n0 = none := ((s2.trans sm).trans s3).free nn0
      have e0 : [V.int ((ps.map V.ref).length : Nat)] ++ (gp (-1) (List.map (fun e : Int × List Int => e.1) es)).map V.int = (([(es.length : Int)] ++ gp (-1) (List.map (fun e : Int × List Int => e.1) es)) ++ pls (es.take 0)).map V.int := by
        rw [hpl]
        show _ = ((([(es.length : Int)] ++ gp (-1) (List.map (fun e : Int × List Int => e.1) es)) ++ []).map V.int)
        rw [List.append_nil, List.map_append]
        rfl
      -- the loop
      refine ⟨_, rfl, a, rfl, ⟨_, SqL.of (s4 _ _ hS)⟩, for_list (K := K) (a := a) (xs := ps.map V.ref) (fun i σ H4 => ∃ x1 x2, σ = [some (.ref a), x1, x2, some (.ref n0)] ∧ Same H H4 ∧ H4 n0 = some (.lst ((([(es.length : Int)] ++ gp (-1) (List.map (fun e : Int × List Int => e.1) es)) ++ pls (es.take i)).map V.int)))
        ⟨none, none, rfl, s4, by rw [upd_same, e0]⟩ (fun i σ H4 _ ⟨_, _, _, sx, _⟩ => SqL.of (sx _ _ hS)) (fun i x σ H4 hi hp => ?_) (fun σ H4 hp => ?_)⟩
      · obtain ⟨p, hp', rfl⟩ := map_at hi
        obtain ⟨x1, x2, rfl, sx, en⟩ := hp
        obtain ⟨e, he, hea⟩ := hE.get hp'
        obtain ⟨t, t1, t2⟩ := hea.same sx
        have hle := hG.lenE (List.mem_of_getElem? he)
        refine ⟨p, _, rfl, SqT.of t1, rfl, _, _, rfl, _, _, rfl, rfl, ?_⟩
        refine ⟨_, rfl, _, rfl, .ref t, _, rfl, .inr ⟨_, SqT.of t2, rfl⟩, _, _, rfl, rfl, (by show 1 ≤ sizeLine; decide), fun o2 no2 => ?_⟩
        have s5 := same_upd (o := HO.lst [V.int ((((e.2.map V.int).length : Nat) : Int) - 1)]) no2
        refine ⟨_, rfl, t, e.2, rfl, .inr (SqT.of (s5 _ _ t2)), by omega, fun H5 g2 s6 ng2 eg2 => ?_⟩
        have eo2 := s6 _ _ (upd_same (H := H4) (a := o2) (o := HO.lst [V.int ((((e.2.map V.int).length : Nat) : Int) - 1)]))
        have hcat2 : 1 + ((gp (-1) e.2).map V.int).length ≤ sizeLine := by
          rw [List.length_map, gp_len]
          exact small_line (by omega)
        refine ⟨o2, g2, _, _, rfl, rfl, eo2, eg2, hcat2, fun n1 nn1 => ?_⟩
        have s7 := same_upd (o := HO.lst ([V.int ((((e.2.map V.int).length : Nat) : Int) - 1)] ++ (gp (-1) e.2).map V.int)) nn1
        have en2 := s7 _ _ (s6 _ _ (s5 _ _ en))
        have epl : [V.int ((((e.2.map V.int).length : Nat) : Int) - 1)] ++ (gp (-1) e.2).map V.int = (pl e).map V.int := by
          unfold pl
          rw [List.map_append, List.length_map]
          rfl
        have hpre : (([(es.length : Int)] ++ gp (-1) (List.map (fun e : Int × List Int => e.1) es)) ++ pls (es.take (i + 1))).length ≤ cs.length := by
          have h1 : pls es = pls (es.take (i + 1)) ++ pls (es.drop (i + 1)) := by
            unfold pls
            rw [← List.flatMap_append, List.take_append_drop]
          have h2 := hnums
          unfold nums at h2
          rw [h1] at h2
          simp only [List.length_append] at h2 ⊢
          omega
        rw [take_more he, pls_snoc, ← List.append_assoc, List.length_append] at hpre
        refine ⟨n0, n1, _, _, rfl, rfl, en2, upd_same, ?_, ?_⟩
        · rw [epl, List.length_map, List.length_map]
          exact small_line (by omega)
        · refine ⟨some (V.int e.1), some (V.ref t), rfl, fun b u ebu => ?_, ?_⟩
          · rw [upd_ne (ne_of_none ebu nH)]
            exact s7 _ _ (s6 _ _ (s5 _ _ (sx _ _ ebu)))
          · rw [upd_same, epl, ← List.map_append, take_more he, pls_snoc, ← List.append_assoc]
      · obtain ⟨x1, x2, rfl, sx, en⟩ := hp
        rw [List.length_map, hE.1, List.take_length] at en
        refine ⟨_, rfl, n0, nums es, rfl, SqL.of en, hG.nn, ?_, fun H5 s8 => ?_⟩
        · rw [hG.code]
          omega
        · rw [hG.code]
          exact q _ (sx.trans s8)
end
end K10
set_option Elab.async false
set_option linter.all false
set_option maxRecDepth 100000
set_option maxHeartbeats 4000000
/-! CodeReader: __init__, is_done, next_number. -/
namespace K10
open PySem PySem.Spec PyProof.Rows L2
/-! ### one step of the reader -/
theorem drop_at {cs : List Nat} {k c : Nat} (h : cs[k]? = some c) : cs.drop k = c :: cs.drop (k + 1) := by
  obtain ⟨hl, he⟩ := List.getElem?_eq_some_iff.mp h
  rw [List.drop_eq_getElem_cons hl, he]
theorem drop_end {cs : List Nat} {k : Nat} (h : cs[k]? = none) : cs.drop k = [] := List.drop_eq_nil_iff.mpr (List.getElem?_eq_none_iff.mp h)
theorem pn_end {cs : List Nat} {k : Nat} {f : Bool} {told sc : Int} (h : cs[k]? = none) : pn (cs.drop k) f told sc k = .inl k := by
  rw [drop_end h]
  rfl
theorem pn_more {cs : List Nat} {k c : Nat} {f : Bool} {told sc : Int} (h : cs[k]? = some c) (hc : 65 ≤ c ∧ c ≤ 80) : pn (cs.drop k) f told sc k = pn (cs.drop (k + 1)) false (told + sc * ((c : Int) - 65)) (sc * 16) (k + 1) := by
  rw [drop_at h, pn, if_pos hc]
theorem pn_last {cs : List Nat} {k c : Nat} {f : Bool} {told sc : Int} (h : cs[k]? = some c) (hc : 97 ≤ c ∧ c ≤ 112) (hf : ¬ (c = 97 ∧ f = false)) : pn (cs.drop k) f told sc k = .inr (told + sc * ((c : Int) - 97), k + 1) := by
  rw [drop_at h, pn, if_neg (by omega), if_pos ⟨hc, hf⟩]
theorem pn_bad {cs : List Nat} {k c : Nat} {f : Bool} {told sc : Int} (h : cs[k]? = some c) (h1 : ¬ (65 ≤ c ∧ c ≤ 80)) (h2 : ¬ ((97 ≤ c ∧ c ≤ 112) ∧ ¬ (c = 97 ∧ f = false))) : pn (cs.drop k) f told sc k = .inl k := by
  rw [drop_at h, pn, if_neg h1, if_neg h2]
theorem cut_sign (cs : List Nat) (k : Nat) : cutS (S cs) (some (k : Int)) (some ((k : Int) + 1)) = S ((cs.drop k).take 1) := by
  unfold cutS
  rw [show ((k : Int) + 1) = ((k + 1 : Nat) : Int) from rfl, HT.sIx_nat, HT.sIx_nat, S_len, S_cps]
  by_cases h : k < cs.length
  · rw [Nat.min_eq_left (by omega), Nat.min_eq_left (by omega), Nat.add_sub_cancel_left]
  · rw [Nat.min_eq_right (by omega), Nat.min_eq_right (by omega), Nat.sub_self, List.drop_eq_nil_iff.mpr (by omega : cs.length ≤ k)]
    simp
theorem sign_some {cs : List Nat} {k c : Nat} (h : cs[k]? = some c) : cutS (S cs) (some (k : Int)) (some ((k : Int) + 1)) = S [c] := by
  rw [cut_sign, drop_at h]
  rfl
theorem sign_none {cs : List Nat} {k : Nat} (h : cs[k]? = none) : cutS (S cs) (some (k : Int)) (some ((k : Int) + 1)) = S [] := by
  rw [cut_sign, drop_end h]
  rfl
theorem empty_S : (PySem.Str.ofString "") = S [] := by decide +kernel
theorem mem_end {c : Nat} : c ∈ (PySem.Str.ofString "abcdefghijklmnop").cps.toList ↔ 97 ≤ c ∧ c ≤ 112 := by
  rw [ends_S, S_cps]
  unfold endL
  rw [List.mem_map]
  constructor
  · rintro ⟨i, hi, rfl⟩
    have := List.mem_range.mp hi
    omega
  · intro h
    exact ⟨c - 97, List.mem_range.mpr (by omega), by omega⟩
theorem mem_both {c : Nat} : c ∈ ((PySem.Str.ofString "abcdefghijklmnop") ++ (PySem.Str.ofString "ABCDEFGHIJKLMNOP")).cps.toList ↔ (97 ≤ c ∧ c ≤ 112) ∨ (65 ≤ c ∧ c ≤ 80) := by
  rw [ends_S, furs_S, S_app, S_cps, List.mem_append]
  unfold endL furL
  rw [List.mem_map, List.mem_map]
  constructor
  · rintro (⟨i, hi, rfl⟩ | ⟨i, hi, rfl⟩)
    · have := List.mem_range.mp hi
      omega
    · have := List.mem_range.mp hi
      omega
  · rintro (h | h)
    · exact .inl ⟨c - 97, List.mem_range.mpr (by omega), by omega⟩
    · exact .inr ⟨c - 65, List.mem_range.mpr (by omega), by omega⟩
theorem ix_end {c : Nat} (h : 97 ≤ c ∧ c ≤ 112) : Txt.index0 (PySem.Str.ofString "abcdefghijklmnop") (S [c]) = some (c - 97) := by
  have key : ∀ i : Fin 16, Txt.index0 (PySem.Str.ofString "abcdefghijklmnop") (S [97 + i.val]) = some i.val := by decide +kernel
  have z := key ⟨c - 97, by omega⟩
  rw [show 97 + (c - 97) = c by omega] at z
  exact z
theorem ix_fur {c : Nat} (h : 65 ≤ c ∧ c ≤ 80) : Txt.index0 (PySem.Str.ofString "ABCDEFGHIJKLMNOP") (S [c]) = some (c - 65) := by
  have key : ∀ i : Fin 16, Txt.index0 (PySem.Str.ofString "ABCDEFGHIJKLMNOP") (S [65 + i.val]) = some i.val := by decide +kernel
  have z := key ⟨c - 65, by omega⟩
  rw [show 65 + (c - 65) = c by omega] at z
  exact z
/-- the reader at r: the text cs, at k -/
def RdO (K : PySem.W.Frag) (dx : Addr) (cs : List Nat) (k : Nat) : HO := .ins (He.ga K "CodeReader") dx [("text", .str (S cs)), ("at", .int (k : Int))]
/-- all but r stands as it was -/
def SameB (r : Addr) (H H' : Hp) : Prop := ∀ b o, b ≠ r → H b = some o → H' b = some o
theorem SameB.refl (r : Addr) (H : Hp) : SameB r H H := fun _ _ _ e => e
theorem SameB.trans {r : Addr} {H H1 H2 : Hp} (a : SameB r H H1) (b : SameB r H1 H2) : SameB r H H2 := fun c o n e => b c o n (a c o n e)
theorem SameB.same {r : Addr} {H H1 : Hp} (a : Same H H1) : SameB r H H1 := fun c o _ e => a c o e
theorem SameB.put {r : Addr} {H : Hp} {o : HO} : SameB r H (upd H r o) := fun b u n e => by
  rw [upd_ne n]
  exact e
/-- the error: its own dict d holds the place -/
def ErrAt (d : Addr) (v : V) (H : Hp) : Prop := H d = some (.xd [("at", v)])
section
variable {P : Program} {w : World} {K : PySem.W.Frag} {mg : Str → Option Value} {base : Heap}
theorem nc_binds2 (T : Txt K mg) : ∃ fd, FunD K "__init__" "NoCode.__init__" (defArgs s_NoCodeDinitD) (defBody s_NoCodeDinitD) (defScope s_NoCodeDinitD) [.non] [] (fNC K) fd ∧ Binds K fd ["self", "at"] [] ∧ ∃ ds, Vals [V.non] ds ∧ Binds K fd ["self", "at"] ds := by
  obtain ⟨fd, F⟩ := T.f_NoCodeDinitD
  obtain ⟨d0, r0, b0⟩ := FunD.binds1 (ps := ["self", "at"]) F 2 1 (by simp) rfl fun T kV doc pm an cdv ct us its hu hi => match us, its, hu, hi with | [_, _], [_], _, _ => ⟨_, rfl, rfl⟩
  obtain ⟨d1, r1, b1⟩ := FunD.binds1 (ps := ["self", "at"]) F 1 0 (by simp) rfl fun T kV doc pm an cdv ct us its hu hi => match us, its, hu, hi with | [_], [_], _, _ => ⟨_, rfl, rfl⟩
  refine ⟨fd, F, ?_, d1, r1, b1⟩
  have e : d0 = [] := by
    cases r0
    rfl
  rw [← e]
  exact b0
/-! ### __init__ -/
theorem sc_rinit : FnScope ["self", "text"] ["self", "text"] (defScope s_CodeReaderDinitD) := ⟨rfl, rfl, rfl, by decide +kernel, rfl, by decide +kernel, by decide +kernel⟩
def spRInit (K : PySem.W.Frag) : Sp := fun vs H Q E => ∃ (r dx : Addr) (x : V) (t : Value) (b : Bool), vs = [.ref r, x] ∧ H r = some (.ins (He.ga K "CodeReader") dx []) ∧ TyX K H x t ∧ PySem.W.kitOne K t (.type "str") = some b ∧
  (b = true → ∃ cs, x = .str (S cs) ∧ Q .non (upd H r (RdO K dx cs 0))) ∧ (b = false → ∀ d, H d = none → E (.ref (nc K)) (some d) (upd H d (.xd [("at", .non)])))
theorem ok_rinit (T : Txt K mg) : Def P w K mg base (L2.CX P w) 3 (He.ma K (He.ga K "CodeReader") "__init__") ["self", "text"] (spRInit K) := by
  obtain ⟨fd, F, b⟩ := T.f_CodeReaderDinitD
  obtain ⟨fe, FE, be2, de, re, be1⟩ := nc_binds2 T
  refine ⟨fd, b, F.ok sc_rinit (fun vs H Q E h => ?_) (fun cdv A outer s H vs Q E hr h => ?_)⟩
  · obtain ⟨a, n, m, c, d, rfl, _⟩ := h
    rfl
  · obtain ⟨r, dx, x, t, bb, rfl, hO, hT, hk, hy, hn⟩ := h
    refine ⟨_, (pss_cons (ps_if (pt_not (pt_val (pe_callB call_isi (by rfl) T.z_isinstance (by decide +kernel) (pa_cons (pv 1) (pa_cons (pe_bT (n := "str") (by rfl) T.z_str (by decide +kernel)) pa_nil)))))
        (pss_one (ps_raise rfl (takes_of rfl rfl rfl rfl) (pmk_oex0 T.err.oex T.err.iC T.err.tI (ok_ncinit T FE) hr be1 re pass0 (by rfl) T.g_NoCode))) pss_nil)
      (pss_cons (ps_fld (pv 0) (pv 1) rfl) (pss_one (ps_fld (pv 0) pe_int rfl)))), ?_⟩
    refine ⟨_, rfl, _, _, _, _, bb, rfl, .ty "str", hT, hk, bb, rfl, ?_⟩
    cases bb with
    | false =>
      refine iteT ?_
      exact exc_post (vs := []) (dvs := [V.non]) rfl fun d nd => hn rfl d nd
    | true =>
      obtain ⟨cs, rfl, q⟩ := hy rfl
      refine iteF ?_
      refine ⟨_, rfl, .ref r, rfl, r, _, dx, _, rfl, hO, T.cls, T.noat_text, by decide, ?_⟩
      refine ⟨.ref r, rfl, r, _, dx, _, rfl, upd_same, T.cls, T.noat_at, (by show (1 : Nat) < 1000; decide), ?_⟩
      rw [upd_upd]
      exact q
/-! ### is_done -/
theorem sc_done : FnScope ["self"] ["self"] (defScope s_CodeReaderis_done) := ⟨rfl, rfl, rfl, by decide +kernel, rfl, by decide +kernel, by decide +kernel⟩
def spDone (K : PySem.W.Frag) : Sp := fun vs H Q E => ∃ (r dx : Addr) (cs : List Nat) (k : Nat), vs = [.ref r] ∧ H r = some (RdO K dx cs k) ∧ cs.length ≤ 100000 ∧ Q (.bl (decide (k = cs.length))) H
theorem ok_done (T : Txt K mg) : Def P w K mg base CX0 1 (He.ma K (He.ga K "CodeReader") "is_done") ["self"] (spDone K) := by
  obtain ⟨fd, F, b⟩ := T.f_CodeReaderis_done
  refine ⟨fd, b, F.ok sc_done (fun vs H Q E h => ?_) (fun cdv A outer s H vs Q E hr h => ?_)⟩
  · obtain ⟨a, n, m, c, rfl, _⟩ := h
    rfl
  · obtain ⟨r, dx, cs, k, rfl, hO, hz, q⟩ := h
    refine ⟨_, PSs.nox (pss_one (ps_ret (pe_cmpR op_eq (pe_fld (pv 0) rfl) (pe_callB call_len (by rfl) T.z_len (by decide +kernel) (pa_cons (pe_fld (pv 0) rfl) pa_nil)) (nomark _)))), ?_⟩
    refine ⟨.ref r, rfl, r, _, dx, _, _, rfl, hO, T.cls, T.noat_at, rfl, .ref r, rfl, r, _, dx, _, _, rfl, hO, T.cls, T.noat_text, rfl, ?_⟩
    refine ⟨_, _, rfl, ⟨?_, rfl⟩, rfl, ?_⟩
    · rw [S_len]
      exact small_line (by omega)
    · have e : decide (V.int (k : Int) = V.int (((S cs).length : Nat) : Int)) = decide (k = cs.length) := by
        rw [S_len]
        by_cases h : k = cs.length
        · rw [decide_eq_true h, h]
          exact decide_eq_true rfl
        · rw [decide_eq_false h]
          refine decide_eq_false fun z => h ?_
          have z2 := V.int.inj z
          omega
      show Q (.bl (decide (V.int (k : Int) = V.int (((S cs).length : Nat) : Int)))) H
      rw [e]
      exact q
end
end K10
set_option Elab.async false
set_option linter.all false
set_option maxRecDepth 100000
set_option maxHeartbeats 4000000
/-! CodeReader.next_number. -/
namespace K10
open PySem PySem.Spec PyProof.Rows L2
section
variable {P : Program} {w : World} {K : PySem.W.Frag} {mg : Str → Option Value} {base : Heap}
theorem sc_next : FnScope ["self", "begin", "told", "scale", "sign"] ["self"] (defScope s_CodeReadernext_number) := ⟨rfl, rfl, rfl, by decide +kernel, rfl, by decide +kernel, by decide +kernel⟩
/-- the number at k and the place behind it; or the error at the wrong place -/
def spNext (K : PySem.W.Frag) : Sp := fun vs H Q E => ∃ (r dx : Addr) (cs : List Nat) (k : Nat), vs = [.ref r] ∧ H r = some (RdO K dx cs k) ∧ cs.length ≤ 100000 ∧
  (∀ (x : Int) (b : Nat) (H' : Hp), num cs k = .inr (x, b) → SameB r H H' → H' r = some (RdO K dx cs b) → Q (.int x) H') ∧
  (∀ (p : Nat) (d : Addr) (H' : Hp), num cs k = .inl p → SameB r H H' → H d = none → ErrAt d (.int (p : Int)) H' → E (.ref (nc K)) (some d) H')
def nextInv (K : PySem.W.Frag) (H : Hp) (r dx : Addr) (cs : List Nat) (k0 : Nat) : L2.St → Hp → Prop := fun σ H1 => ∃ (k : Nat) (told sc : Int) (x : Option V), σ = [some (.ref r), some (.int (k0 : Int)), some (.int told), some (.int sc), x] ∧ H1 r = some (RdO K dx cs k) ∧ SameB r H H1 ∧ k0 ≤ k ∧
  pn (cs.drop k) (decide (k = k0)) told sc k = num cs k0
theorem ok_next (T : Txt K mg) : Def P w K mg base (L2.CX P w) 3 (He.ma K (He.ga K "CodeReader") "next_number") ["self"] (spNext K) := by
  obtain ⟨fd, F, b⟩ := T.f_CodeReadernext_number
  obtain ⟨fe, FE, be2, de, re, be1⟩ := nc_binds2 T
  obtain ⟨tE, gE⟩ := T.s_ENDS
  obtain ⟨tF, gF⟩ := T.s_FURTHER
  obtain ⟨tB, gB⟩ := T.base
  refine ⟨fd, b, F.ok sc_next (fun vs H Q E h => ?_) (fun cdv A outer s H vs Q E hr h => ?_)⟩
  · obtain ⟨a, n, m, c, rfl, _⟩ := h
    rfl
  · obtain ⟨r, dx, cs, k0, rfl, hO, hz, hok, hbad⟩ := h
    refine ⟨_, (pss_cons (ps_set (i := 1) sc_next.nd rfl (.inl rfl) (pe_fld (pv 0) rfl))
      (pss_cons (ps_asg (pe_tup (pa_cons pe_int (pa_cons pe_int pa_nil))) (pg_tup rfl (pgs_cons (pg_name (i := 2) sc_next.nd rfl (.inl rfl)) (pgs_cons (pg_name (i := 3) sc_next.nd rfl (.inl rfl)) pgs_nil))))
      (pss_one (ps_while (passes_of rfl) (pt_val pe_bl)
        (pss_cons (ps_set (i := 4) sc_next.nd rfl (.inl rfl) (pe_slice sl_str (pe_fld (pv 0) rfl) (po_some (pe_fld (pv 0) rfl)) (po_some (pe_op op_add (pe_fld (pv 0) rfl) pe_int))))
        (pss_cons (ps_if (PW.pt (pw_or (pt_cmpR op_eq (pv 4) pe_str (nomark _)) (pw_or (pt_cmpR op_notIn_sign (pv 4) (pe_op op_add_str (pe_gS (by rfl) gE) (pe_gS (by rfl) gF)) (by rfl))
            (pw_or1 (PW.pt (pw_and (pt_cmpR op_eq (pv 4) (pe_item_str (pe_gS (by rfl) gE) pe_int (fun _ _ => rfl)) (nomark _)) (pw_and1 (pt_cmpR op_gt (pe_fld (pv 0) rfl) (pv 1) (nomark _))))))))) 
            (pss_one (ps_raise rfl (takes_of rfl rfl rfl rfl) (pmk_oex T.err.oex T.err.iC T.err.tI (ok_ncinit T FE) hr be2 .nil pass0 (by rfl) T.g_NoCode (pa_cons (pe_fld (pv 0) rfl) pa_nil)))) pss_nil)
        (pss_cons (ps_fldaug (pv 0) pe_int in_add)
        (pss_cons (ps_if (pt_cmpR op_in_sign (pv 4) (pe_gS (by rfl) gE) (by rfl)) (pss_one (ps_ret (pe_op op_add (pv 2) (pe_op op_mul (pv 3) (pe_bmS PySem.F.plainAttrs_str PySem.F.slot_str_index PySem.F.type_str_index (mt_indexX rfl takes0) (pe_gS (by rfl) gE) (pa_cons (pv 4) pa_nil)))))) pss_nil)
        (pss_cons (ps_aug (i := 2) sc_next.nd rfl (.inl rfl) (pe_op op_mul (pv 3) (pe_bmS PySem.F.plainAttrs_str PySem.F.slot_str_index PySem.F.type_str_index (mt_indexX rfl takes0) (pe_gS (by rfl) gF) (pa_cons (pv 4) pa_nil))) iop_add)
        (pss_one (ps_aug (i := 3) sc_next.nd rfl (.inl rfl) (pe_gI (by rfl) gB) iop_mul))))))))))), ?_⟩
    refine ⟨.ref r, rfl, r, _, dx, _, _, rfl, hO, T.cls, T.noat_at, rfl, ?_⟩
    refine ⟨by decide, fun p np => ⟨p, _, rfl, SqT.of upd_same, rfl, _, _, rfl, _, _, rfl, rfl, ?_⟩⟩
    have rp : r ≠ p := ne_of_none hO np
    refine while_by (nextInv K H r dx cs k0) (fun σ H1 => match H1 r with | some (.ins _ _ [_, (_, .int k)]) => cs.length - k.toNat | _ => 0)
      ⟨k0, 0, 1, none, rfl, by rw [upd_ne rp]; exact hO, SameB.same (same_upd np), Nat.le_refl _, by rw [decide_eq_true rfl]; rfl⟩ (fun σ H1 hp => ?_) (fun σ H1 Q1 Q2 h12 hq => ?_)
    · obtain ⟨k, told, sc, x, rfl, hO1, sm, hk, hpn⟩ := hp
      -- the error at k
      have err : num cs k0 = .inl k → ∀ d, H1 d = none → E (.ref (nc K)) (some d) (upd H1 d (.xd [("at", .int (k : Int))])) := fun hn d nd => by
        have rd : r ≠ d := ne_of_none hO1 nd
        refine hbad k d _ hn (fun b o hb e => ?_) ?_ upd_same
        · have e1 := sm b o hb e
          rw [upd_ne (ne_of_none e1 nd)]
          exact e1
        · cases e : H d with
          | none => rfl
          | some o =>
            have e1 := sm d o (Ne.symm rd) e
            rw [nd] at e1
            cases e1
      refine ⟨true, rfl, iteT ?_⟩
      refine ⟨.ref r, rfl, r, _, dx, _, _, rfl, hO1, T.cls, T.noat_text, rfl, ?_⟩
      refine ⟨.ref r, rfl, r, _, dx, _, _, rfl, hO1, T.cls, T.noat_at, rfl, _, rfl, ?_⟩
      refine ⟨.ref r, rfl, r, _, dx, _, _, rfl, hO1, T.cls, T.noat_at, rfl, _, _, rfl, rfl, _, rfl, ?_⟩
      refine ⟨S cs, rfl, by rw [S_len]; exact small_line (by omega), ?_⟩
      cases hc : cs[k]? with
      | none =>
        rw [sign_none hc]
        refine ⟨_, rfl, rfl, true, by rw [decide_eq_true (congrArg V.str empty_S.symm)], iteT (iteT ?_)⟩
        exact ⟨.ref r, rfl, r, _, dx, _, _, rfl, hO1, T.cls, T.noat_at, rfl, exc_post (vs := [V.int k]) (dvs := []) rfl (err (by rw [← hpn, pn_end hc]))⟩
      | some c =>
        rw [sign_some hc]
        have hkl : k < cs.length := (List.getElem?_eq_some_iff.mp hc).1
        have ne0 : ¬ (V.str (S [c]) = V.str (PySem.Str.ofString "")) := fun z => by
          have z2 := S_inj ((V.str.inj z).trans empty_S)
          cases z2
        refine ⟨_, rfl, rfl, false, by rw [decide_eq_false ne0], iteF ?_⟩
        refine ⟨_, rfl, _, _, rfl, rfl, by decide +kernel, c, _, rfl, rfl, ?_⟩
        by_cases hin : (97 ≤ c ∧ c ≤ 112) ∨ (65 ≤ c ∧ c ≤ 80)
        · refine ⟨false, by rw [decide_eq_true (mem_both.mpr hin)]; rfl, iteF ?_⟩
          refine ⟨_, rfl, _, _, 97, rfl, rfl, by decide, by decide, by decide +kernel, by decide +kernel, rfl, ?_⟩
          refine ⟨_, rfl, ite2 (fun h => ?_) (fun h => iteF ?_)⟩
          rotate_left
          have hB : ¬ (c = 97 ∧ k0 < k) := fun z => h (by rw [z.1]; exact decide_eq_true rfl)
          rotate_left
          have h97 : c = 97 := by
            have z := S_inj (V.str.inj (of_decide_eq_true h) : S [c] = S [97])
            exact (List.cons.inj z).1
          refine ⟨.ref r, rfl, r, _, dx, _, _, rfl, hO1, T.cls, T.noat_at, rfl, _, rfl, _, _, rfl, rfl, _, rfl, ite2 (fun h' => ?_) (fun h' => ?_)⟩
          · have hlt : (k0 : Int) < (k : Int) := of_decide_eq_true h'
            refine ⟨.ref r, rfl, r, _, dx, _, _, rfl, hO1, T.cls, T.noat_at, rfl, exc_post (vs := [V.int k]) (dvs := []) rfl (err ?_)⟩
            rw [← hpn, decide_eq_false (by omega : ¬ k = k0), pn_bad hc (by omega) (fun z => z.2 ⟨h97, rfl⟩)]
          have hB : ¬ (c = 97 ∧ k0 < k) := fun z => h' (decide_eq_true (by omega))
          all_goals
            have hf : ¬ (c = 97 ∧ decide (k = k0) = false) := fun z => hB ⟨z.1, by have z2 := of_decide_eq_false z.2; omega⟩
            refine ⟨.ref r, rfl, r, _, dx, _, _, rfl, hO1, T.cls, T.noat_at, rfl, _, _, rfl, rfl, dx, _, hO1, (by show (2 : Nat) < 1000; decide), ?_⟩
            have hO2 : upd H1 r (.ins (He.ga K "CodeReader") dx (putF "at" (.int ((k : Int) + 1)) [("text", .str (S cs)), ("at", .int (k : Int))])) r = some (RdO K dx cs (k + 1)) := upd_same
            have sm2 : SameB r H (upd H1 r (.ins (He.ga K "CodeReader") dx (putF "at" (.int ((k : Int) + 1)) [("text", .str (S cs)), ("at", .int (k : Int))]))) := sm.trans SameB.put
            refine ⟨_, rfl, c, _, rfl, rfl, _, rfl, ite2 (fun hE => ?_) (fun hE => ?_)⟩
            · have hc2 : 97 ≤ c ∧ c ≤ 112 := mem_end.mp (of_decide_eq_true hE)
              refine ⟨_, rfl, _, rfl, rfl, _, rfl, _, _, rfl, rfl, fun i hi => ?_, fun hn => ?_⟩
              · rw [ix_end hc2] at hi
                have ei := Option.some.inj hi
                refine ⟨_, _, rfl, rfl, .inr ⟨by omega, by omega⟩, _, _, rfl, rfl, ?_⟩
                refine hok _ (k + 1) _ ?_ sm2 hO2
                rw [← hpn, pn_last hc hc2 hf, ← ei, show ((c : Int) - 97) = ((c - 97 : Nat) : Int) by omega]
              · rw [ix_end hc2] at hn
                cases hn
            · have hc2 : 65 ≤ c ∧ c ≤ 80 := hin.resolve_left fun z => hE (decide_eq_true (mem_end.mpr z))
              refine ⟨_, rfl, _, rfl, rfl, _, rfl, _, _, rfl, rfl, fun i hi => ?_, fun hn => ?_⟩
              · rw [ix_fur hc2] at hi
                have ei := Option.some.inj hi
                refine ⟨_, _, rfl, rfl, .inr ⟨by omega, by omega⟩, _, _, rfl, rfl, ?_⟩
                refine ⟨_, rfl, _, _, rfl, rfl, .inr ⟨by decide, by decide⟩, ?_, ?_⟩
                · refine ⟨k + 1, _, _, _, rfl, hO2, sm2, by omega, ?_⟩
                  rw [← hpn, pn_more hc hc2, decide_eq_false (by omega : ¬ k + 1 = k0), ← ei, show ((c : Int) - 65) = ((c - 65 : Nat) : Int) by omega]
                · rw [hO1]
                  show (match upd H1 r _ r with | some (.ins _ _ [_, (_, .int k)]) => cs.length - k.toNat | _ => 0) < cs.length - ((k : Int)).toNat
                  rw [hO2]
                  show cs.length - (((k + 1 : Nat) : Int)).toNat < cs.length - ((k : Int)).toNat
                  omega
              · rw [ix_fur hc2] at hn
                cases hn
        · refine ⟨true, by rw [decide_eq_false (fun z => hin (mem_both.mp z))]; rfl, iteT (iteT ?_)⟩
          exact ⟨.ref r, rfl, r, _, dx, _, _, rfl, hO1, T.cls, T.noat_at, rfl, exc_post (vs := [V.int k]) (dvs := []) rfl (err (by rw [← hpn, pn_bad hc (fun z => hin (.inr z)) (fun z => hin (.inl z.1))]))⟩
    · obtain ⟨b, hb, z⟩ := hq
      exact ⟨b, hb, h12 _ _ z⟩
end
end K10
set_option Elab.async false
set_option linter.all false
set_option maxRecDepth 100000
set_option maxHeartbeats 4000000
/-! CodeReader.rising. -/
namespace K10
open PySem PySem.Spec PyProof.Rows L2
theorem SameB.free {r : Addr} {H H1 : Hp} (s : SameB r H H1) {o : HO} (hr : H1 r = some o) {d : Addr} (nd : H1 d = none) : H d = none := by
  cases e : H d with
  | none => rfl
  | some u =>
    have hd : d ≠ r := fun z => by rw [z, hr] at nd; cases nd
    rw [s d u hd e] at nd
    cases nd
theorem num_bound {cs : List Nat} {k b : Nat} {x : Int} (h : num cs k = .inr (x, b)) : k < b ∧ b ≤ cs.length := ⟨(num_code h).2.1, (num_code h).2.2.1⟩
section
variable {P : Program} {w : World} {K : PySem.W.Frag} {mg : Str → Option Value} {base : Heap}
theorem sc_rise : FnScope ["self", "many", "told", "last"] ["self", "many"] (defScope s_CodeReaderrising) := ⟨rfl, rfl, rfl, by decide +kernel, rfl, by decide +kernel, by decide +kernel⟩
def spRise (K : PySem.W.Frag) : Sp := fun vs H Q E => ∃ (r dx : Addr) (cs : List Nat) (k : Nat) (m : Int), vs = [.ref r, .int m] ∧ H r = some (RdO K dx cs k) ∧ cs.length ≤ 100000 ∧
  (∀ (l : List Int) (b : Nat) (p : Addr) (H' : Hp), rs cs m.toNat k (-1) [] = .inr (l, b) → SameB r H H' → H' r = some (RdO K dx cs b) → H p = none → H' p = some (.lst (l.map V.int)) → Q (.ref p) H') ∧
  (∀ (p : Nat) (d : Addr) (H' : Hp), rs cs m.toNat k (-1) [] = .inl p → SameB r H H' → H d = none → ErrAt d (.int (p : Int)) H' → E (.ref (nc K)) (some d) H')
def riseInv (K : PySem.W.Frag) (H : Hp) (r dx : Addr) (cs : List Nat) (m : Int) (k0 : Nat) (o : Addr) : L2.St → Hp → Prop := fun σ H1 => ∃ (k : Nat) (last : Int) (acc : List Int), σ = [some (.ref r), some (.int m), some (.ref o), some (.int last)] ∧ H1 r = some (RdO K dx cs k) ∧ SameB r H H1 ∧ H1 o = some (.lst (acc.map V.int)) ∧
  acc.length + k0 ≤ k ∧ acc.length ≤ cs.length ∧ rs cs (m.toNat - acc.length) k last acc = rs cs m.toNat k0 (-1) []
theorem ok_rise (T : Txt K mg) : Def P w K mg base (L2.CX P w) 4 (He.ma K (He.ga K "CodeReader") "rising") ["self", "many"] (spRise K) := by
  obtain ⟨fd, F, b⟩ := T.f_CodeReaderrising
  refine ⟨fd, b, F.ok sc_rise (fun vs H Q E h => ?_) (fun cdv A outer s H vs Q E hr h => ?_)⟩
  · obtain ⟨a, n, m, c, d, rfl, _⟩ := h
    rfl
  · obtain ⟨r, dx, cs, k0, m, rfl, hO, hz, hok, hbad⟩ := h
    refine ⟨_, (pss_cons (ps_set (i := 2) sc_rise.nd rfl (.inl rfl) (pe_lst pa_nil))
      (pss_cons (ps_set (i := 3) sc_rise.nd rfl (.inl rfl) (pe_un un_neg pe_int))
      (pss_cons (ps_while (passes_of rfl) (pt_cmpR op_lt (pe_callB call_len (by rfl) T.z_len (by decide +kernel) (pa_cons (pv 2) pa_nil)) (pv 1) (nomark _))
        (pss_cons (ps_aug (i := 3) sc_rise.nd rfl (.inl rfl) (pe_op op_add pe_int (pe_methD0 (pv 0) T.cls T.m_next_number (ok_next T) hr (passes_call (E := E) (takes_of rfl rfl rfl rfl) (fun _ _ _ _ h => h)))) iop_add)
        (pss_one (ps_expr (pe_bm PySem.F.plainAttrs_list PySem.F.slot_list_append PySem.F.type_list_append mt_append (pv 2) (pa_cons (pv 3) pa_nil))))))
      (pss_one (ps_ret (pv 2)))))), ?_⟩
    refine ⟨Nat.zero_le _, fun o no => ⟨1, rfl, ?_⟩⟩
    have ro : r ≠ o := ne_of_none hO no
    refine while_by (riseInv K H r dx cs m k0 o) (fun σ H1 => match H1 o with | some (.lst xs) => m.toNat - xs.length | _ => 0)
      ⟨k0, -1, [], rfl, by rw [upd_ne ro]; exact hO, SameB.same (same_upd no), upd_same, by simp, Nat.zero_le _, rfl⟩ (fun σ H1 hp => ?_) (fun σ H1 Q1 Q2 h12 hq => ?_)
    · obtain ⟨k, last, acc, rfl, hO1, sm, eo, hle, hlc, hrs⟩ := hp
      refine ⟨_, rfl, .ref o, _, rfl, .inl ⟨_, SqL.of eo, rfl⟩, _, rfl, _, _, rfl, rfl, _, rfl, ite2 (fun hc => ?_) (fun hc => ?_)⟩
      · have hlt : ((acc.map V.int).length : Int) < m := of_decide_eq_true hc
        rw [List.length_map] at hlt
        have hn : m.toNat - acc.length = (m.toNat - (acc.length + 1)) + 1 := by omega
        refine ⟨_, rfl, .ref r, rfl, r, dx, _, rfl, hO1, rfl, r, dx, cs, k, rfl, hO1, hz, fun x b H2 hx s2 hO2 => ?_, fun p d H2 hx s2 nd hd => ?_⟩
        · obtain ⟨hb1, hb2⟩ := num_bound hx
          have eo2 : H2 o = some (.lst (acc.map V.int)) := s2 o _ (Ne.symm ro) eo
          refine ⟨_, _, rfl, rfl, _, _, rfl, rfl, .ref o, rfl, .inl ⟨rfl, _, SqL.of eo2⟩, _, rfl, o, _, _, rfl, rfl, eo2, ?_, ?_, ?_⟩
          · rw [List.length_map]
            exact small_line' (by omega)
          · refine ⟨b, last + (1 + x), acc ++ [last + (1 + x)], rfl, ?_, ?_, ?_, ?_, ?_, ?_⟩
            · rw [upd_ne ro]
              exact hO2
            · intro c u hcr e
              rw [upd_ne (ne_of_none e no)]
              exact s2 _ _ hcr (sm _ _ hcr e)
            · rw [upd_same, List.map_append]
              rfl
            · rw [List.length_append]
              show acc.length + 1 + k0 ≤ b
              omega
            · rw [List.length_append]
              show acc.length + 1 ≤ cs.length
              omega
            · rw [← hrs, hn, rs, hx, List.length_append]
              show rs cs (m.toNat - (acc.length + 1)) b (last + (1 + x)) (acc ++ [last + (1 + x)]) = rs cs (m.toNat - (acc.length + 1)) b (last + 1 + x) (acc ++ [last + 1 + x])
              rw [Int.add_assoc]
          · rw [eo, upd_same]
            show m.toNat - (acc.map V.int ++ [V.int (last + (1 + x))]).length < m.toNat - (acc.map V.int).length
            rw [List.length_append, List.length_map]
            show m.toNat - (acc.length + 1) < m.toNat - acc.length
            omega
        · refine hbad p d H2 ?_ (sm.trans s2) (sm.free hO1 nd) hd
          rw [← hrs, hn, rs, hx]
      · have hge : ¬ ((acc.map V.int).length : Int) < m := fun z => hc (decide_eq_true z)
        rw [List.length_map] at hge
        have hn : m.toNat - acc.length = 0 := by omega
        rw [hn] at hrs
        exact ⟨_, rfl, hok acc k o H1 (by rw [← hrs]; rfl) sm hO1 no eo⟩
    · obtain ⟨x, e1, x2, n, e2, hl, y, e3, i, j, ei, ej, k, ek, z⟩ := hq
      exact ⟨x, e1, x2, n, e2, hl, y, e3, i, j, ei, ej, k, ek, h12 _ _ z⟩
end
end K10
set_option Elab.async false
set_option linter.all false
set_option maxRecDepth 100000
set_option maxHeartbeats 4000000
/-! decode_entries. -/
namespace K10
open PySem PySem.Spec PyProof.Rows L2
/-- tuples stand -/
def TupS (H H' : Hp) : Prop := ∀ b xs, H b = some (.tup xs) → H' b = some (.tup xs)
theorem EntAt.tups {H H' : Hp} {p : Addr} {e : Int × List Int} (h : EntAt H p e) (s : TupS H H') : EntAt H' p e := by
  obtain ⟨t, h1, h2⟩ := h
  exact ⟨t, s _ _ h1, s _ _ h2⟩
theorem EntsAt.tups {H H' : Hp} {ps : List Addr} {es : List (Int × List Int)} (h : EntsAt H ps es) (s : TupS H H') : EntsAt H' ps es := ⟨h.1, fun i p e h1 h2 => (h.2 i p e h1 h2).tups s⟩
theorem TupS.trans {H H1 H2 : Hp} (a : TupS H H1) (b : TupS H1 H2) : TupS H H2 := fun c xs e => b c xs (a c xs e)
theorem TupS.same {H H1 : Hp} (a : Same H H1) : TupS H H1 := fun c xs e => a c _ e
theorem TupS.sameB {r : Addr} {H H1 : Hp} (a : SameB r H H1) {o : HO} (hr : H r = some o) (hn : ∀ xs, o ≠ .tup xs) : TupS H H1 := fun c xs e => a c _ (fun z => by rw [z, hr] at e; exact hn xs (Option.some.inj e)) e
theorem TupS.put {H : Hp} {r : Addr} {o u : HO} (hr : H r = some o) (hn : ∀ xs, o ≠ .tup xs) : TupS H (upd H r u) := fun c xs e => by
  rw [upd_ne (fun z => by rw [z, hr] at e; exact hn xs (Option.some.inj e))]
  exact e
theorem rdO_ne {K : PySem.W.Frag} {dx : Addr} {cs : List Nat} {k : Nat} (xs : List V) : RdO K dx cs k ≠ .tup xs := fun z => by
  unfold RdO at z
  cases z
theorem SameB.toSame {r : Addr} {H H2 H' : Hp} (a : Same H H2) (nr : H r = none) (b : SameB r H2 H') : Same H H' := fun c o e => b c o (fun z => by rw [z, nr] at e; cases e) (a c o e)
theorem TyX.same {K : PySem.W.Frag} {H H' : Hp} {x : V} {t : Value} (h : TyX K H x t) (s : Same H H') : TyX K H' x t := by
  cases h with
  | base b =>
    refine .base ?_
    cases b with
    | non => exact .non
    | bl y => exact .bl y
    | int i => exact .int i
    | str y => exact .str y
    | flt y => exact .flt y
    | lst e => exact .lst (s _ _ e)
    | frz e => exact .frz (s _ _ e)
    | tup e => exact .tup (s _ _ e)
    | dK e => exact .dK (s _ _ e)
    | dT e => exact .dT (s _ _ e)
    | ins e cl ha hn htk hm => exact .ins (s _ _ e) cl ha hn htk hm
  | byt y => exact .byt y
  | set e => exact .set (s _ _ e)
  | kList e c => exact .kList e c
  | kTuple e c => exact .kTuple e c
  | kDict e c => exact .kDict e c
  | fTuple e => exact .fTuple (s _ _ e)
  | fDict e => exact .fDict (s _ _ e)
theorem rs_len {cs : List Nat} {n k b : Nat} {l : List Int} (hk : k ≤ cs.length) (h : rs cs n k (-1) [] = .inr (l, b)) : l.length ≤ cs.length ∧ b ≤ cs.length := by
  obtain ⟨l', a1, a2, a3, a4, a5, a6, a7⟩ := rs_code cs n k (-1) [] l b hk h
  have e : l = l' := by rw [a1]; rfl
  subst e
  have h1 := congrArg List.length a7
  have h2 := cds_len (gp (-1) l)
  rw [List.length_drop, List.length_append, List.length_drop] at h1
  rw [gp_len] at h2
  omega
section
variable {P : Program} {w : World} {K : PySem.W.Frag} {mg : Str → Option Value} {base : Heap}
theorem sc_de : FnScope ["text", "reader", "slots", "told", "slot"] ["text"] (defScope s_decode_entries) := ⟨rfl, rfl, rfl, by decide +kernel, rfl, by decide +kernel, by decide +kernel⟩
/-- tuple(xs) -/
def rTupOf (K : PySem.W.Frag) : List V → Hp → VK → Prop := fun xs H Q => ∃ (p : Addr) (ys : List V), xs = [.ref p] ∧ ((SqL K H p ys ∧ ∀ l, H l = none → Q (.ref l) (upd H l (.tup ys))) ∨ (SqT K H p ys ∧ Q (.ref p) H))
def spDE (K : PySem.W.Frag) : Sp := fun vs H Q E => ∃ (x : V) (t : Value) (b : Bool), vs = [x] ∧ TyX K H x t ∧ PySem.W.kitOne K t (.type "str") = some b ∧
  (b = true → ∃ cs, x = .str (S cs) ∧ cs.length ≤ 100000 ∧
    (∀ (es : List (Int × List Int)) (p : Addr) (ps : List Addr) (H' : Hp), due cs = .inr es → Same H H' → H p = none → H' p = some (.lst (ps.map V.ref)) → EntsAt H' ps es → Q (.ref p) H') ∧
    (∀ (q : Nat) (d : Addr) (H' : Hp), due cs = .inl q → Same H H' → H d = none → ErrAt d (.int (q : Int)) H' → E (.ref (nc K)) (some d) H')) ∧
  (b = false → ∀ (d : Addr) (H' : Hp), Same H H' → H d = none → ErrAt d .non H' → E (.ref (nc K)) (some d) H')
theorem ok_de (T : Txt K mg) : Def P w K mg base (L2.CX P w) 6 (He.ga K "decode_entries") ["text"] (spDE K) := by
  obtain ⟨fd, F, b⟩ := T.f_decode_entries
  obtain ⟨fe, FE, be2, de, re, be1⟩ := nc_binds2 T
  refine ⟨fd, b, F.ok sc_de (fun vs H Q E h => ?_) (fun cdv A outer s H vs Q E hr h => ?_)⟩
  · obtain ⟨a, n, m, rfl, _⟩ := h
    rfl
  · obtain ⟨x, t, bb, rfl, hT, hk, hy, hn⟩ := h
    refine ⟨_, (pss_cons (ps_set (i := 1) sc_de.nd rfl (.inr rfl) (pe_makeD T.mkr (ok_rinit T) (hr.mono (by decide)) (by rfl) T.g_CodeReader (passes_call (E := E) (takes_of rfl rfl rfl rfl) (fun _ _ _ _ h => h)) (pa_cons (pv 0) pa_nil)))
      (pss_cons (ps_set (i := 2) sc_de.nd rfl (.inl rfl) (pe_methD (pv 1) T.cls T.m_rising (ok_rise T) (hr.mono (by decide)) (passes_call (E := E) (takes_of rfl rfl rfl rfl) (fun _ _ _ _ h => h))
        (pa_cons (pe_methD0 (pv 1) T.cls T.m_next_number (ok_next T) (hr.mono (by decide)) (passes_call (E := E) (takes_of rfl rfl rfl rfl) (fun _ _ _ _ h => h))) pa_nil)))
      (pss_cons (ps_setLcX (i := 3) (own := [("slot", 4)]) (g := gName 4) (tt := tYes) (Ech := E) (by rfl) (by rfl) (takes_of rfl rfl rfl rfl) (by rfl) sc_de.nd rfl rfl (sw_true rfl rfl rfl (by decide +kernel)) (pi_list (pv 2))
          (blkOk_by (own := [("slot", 4)]) (N := ["text", "reader", "slots", "told", "slot"]) (sc := defScope s_decode_entries) (by decide +kernel))
          (fun _ _ _ _ _ _ => pg_name (i := 4) sc_de.nd rfl (Or.inl rfl)) (fun _ _ _ _ _ _ => pts_nil)
          (fun _ _ _ _ _ _ hp => pe_tup (pa_cons (pv 4) (pa_cons (pe_callTy (T := "tuple") (r := rTupOf K) call_tuple_of (by rfl) T.z_tuple (by decide +kernel) (pa_cons
            (pe_methD (pv 1) T.cls T.m_rising (ok_rise T) (hr.mono (by decide)) hp (pa_cons (pe_op op_add pe_int (pe_methD0 (pv 1) T.cls T.m_next_number (ok_next T) (hr.mono (by decide)) hp)) pa_nil)) pa_nil)) pa_nil))))
      (pss_cons (ps_if (pt_not (pt_val (pe_methD0 (pv 1) T.cls T.m_is_done (ok_done T) (hr.mono (by decide)) pass0)))
          (pss_one (ps_raise rfl (takes_of rfl rfl rfl rfl) (pmk_oex T.err.oex T.err.iC T.err.tI (ok_ncinit T FE) (hr.mono (by decide)) be2 .nil pass0 (by rfl) T.g_NoCode (pa_cons (pe_fld (pv 1) rfl) pa_nil)))) pss_nil)
      (pss_one (ps_ret (pv 3))))))), ?_⟩
    refine ⟨x, rfl, fun r dx nr nd hne => ?_⟩
    have sA : Same H (upd (upd H dx (.own r)) r (.ins (He.ga K "CodeReader") dx [])) := fun c o e => by
      rw [upd_ne (ne_of_none e nr), upd_ne (ne_of_none e nd)]
      exact e
    refine ⟨r, dx, x, t, bb, rfl, upd_same, TyX.same hT sA, hk, fun hb => ?_, fun hb d nd2 => ?_⟩
    · obtain ⟨cs, rfl, hz, hok, hbad⟩ := hy hb
      refine ⟨cs, rfl, rfl, ?_⟩
      have hO2 : upd (upd (upd H dx (.own r)) r (.ins (He.ga K "CodeReader") dx [])) r (RdO K dx cs 0) r = some (RdO K dx cs 0) := upd_same
      have s2 : Same H (upd (upd (upd H dx (.own r)) r (.ins (He.ga K "CodeReader") dx [])) r (RdO K dx cs 0)) := SameB.toSame sA nr SameB.put
      have bad : ∀ {H3 : Hp} {k : Nat}, Same H H3 → H3 r = some (RdO K dx cs k) → ∀ (q : Nat) (d : Addr) (H' : Hp), due cs = .inl q → SameB r H3 H' → H3 d = none → ErrAt d (.int (q : Int)) H' → E (.ref (nc K)) (some d) H' :=
        fun s3 hO3 q d H' hq sb nd3 he => hbad q d H' hq (SameB.toSame s3 nr sb) (s3.free nd3) he
      refine ⟨.ref r, rfl, r, dx, _, rfl, hO2, rfl, .ref r, rfl, r, dx, _, rfl, hO2, rfl, r, dx, cs, 0, rfl, hO2, hz, fun y b1 H3 hy1 s3 hO3 => ?_, fun q d H3 hx s3 nd3 he => bad s2 hO2 q d H3 (by unfold due; rw [hx]) s3 nd3 he⟩
      have sH3 := SameB.toSame s2 nr s3
      have hb1 := (num_bound hy1).2
      refine ⟨r, dx, cs, b1, y, rfl, hO3, hz, fun l b2 p H4 hl s4 hO4 np hp => ?_, fun q d H4 hx s4 nd4 he => bad sH3 hO3 q d H4 (by unfold due; rw [hy1]; simp only; rw [hx]) s4 nd4 he⟩
      have sH4 := SameB.toSame sH3 nr s4
      obtain ⟨hll, hb2⟩ := rs_len hb1 hl
      have hdue : ∀ R, es cs l b2 [] = R → due cs = (match R with | .inl p => .inl p | .inr (l, e2) => if e2 = cs.length then .inr l else .inl e2) := fun R hR => by
        unfold due
        rw [hy1]
        simp only
        rw [hl]
        simp only
        rw [hR] <;> (cases R <;> rfl)
      refine ⟨.ref p, rfl, p, rfl, ⟨_, SqL.of hp⟩, fun D nD => ?_⟩
      have rD : r ≠ D := ne_of_none hO4 nD
      have pD : p ≠ D := ne_of_none hp nD
      have nDH : H D = none := sH4.free nD
      refine lc_list (K := K) (a := p) (xs := l.map V.int) (fun i H5 => ∃ (k : Nat) (acc : List (Int × List Int)) (ps : List Addr), H5 r = some (RdO K dx cs k) ∧ Same H H5 ∧ H5 p = some (.lst (l.map V.int)) ∧ H5 D = some (.lst (ps.map V.ref)) ∧ EntsAt H5 ps acc ∧ acc.length = i ∧ k ≤ cs.length ∧ es cs (l.drop i) k acc = es cs l b2 [])
        ⟨b2, [], [], by rw [upd_ne rD]; exact hO4, sH4.trans (same_upd nD), by rw [upd_ne pD]; exact hp, upd_same, EntsAt.nil _, rfl, hb2, rfl⟩ (fun i H5 _ ⟨_, _, _, _, _, h, _⟩ => SqL.of h) (fun i x H5 hi hp5 => ?_) (fun H5 hp5 => ?_)
      · obtain ⟨sl, hsl, rfl⟩ := map_at hi
        obtain ⟨k, acc, ps, hO5, sH5, ep5, eD5, hE5, hlen, hk5, hes⟩ := hp5
        have hil : i < l.length := (List.getElem?_eq_some_iff.mp hsl).1
        have hdrop : l.drop i = sl :: l.drop (i + 1) := by
          obtain ⟨h1, h2⟩ := List.getElem?_eq_some_iff.mp hsl
          rw [List.drop_eq_getElem_cons h1, h2]
        have rp : p ≠ r := ne_of ep5 hO5 (fun z => by unfold RdO at z; cases z)
        have rD5 : D ≠ r := Ne.symm rD
        refine ⟨rfl, V.int sl, rfl, .ref r, rfl, r, dx, _, rfl, hO5, rfl, .ref r, rfl, r, dx, _, rfl, hO5, rfl, r, dx, cs, k, rfl, hO5, hz, fun y2 b3 H6 hy2 s6 hO6 => ?_, fun q d H6 hx s6 nd6 he => ?_⟩
        · have sH6 := SameB.toSame sH5 nr s6
          have hb3 := (num_bound hy2).2
          refine ⟨1, y2, rfl, rfl, r, dx, cs, b3, 1 + y2, rfl, hO6, hz, fun m b4 q H7 hm s7 hO7 nq hq => ?_, fun q d H7 hx s7 nd7 he => ?_⟩
          · have sH7 := SameB.toSame sH6 nr s7
            have hb4 := (rs_len hb3 hm).2
            refine ⟨q, _, rfl, .inl ⟨SqL.of hq, fun tt ntt => ?_⟩⟩
            refine ⟨by show 2 ≤ sizeLine; decide, fun pp npp => ?_⟩
            generalize hH8 : upd H7 tt (HO.tup (m.map V.int)) = H8 at npp
            have s8 : Same H7 H8 := by rw [← hH8]; exact same_upd ntt
            have et : H8 tt = some (.tup (m.map V.int)) := by rw [← hH8, upd_same]
            generalize hH9 : upd H8 pp (HO.tup [V.int sl, V.ref tt]) = H9
            have s9 : Same H8 H9 := by rw [← hH9]; exact same_upd npp
            have epp : H9 pp = some (.tup [V.int sl, V.ref tt]) := by rw [← hH9, upd_same]
            have eD9 : H9 D = some (.lst (ps.map V.ref)) := s9 _ _ (s8 _ _ (s7 _ _ rD5 (s6 _ _ rD5 eD5)))
            have tS : TupS H5 H9 := ((TupS.sameB s6 hO5 rdO_ne).trans (TupS.sameB s7 hO6 rdO_ne)).trans ((TupS.same s8).trans (TupS.same s9))
            have hE9 : EntsAt H9 (ps ++ [pp]) (acc ++ [(sl, m)]) := (hE5.tups tS).snoc ⟨tt, epp, s9 _ _ et⟩
            refine ⟨_, eD9, ?_, b4, acc ++ [(sl, m)], ps ++ [pp], ?_, ?_, ?_, ?_, ?_, ?_, hb4, ?_⟩
            · rw [List.length_map, hE5.1]
              exact small_line' (by omega)
            · rw [upd_ne (Ne.symm rD5)]
              exact s9 _ _ (s8 _ _ hO7)
            · intro c o e
              rw [upd_ne (ne_of_none e nDH)]
              exact s9 _ _ (s8 _ _ (sH7 _ _ e))
            · rw [upd_ne pD]
              exact s9 _ _ (s8 _ _ (s7 _ _ rp (s6 _ _ rp ep5)))
            · rw [upd_same, List.map_append]
              rfl
            · exact hE9.tups (TupS.put eD9 (fun xs z => by cases z))
            · rw [List.length_append, hlen]
              rfl
            · rw [← hes, hdrop, es, hy2]
              simp only
              rw [show y2 + 1 = 1 + y2 from Int.add_comm _ _, hm]
          · refine bad sH6 hO6 q d H7 ?_ s7 nd7 he
            rw [hdue (.inl q)]
            rw [← hes, hdrop, es, hy2]
            simp only
            rw [show y2 + 1 = 1 + y2 from Int.add_comm _ _, hx]
        · refine bad sH5 hO5 q d H6 ?_ s6 nd6 he
          rw [hdue (.inl q)]
          rw [← hes, hdrop, es, hx]
      · obtain ⟨k, acc, ps, hO5, sH5, ep5, eD5, hE5, hlen, hk5, hes⟩ := hp5
        rw [List.length_map, List.drop_length] at hes
        have hd2 := hdue _ hes.symm
        refine ⟨.ref r, rfl, r, dx, _, rfl, hO5, rfl, r, dx, cs, k, rfl, hO5, hz, _, rfl, ?_⟩
        by_cases hkc : k = cs.length
        · rw [decide_eq_true hkc]
          refine iteF ?_
          refine ⟨_, rfl, hok acc D ps H5 ?_ sH5 nDH eD5 hE5⟩
          rw [hd2, es]
          exact if_pos hkc
        · rw [decide_eq_false hkc]
          refine iteT ?_
          refine ⟨.ref r, rfl, r, _, dx, _, _, rfl, hO5, T.cls, T.noat_at, rfl, exc_post (vs := [V.int k]) (dvs := []) rfl fun d nd5 => ?_⟩
          refine hbad k d _ ?_ (sH5.trans (same_upd nd5)) (sH5.free nd5) upd_same
          rw [hd2, es]
          exact if_neg hkc
    · have nd2' : H d = none := sA.free nd2
      exact hn hb d _ (sA.trans (same_upd nd2)) nd2' upd_same
end
end K10
set_option Elab.async false
set_option linter.all false
set_option maxRecDepth 100000
set_option maxHeartbeats 4000000
/-! list(text), text[::-1], text.find of one sign. -/
namespace K10
open PySem PySem.Spec PyProof.Rows L2
section
variable {X : Cx}
/-- the signs, a text each -/
def signsV (cs : List Nat) : List V := cs.map fun c => .str (S [c])
theorem call_listS (hc : X.calm = true) : CallR X (.type "list") (fun xs H Q => ∃ cs : List Nat, xs = [.str (S cs)] ∧ cs.length ≤ 1000000 ∧ ∀ l, H l = none → Q (.ref l) (upd H l (.lst (signsV cs)))) := by
  intro pins s σ H xs us Q I r h
  obtain ⟨cs, rfl, hz, q⟩ := h
  obtain ⟨u, rfl, t, rfl⟩ := vals1 r
  have hn : (S cs).cps.size ≤ sizeLine := by
    show (S cs).length ≤ sizeLine
    rw [S_len]
    exact small_line hz
  refine call_list_str (I.ok.hd hc) (S cs) t (fun h' tk acc c' hk hS hacc => ?_) hn
  have hsz : acc.size = cs.length := by
    rw [hacc.1]
    show (S cs).length = cs.length
    exact S_len cs
  refine ⟨.ref s.heap.objs.size, _, I.laid (t' := tk) hk (Nat.le_refl _) (show ObjOk X.prog X.w _ h' _ (.lst (signsV cs)) from ⟨?_, acc.toList, c', ?_, by simpa using hS⟩), rfl, q _ (I.hok.fresh (Nat.le_refl _))⟩
  · unfold signsV
    rw [List.length_map]
    exact small_line hz
  · refine L2.vals_of_at ?_ fun j x u hx hu => ?_
    · unfold signsV
      rw [List.length_map]
      show cs.length = acc.toList.length
      simp [hsz]
    · obtain ⟨c, hc', rfl⟩ := map_at hx
      obtain ⟨c2, t2, e1, rfl⟩ := hacc.2 j u (by simpa using hu)
      have e2 : cs[j]? = some c2 := by simpa using e1
      rw [hc'] at e2
      cases e2
      exact ⟨t2, rfl⟩
/-- s[::-1]: some text, no longer -/
def tRevS (te : TE) : TE := fun σ H Q => te σ H fun x H1 => ∃ z : Str, x = .str z ∧ z.length ≤ sizeLine ∧ ∀ y : Str, y.length ≤ z.length → Q (.str y) H1
theorem pe_revS {e : Expr} {te : TE} {k : Nat} {p1 p2 p3 pos : Pos} (he : PE X e te) : PE X (.Subscript e (.Slice none none (some (.UnaryOp .USub (.Constant (.int 1) k p1) p2)) p3) pos) (tRevS te) := by
  refine ⟨fun pins s σ H Q I h => ?_⟩
  refine Subscript_ (thn (he.run pins s σ H _ I h) fun v s1 ⟨x, H1, I1, r1, q1⟩ => ?_)
  obtain ⟨z, rfl, hz, q⟩ := q1
  obtain ⟨t, rfl⟩ := r1
  have step : PO X (some (.UnaryOp .USub (.Constant (.int 1) k p1) p2)) (tPart (tUn (rU fun i => .int (-i)) (tC (.int 1)))) := po_some (pe_un un_neg pe_int)
  refine wpAny_Slice (thn (po_none.run pins s1 σ H1 (fun o H2 => o = none ∧ H2 = H1) I1 ⟨rfl, rfl⟩) fun vl s2 ⟨l, H2, I2, pl, el, e2⟩ => ?_)
  subst el e2
  refine thn (po_none.run pins s2 σ H2 (fun o H3 => o = none ∧ H3 = H2) I2 ⟨rfl, rfl⟩) fun vu s3 ⟨u, H3, I3, pu, eu, e3⟩ => ?_
  subst eu e3
  refine thn (step.run pins s3 σ H3 (fun o H4 => o = some (-1) ∧ H4 = H3) I3 ⟨1, rfl, -1, rfl, rfl, rfl⟩) fun vs s4 ⟨o, H4, I4, ps, eo, e4⟩ => ?_
  subst eo e4
  have I5 : Inv X pins σ H4 { s4 with heap := s4.heap.push { cls := .type "slice", data := .fields #[vl, vu, vs] } } := I4.kept (t' := s4.toks) fun b ob q => Heap.get?_push_of_some _ q
  obtain ⟨l, rfl, hl⟩ := IsPart.raw pl
  obtain ⟨u, rfl, hu⟩ := IsPart.raw pu
  obtain ⟨st, rfl, hst⟩ := IsPart.raw ps
  have hl : l = none := by cases l with | none => rfl | some y => cases hl
  have hu : u = none := by cases u with | none => rfl | some y => cases hu
  subst hl hu
  obtain ⟨⟨j, tj⟩, rfl⟩ : ∃ y, st = some y := by cases st with | none => cases hst | some y => exact ⟨y, rfl⟩
  have ej : j = -1 := Option.some.inj hst
  subst ej
  show wpAny (model X.prog X.w) X.A (subscriptTail e (.Slice none none (some (.UnaryOp .USub (.Constant (.int 1) k p1) p2)) p3) (.str z t) (.ref s4.heap.objs.size)) (EP X pins σ Q) X.xe { s4 with heap := s4.heap.push { cls := .type "slice", data := .fields #[partValue none, partValue none, partValue (some (-1, tj))] } }
  refine tail_any (ops := [.ref s4.heap.objs.size, .str z t]) (typeIs_str _ _ _) F.slot_str_getitem.lookup ?_ (by with_unfolding_all rfl)
  refine wpAny_getItem_str_slice (l := none) (u := none) (st := some (-1, tj)) (Heap.IsSliceOf.new ..) (by show ((-1 : Int) == 0) = false; decide) ?_
  have hle := Txt.sliceBy_le z none none (-1, tj) (by show (-1 : Int) ≠ 0; decide)
  exact PySem.post_val_or_str ⟨Nat.le_trans hle hz, fun t' c => ⟨.str _, H4, I5.tok _, ⟨_, rfl⟩, q _ hle⟩⟩
end
/-- "abc..".find(sign) -/
theorem find_end {c : Nat} (h : 97 ≤ c ∧ c ≤ 112) : Txt.find (PySem.Str.ofString "abcdefghijklmnop") (S [c]) = (c : Int) - 97 := by
  have key : ∀ i : Fin 16, Txt.find (PySem.Str.ofString "abcdefghijklmnop") (S [97 + i.val]) = ((97 + i.val : Nat) : Int) - 97 := by decide +kernel
  have z := key ⟨c - 97, by omega⟩
  rw [show 97 + (c - 97) = c by omega] at z
  exact z
theorem find_none {c : Nat} (h : ¬ (97 ≤ c ∧ c ≤ 112)) : Txt.find (PySem.Str.ofString "abcdefghijklmnop") (S [c]) = -1 := by
  have z := PySem.StrLaws.found_one (PySem.Str.ofString "abcdefghijklmnop") c
  rw [decide_eq_false (fun y => h (mem_end.mp y))] at z
  unfold Txt.find
  split
  · rename_i i r e
    have e' : (Builtin.Str.occurrences (PySem.Str.ofString "abcdefghijklmnop") ⟨#[c]⟩ 0 (PySem.Str.ofString "abcdefghijklmnop").length 1) = i :: r := e
    rw [e'] at z
    cases z
  · rfl
end K10
set_option Elab.async false
set_option linter.all false
set_option maxRecDepth 100000
set_option maxHeartbeats 4000000
/-! _law_number_at. -/
namespace K10
open PySem PySem.Spec PyProof.Rows L2
theorem inV_fur (c : Nat) : inV (.str (S [c])) (signsV furL) = decide (65 ≤ c ∧ c ≤ 80) := by
  unfold inV signsV
  rw [List.any_map]
  by_cases h : 65 ≤ c ∧ c ≤ 80
  · rw [decide_eq_true h, List.any_eq_true]
    refine ⟨c, ?_, ?_⟩
    · unfold furL
      rw [List.mem_map]
      exact ⟨c - 65, List.mem_range.mpr (by omega), by omega⟩
    · show (S [c] == S [c]) = true
      exact beq_self_eq_true _
  · rw [decide_eq_false h, List.any_eq_false]
    intro d hd
    unfold furL at hd
    obtain ⟨i, hi, rfl⟩ := List.mem_map.mp hd
    have hi := List.mem_range.mp hi
    show ¬ (S [65 + i] == S [c]) = true
    intro z
    have z2 := S_inj (eq_of_beq z)
    have z3 := (List.cons.inj z2).1
    omega
theorem inV_fur0 : inV (.str (S [])) (signsV furL) = false := by decide +kernel
theorem flat_signs (cs : List Nat) : (signsV cs).all flatV = true := by
  unfold signsV
  rw [List.all_map, List.all_eq_true]
  intro c _
  rfl
def numV : Nat ⊕ (Int × Nat) → List V
  | .inl q => [.int (q : Int), .int (-1)]
  | .inr (x, b) => [.int x, .int (b : Int)]
section
variable {P : Program} {w : World} {K : PySem.W.Frag} {mg : Str → Option Value} {base : Heap}
theorem sc_numat : FnScope ["_law_text", "_law_at", "_law_number", "_law_scale", "_law_begin", "_law_digit"] ["_law_text", "_law_at"] (defScope s__law_number_at) := ⟨rfl, rfl, rfl, by decide +kernel, rfl, by decide +kernel, by decide +kernel⟩
def spNumAt : Sp := fun vs H Q E => ∃ (cs : List Nat) (k : Nat), vs = [.str (S cs), .int (k : Int)] ∧ cs.length ≤ 100000 ∧ k ≤ 1000000 ∧ ∀ (p : Addr) (H' : Hp), Same H H' → H p = none → H' p = some (.tup (numV (num cs k))) → Q (.ref p) H'
def numInv (H : Hp) (cs : List Nat) (k0 : Nat) : L2.St → Hp → Prop := fun σ H1 => ∃ (k : Nat) (n sc : Int), σ = [some (.str (S cs)), some (.int (k : Int)), some (.int n), some (.int sc), some (.int (k0 : Int)), none] ∧ Same H H1 ∧ k0 ≤ k ∧ k ≤ k0 + cs.length ∧
  pn (cs.drop k) (decide (k = k0)) n sc k = num cs k0
theorem ok_numat (T : Txt K mg) : Def P w K mg base CX0 1 (He.ga K "_law_number_at") ["_law_text", "_law_at"] spNumAt := by
  obtain ⟨fd, F, b⟩ := T.f__law_number_at
  refine ⟨fd, b, F.ok sc_numat (fun vs H Q E h => ?_) (fun cdv A outer s H vs Q E hr h => ?_)⟩
  · obtain ⟨a, n, rfl, _⟩ := h
    rfl
  · obtain ⟨cs, k0, rfl, hz, hk0, q⟩ := h
    refine ⟨_, PSs.nox (pss_cons (ps_set (i := 2) sc_numat.nd rfl (.inl rfl) pe_int) (pss_cons (ps_set (i := 3) sc_numat.nd rfl (.inl rfl) pe_int) (pss_cons (ps_set (i := 4) sc_numat.nd rfl (.inl rfl) (pv 1))
      (pss_cons (ps_while PassesOwn.never (pt_cmpR op_in_seq (pe_slice sl_str (pv 0) (po_some (pv 1)) (po_some (pe_op op_add (pv 1) pe_int))) (pe_callTy (call_listS rfl) (by rfl) T.z_list (by decide +kernel) (pa_cons pe_str pa_nil)) (by rfl))
        (pss_cons (ps_set (i := 2) sc_numat.nd rfl (.inl rfl) (pe_op op_add (pv 2) (pe_op op_mul (pv 3) (pe_bmS PySem.F.plainAttrs_str PySem.F.slot_str_index PySem.F.type_str_index (mt_indexX rfl takes0) pe_str (pa_cons (pe_item_str (pv 0) (pv 1) (fun _ _ => rfl)) pa_nil)))))
        (pss_cons (ps_set (i := 3) sc_numat.nd rfl (.inl rfl) (pe_op op_mul (pv 3) pe_int))
        (pss_one (ps_set (i := 1) sc_numat.nd rfl (.inl rfl) (pe_op op_add (pv 1) pe_int))))))
      (pss_cons (ps_set (i := 5) sc_numat.nd rfl (.inl rfl) (pe_un un_neg pe_int))
      (pss_cons (ps_if (pt_cmpR op_lt (pv 1) (pe_callB call_len (by rfl) T.z_len (by decide +kernel) (pa_cons (pv 0) pa_nil)) (nomark _))
        (pss_one (ps_set (i := 5) sc_numat.nd rfl (.inl rfl) (pe_bm PySem.F.plainAttrs_str PySem.F.slot_str_find PySem.F.type_str_find mt_find pe_str (pa_cons (pe_item_str (pv 0) (pv 1) (fun _ _ => rfl)) pa_nil)))) pss_nil)
      (pss_cons (ps_if (PW.pt (pw_or (pt_cmpR op_eq (pv 5) (pe_un un_neg pe_int) (nomark _)) (pw_or1 (PW.pt (pw_and (pt_cmpR op_eq (pv 5) pe_int (nomark _)) (pw_and1 (pt_cmpR op_gt (pv 1) (pv 4) (nomark _))))))))
        (pss_one (ps_ret (pe_tup (pa_cons (pv 1) (pa_cons (pe_un un_neg pe_int) pa_nil))))) pss_nil)
      (pss_one (ps_ret (pe_tup (pa_cons (pe_op op_add (pv 2) (pe_op op_mul (pv 5) (pv 3))) (pa_cons (pe_op op_add (pv 1) pe_int) pa_nil)))))))))))), ?_⟩
    refine ⟨_, rfl, ?_⟩
    refine while_by (numInv H cs k0) (fun σ H1 => match σ with | [_, some (.int k), _, _, _, _] => cs.length - k.toNat | _ => 0)
      ⟨k0, 0, 1, rfl, Same.refl _, Nat.le_refl _, by omega, by rw [decide_eq_true rfl]; rfl⟩ (fun σ H1 hp => ?_) (fun σ H1 Q1 Q2 h12 hq => ?_)
    · obtain ⟨k, n, sc, rfl, sm, hk, hkl, hpn⟩ := hp
      refine ⟨_, rfl, _, rfl, _, rfl, _, rfl, _, _, rfl, rfl, _, rfl, S cs, rfl, by rw [S_len]; exact small_line (by omega), ?_⟩
      refine ⟨furL, by rw [furs_S], by decide, fun l nl => ?_⟩
      have sm1 : Same H (upd H1 l (.lst (signsV furL))) := sm.trans (same_upd nl)
      have np : ∀ {p : Addr} {o : HO}, (upd H1 l (.lst (signsV furL))) p = none → Q (.ref p) (upd (upd H1 l (.lst (signsV furL))) p o) ∨ True := fun _ => .inr trivial
      generalize hH2 : upd H1 l (.lst (signsV furL)) = H2 at sm1 np
      have el : H2 l = some (.lst (signsV furL)) := by rw [← hH2, upd_same]
      -- the end
      have fin : ∀ R, num cs k0 = R → ∀ p, H2 p = none → Q (.ref p) (upd H2 p (.tup (numV R))) := fun R hR p np => q p _ (sm1.trans (same_upd np)) (sm1.free np) (by rw [hR]; exact upd_same)
      refine ⟨l, signsV furL, rfl, .inl (SqL.of el), rfl, flat_signs _, ?_⟩
      cases hc : cs[k]? with
      | none =>
        rw [sign_none hc, inV_fur0]
        have hle : ¬ ((k : Int) < (cs.length : Int)) := by
          have := List.getElem?_eq_none_iff.mp hc
          omega
        refine ⟨false, rfl, iteF ?_⟩
        refine ⟨1, rfl, _, rfl, .str (S cs), rfl, _, cs.length, rfl, ⟨by rw [S_len]; exact small_line (by omega), by rw [S_len]⟩, _, _, rfl, rfl, _, rfl, ?_⟩
        rw [decide_eq_false hle]
        refine iteF ?_
        refine ⟨_, rfl, 1, rfl, rfl, true, rfl, iteT ?_⟩
        refine ⟨_, rfl, 1, rfl, by show 2 ≤ sizeLine; decide, fun p np => ?_⟩
        exact fin (.inl k) (by rw [← hpn, pn_end hc]) p np
      | some c =>
        rw [sign_some hc, inV_fur]
        have hkl2 : k < cs.length := (List.getElem?_eq_some_iff.mp hc).1
        have hlt : ((k : Int) < (cs.length : Int)) := by omega
        have hat : (S cs).cps[(k : Int).toNat]? = some c := by
          show (cs.toArray)[k]? = some c
          simpa using hc
        by_cases hf : 65 ≤ c ∧ c ≤ 80
        · rw [decide_eq_true hf]
          refine ⟨true, rfl, iteT ?_⟩
          refine ⟨_, rfl, _, rfl, rfl, _, rfl, _, rfl, _, _, c, rfl, rfl, by omega, by omega, by rw [S_len]; exact hlt, hat, _, _, rfl, rfl, fun i hi => ?_, fun hn => ?_⟩
          · rw [ix_fur hf] at hi
            have ei := Option.some.inj hi
            refine ⟨_, _, rfl, rfl, .inr ⟨by omega, by omega⟩, _, _, rfl, rfl, ?_⟩
            refine ⟨_, rfl, _, _, rfl, rfl, .inr ⟨by decide, by decide⟩, ?_⟩
            refine ⟨_, rfl, _, _, rfl, rfl, ?_, ?_⟩
            · refine ⟨k + 1, _, _, rfl, sm1, by omega, by omega, ?_⟩
              rw [← hpn, pn_more hc hf, decide_eq_false (by omega : ¬ k + 1 = k0), ← ei, show ((c : Int) - 65) = ((c - 65 : Nat) : Int) by omega]
            · show cs.length - (((k : Int) + 1)).toNat < cs.length - ((k : Int)).toNat
              omega
          · rw [ix_fur hf] at hn
            cases hn
        · rw [decide_eq_false hf]
          refine ⟨false, rfl, iteF ?_⟩
          refine ⟨1, rfl, _, rfl, .str (S cs), rfl, _, cs.length, rfl, ⟨by rw [S_len]; exact small_line (by omega), by rw [S_len]⟩, _, _, rfl, rfl, _, rfl, ?_⟩
          rw [decide_eq_true hlt]
          refine iteT ?_
          refine ⟨rfl, _, rfl, _, rfl, _, _, c, rfl, rfl, by omega, by omega, by rw [S_len]; exact hlt, hat, _, _, rfl, rfl, ?_⟩
          by_cases he : 97 ≤ c ∧ c ≤ 112
          · rw [find_end he]
            have n1 : ¬ (V.int ((c : Int) - 97) = V.int (-1)) := fun z => by have := V.int.inj z; omega
            refine ⟨_, rfl, 1, rfl, rfl, false, by rw [decide_eq_false n1], iteF ?_⟩
            refine ⟨_, rfl, rfl, _, rfl, ite2 (fun h0 => ?_) (fun h0 => ?_)⟩
            · have h97 : c = 97 := by
                have z := V.int.inj (of_decide_eq_true h0)
                omega
              refine ⟨_, rfl, _, rfl, _, _, rfl, rfl, _, rfl, ite2 (fun h1 => ?_) (fun h1 => ?_)⟩
              · have h2 : (k0 : Int) < (k : Int) := of_decide_eq_true h1
                refine ⟨_, rfl, 1, rfl, by show 2 ≤ sizeLine; decide, fun p np => ?_⟩
                exact fin (.inl k) (by rw [← hpn, decide_eq_false (by omega : ¬ k = k0), pn_bad hc hf (fun z => z.2 ⟨h97, rfl⟩)]) p np
              · have h2 : ¬ (k0 : Int) < (k : Int) := fun z => h1 (decide_eq_true z)
                refine ⟨_, rfl, _, rfl, _, rfl, _, _, rfl, rfl, .inl ⟨by omega, by omega⟩, _, _, rfl, rfl, _, rfl, _, _, rfl, rfl, by show 2 ≤ sizeLine; decide, fun p np => ?_⟩
                refine fin (.inr (n + ((c : Int) - 97) * sc, k + 1)) ?_ p np
                rw [← hpn, pn_last hc he (fun z => by have z2 := of_decide_eq_false z.2; omega), Int.mul_comm]
            · have h97 : ¬ c = 97 := fun z => h0 (decide_eq_true (by rw [z]; rfl))
              refine ⟨_, rfl, _, rfl, _, rfl, _, _, rfl, rfl, .inl ⟨by omega, by omega⟩, _, _, rfl, rfl, _, rfl, _, _, rfl, rfl, by show 2 ≤ sizeLine; decide, fun p np => ?_⟩
              refine fin (.inr (n + ((c : Int) - 97) * sc, k + 1)) ?_ p np
              rw [← hpn, pn_last hc he (fun z => h97 z.1), Int.mul_comm]
          · rw [find_none he]
            refine ⟨_, rfl, 1, rfl, rfl, true, rfl, iteT ?_⟩
            refine ⟨_, rfl, 1, rfl, by show 2 ≤ sizeLine; decide, fun p np => ?_⟩
            exact fin (.inl k) (by rw [← hpn, pn_bad hc hf (fun z => he z.1)]) p np
    · obtain ⟨x1, e1, x2, e2, x3, e3, x4, e4, i5, j5, e5, e6, x6, e7, z8, e8, h8, cs9, e9, h9, z9⟩ := hq
      refine ⟨x1, e1, x2, e2, x3, e3, x4, e4, i5, j5, e5, e6, x6, e7, z8, e8, h8, cs9, e9, h9, fun l nl => ?_⟩
      obtain ⟨p, xs, e1, e2, e3, e4, b, e5, z⟩ := z9 l nl
      exact ⟨p, xs, e1, e2, e3, e4, b, e5, h12 _ _ z⟩
end
end K10
set_option Elab.async false
set_option linter.all false
set_option maxRecDepth 100000
set_option maxHeartbeats 4000000
/-! _law_rising_at. -/
namespace K10
open PySem PySem.Spec PyProof.Rows L2
section
variable {P : Program} {w : World} {K : PySem.W.Frag} {mg : Str → Option Value} {base : Heap}
theorem sc_riseat : FnScope ["_law_text", "_law_at", "_law_many", "_law_told", "_law_last", "_law_number", "_law_behind"] ["_law_text", "_law_at", "_law_many"] (defScope s__law_rising_at) := ⟨rfl, rfl, rfl, by decide +kernel, rfl, by decide +kernel, by decide +kernel⟩
def spRiseAt : Sp := fun vs H Q E => ∃ (cs : List Nat) (k : Nat) (m : Int), vs = [.str (S cs), .int (k : Int), .int m] ∧ cs.length ≤ 100000 ∧ k ≤ cs.length ∧
  (∀ (l : List Int) (b : Nat) (o p : Addr) (H' : Hp), rs cs m.toNat k (-1) [] = .inr (l, b) → Same H H' → H o = none → H' o = some (.lst (l.map V.int)) → H' p = some (.tup [.ref o, .int (b : Int)]) → Q (.ref p) H') ∧
  (∀ (q : Nat) (p : Addr) (H' : Hp), rs cs m.toNat k (-1) [] = .inl q → Same H H' → H' p = some (.tup [.int (q : Int), .int (-1)]) → Q (.ref p) H')
def riseAtInv (H : Hp) (cs : List Nat) (m : Int) (k0 : Nat) (o : Addr) : L2.St → Hp → Prop := fun σ H1 => ∃ (k : Nat) (last : Int) (acc : List Int) (x y : Option V), σ = [some (.str (S cs)), some (.int (k : Int)), some (.int m), some (.ref o), some (.int last), x, y] ∧ Same H H1 ∧ H1 o = some (.lst (acc.map V.int)) ∧
  acc.length ≤ k ∧ k ≤ cs.length ∧ rs cs (m.toNat - acc.length) k last acc = rs cs m.toNat k0 (-1) []
theorem ok_riseat (T : Txt K mg) : Def P w K mg base CX0 2 (He.ga K "_law_rising_at") ["_law_text", "_law_at", "_law_many"] spRiseAt := by
  obtain ⟨fd, F, b⟩ := T.f__law_rising_at
  refine ⟨fd, b, F.ok sc_riseat (fun vs H Q E h => ?_) (fun cdv A outer s H vs Q E hr h => ?_)⟩
  · obtain ⟨a, n, m, rfl, _⟩ := h
    rfl
  · obtain ⟨cs, k0, m, rfl, hz, hk0, hok, hbad⟩ := h
    refine ⟨_, PSs.nox (pss_cons (ps_set (i := 3) sc_riseat.nd rfl (.inl rfl) (pe_lst pa_nil)) (pss_cons (ps_set (i := 4) sc_riseat.nd rfl (.inl rfl) (pe_un un_neg pe_int))
      (pss_cons (ps_while PassesOwn.never (pt_cmpR op_lt (pe_callB call_len (by rfl) T.z_len (by decide +kernel) (pa_cons (pv 3) pa_nil)) (pv 2) (nomark _))
        (pss_cons (ps_asg (pe_callD (ok_numat T) hr (by rfl) T.g__law_number_at T.k__law_number_at pass0 (pa_cons (pv 0) (pa_cons (pv 1) pa_nil))) (pg_tup rfl (pgs_cons (pg_name (i := 5) sc_riseat.nd rfl (.inl rfl)) (pgs_cons (pg_name (i := 6) sc_riseat.nd rfl (.inl rfl)) pgs_nil))))
        (pss_cons (ps_if (pt_cmpR op_eq (pv 6) (pe_un un_neg pe_int) (nomark _)) (pss_one (ps_ret (pe_tup (pa_cons (pv 5) (pa_cons (pe_un un_neg pe_int) pa_nil))))) pss_nil)
        (pss_cons (ps_set (i := 4) sc_riseat.nd rfl (.inl rfl) (pe_op op_add (pe_op op_add (pv 4) pe_int) (pv 5)))
        (pss_cons (ps_expr (pe_bm PySem.F.plainAttrs_list PySem.F.slot_list_append PySem.F.type_list_append mt_append (pv 3) (pa_cons (pv 4) pa_nil)))
        (pss_one (ps_set (i := 1) sc_riseat.nd rfl (.inl rfl) (pv 6))))))))
      (pss_one (ps_ret (pe_tup (pa_cons (pv 3) (pa_cons (pv 1) pa_nil)))))))), ?_⟩
    refine ⟨Nat.zero_le _, fun o no => ⟨1, rfl, ?_⟩⟩
    refine while_by (riseAtInv H cs m k0 o) (fun σ H1 => match H1 o with | some (.lst xs) => m.toNat - xs.length | _ => 0)
      ⟨k0, -1, [], none, none, rfl, same_upd no, upd_same, Nat.zero_le _, hk0, rfl⟩ (fun σ H1 hp => ?_) (fun σ H1 Q1 Q2 h12 hq => ?_)
    · obtain ⟨k, last, acc, x, y, rfl, sm, eo, hle, hkl, hrs⟩ := hp
      refine ⟨_, rfl, .ref o, _, rfl, .inl ⟨_, SqL.of eo, rfl⟩, _, rfl, _, _, rfl, rfl, _, rfl, ite2 (fun hc => ?_) (fun hc => ?_)⟩
      · have hlt : ((acc.map V.int).length : Int) < m := of_decide_eq_true hc
        rw [List.length_map] at hlt
        have hn : m.toNat - acc.length = (m.toNat - (acc.length + 1)) + 1 := by omega
        refine ⟨_, rfl, _, rfl, cs, k, rfl, hz, by omega, fun p H2 s2 np ep => ?_⟩
        have sm2 := sm.trans s2
        cases hx : num cs k with
        | inl q =>
          rw [hx] at ep
          refine ⟨p, _, rfl, SqT.of ep, rfl, _, _, rfl, _, _, rfl, rfl, ?_⟩
          refine ⟨_, rfl, 1, rfl, rfl, true, rfl, iteT ?_⟩
          refine ⟨_, rfl, 1, rfl, by show 2 ≤ sizeLine; decide, fun p2 np2 => ?_⟩
          refine hbad q p2 _ ?_ (sm2.trans (same_upd np2)) upd_same
          rw [← hrs, hn, rs, hx]
        | inr z =>
          obtain ⟨x, b2⟩ := z
          rw [hx] at ep
          obtain ⟨hb1, hb2⟩ := num_bound hx
          have n1 : ¬ (V.int (b2 : Int) = V.int (-1)) := fun z => by have := V.int.inj z; omega
          refine ⟨p, _, rfl, SqT.of ep, rfl, _, _, rfl, _, _, rfl, rfl, ?_⟩
          refine ⟨_, rfl, 1, rfl, rfl, false, by rw [decide_eq_false n1], iteF ?_⟩
          have eo2 : H2 o = some (.lst (acc.map V.int)) := s2 _ _ eo
          refine ⟨_, rfl, _, _, rfl, rfl, _, rfl, _, _, rfl, rfl, _, rfl, .inl ⟨rfl, _, SqL.of eo2⟩, _, rfl, o, _, _, rfl, rfl, eo2, ?_, ?_⟩
          · rw [List.length_map]
            exact small_line' (by omega)
          · refine ⟨_, rfl, ?_, ?_⟩
            · refine ⟨b2, last + 1 + x, acc ++ [last + 1 + x], _, _, rfl, ?_, ?_, ?_, hb2, ?_⟩
              · intro c u e
                rw [upd_ne (ne_of_none e no)]
                exact sm2 _ _ e
              · rw [upd_same, List.map_append]
                rfl
              · rw [List.length_append]
                show acc.length + 1 ≤ b2
                omega
              · rw [← hrs, hn, rs, hx, List.length_append]
                rfl
            · rw [eo, upd_same]
              show m.toNat - (acc.map V.int ++ [V.int (last + 1 + x)]).length < m.toNat - (acc.map V.int).length
              rw [List.length_append, List.length_map]
              show m.toNat - (acc.length + 1) < m.toNat - acc.length
              omega
      · have hge : ¬ ((acc.map V.int).length : Int) < m := fun z => hc (decide_eq_true z)
        rw [List.length_map] at hge
        have hn : m.toNat - acc.length = 0 := by omega
        rw [hn] at hrs
        refine ⟨_, rfl, _, rfl, by show 2 ≤ sizeLine; decide, fun p np => ?_⟩
        exact hok acc k o p _ (by rw [← hrs]; rfl) (sm.trans (same_upd np)) no (same_upd np _ _ eo) upd_same
    · obtain ⟨x, e1, x2, n, e2, hl, y, e3, i, j, ei, ej, k, ek, z⟩ := hq
      exact ⟨x, e1, x2, n, e2, hl, y, e3, i, j, ei, ej, k, ek, h12 _ _ z⟩
end
end K10
set_option Elab.async false
set_option linter.all false
set_option maxRecDepth 100000
set_option maxHeartbeats 4000000
/-! _law_due. -/
namespace K10
open PySem PySem.Spec PyProof.Rows L2
section
variable {P : Program} {w : World} {K : PySem.W.Frag} {mg : Str → Option Value} {base : Heap}
theorem sc_due : FnScope ["_law_text", "_law_many", "_law_at", "_law_slots", "_law_told", "_law_slot", "_law_size", "_law_spots"] ["_law_text"] (defScope s__law_due) := ⟨rfl, rfl, rfl, by decide +kernel, rfl, by decide +kernel, by decide +kernel⟩
def spDue : Sp := fun vs H Q E => ∃ cs : List Nat, vs = [.str (S cs)] ∧ cs.length ≤ 100000 ∧
  (∀ (es : List (Int × List Int)) (p : Addr) (ps : List Addr) (H' : Hp), due cs = .inr es → Same H H' → H p = none → H' p = some (.lst (ps.map V.ref)) → EntsAt H' ps es → Q (.ref p) H') ∧
  (∀ (q : Nat) (H' : Hp), due cs = .inl q → Same H H' → Q (.int (q : Int)) H')
theorem ok_due (T : Txt K mg) : Def P w K mg base CX0 3 (He.ga K "_law_due") ["_law_text"] spDue := by
  obtain ⟨fd, F, b⟩ := T.f__law_due
  refine ⟨fd, b, F.ok sc_due (fun vs H Q E h => ?_) (fun cdv A outer s H vs Q E hr h => ?_)⟩
  · obtain ⟨a, rfl, _⟩ := h
    rfl
  · obtain ⟨cs, rfl, hz, hok, hbad⟩ := h
    refine ⟨_, PSs.nox (pss_cons (ps_asg (pe_callD (ok_numat T) (hr.mono (by decide)) (by rfl) T.g__law_number_at T.k__law_number_at pass0 (pa_cons (pv 0) (pa_cons pe_int pa_nil))) (pg_tup rfl (pgs_cons (pg_name (i := 1) sc_due.nd rfl (.inl rfl)) (pgs_cons (pg_name (i := 2) sc_due.nd rfl (.inl rfl)) pgs_nil))))
      (pss_cons (ps_if (pt_cmpR op_eq (pv 2) (pe_un un_neg pe_int) (nomark _)) (pss_one (ps_ret (pv 1))) pss_nil)
      (pss_cons (ps_asg (pe_callD (ok_riseat T) (hr.mono (by decide)) (by rfl) T.g__law_rising_at T.k__law_rising_at pass0 (pa_cons (pv 0) (pa_cons (pv 2) (pa_cons (pv 1) pa_nil)))) (pg_tup rfl (pgs_cons (pg_name (i := 3) sc_due.nd rfl (.inl rfl)) (pgs_cons (pg_name (i := 2) sc_due.nd rfl (.inl rfl)) pgs_nil))))
      (pss_cons (ps_if (pt_cmpR op_eq (pv 2) (pe_un un_neg pe_int) (nomark _)) (pss_one (ps_ret (pv 3))) pss_nil)
      (pss_cons (ps_set (i := 4) sc_due.nd rfl (.inl rfl) (pe_lst pa_nil))
      (pss_cons (ps_for PassesOwn.never rfl (pi_list (pv 3)) (pg_name (i := 5) sc_due.nd rfl (.inl rfl))
        (pss_cons (ps_asg (pe_callD (ok_numat T) (hr.mono (by decide)) (by rfl) T.g__law_number_at T.k__law_number_at pass0 (pa_cons (pv 0) (pa_cons (pv 2) pa_nil))) (pg_tup rfl (pgs_cons (pg_name (i := 6) sc_due.nd rfl (.inl rfl)) (pgs_cons (pg_name (i := 2) sc_due.nd rfl (.inl rfl)) pgs_nil))))
        (pss_cons (ps_if (pt_cmpR op_eq (pv 2) (pe_un un_neg pe_int) (nomark _)) (pss_one (ps_ret (pv 6))) pss_nil)
        (pss_cons (ps_asg (pe_callD (ok_riseat T) (hr.mono (by decide)) (by rfl) T.g__law_rising_at T.k__law_rising_at pass0 (pa_cons (pv 0) (pa_cons (pv 2) (pa_cons (pe_op op_add (pv 6) pe_int) pa_nil)))) (pg_tup rfl (pgs_cons (pg_name (i := 7) sc_due.nd rfl (.inl rfl)) (pgs_cons (pg_name (i := 2) sc_due.nd rfl (.inl rfl)) pgs_nil))))
        (pss_cons (ps_if (pt_cmpR op_eq (pv 2) (pe_un un_neg pe_int) (nomark _)) (pss_one (ps_ret (pv 7))) pss_nil)
        (pss_one (ps_expr (pe_bm PySem.F.plainAttrs_list PySem.F.slot_list_append PySem.F.type_list_append mt_append (pv 4) (pa_cons (pe_tup (pa_cons (pv 5) (pa_cons (pe_callTy (T := "tuple") (r := rTupOf K) call_tuple_of (by rfl) T.z_tuple (by decide +kernel) (pa_cons (pv 7) pa_nil)) pa_nil))) pa_nil)))))))))
      (pss_one (ps_ret (pe_ix ix_list (pe_lst (pa_cons (pv 2) (pa_cons (pv 4) pa_nil))) (pe_callTy call_int1 (by rfl) T.z_int (by decide +kernel) (pa_cons (pe_cmpR op_eq (pv 2) (pe_callB call_len (by rfl) T.z_len (by decide +kernel) (pa_cons (pv 0) pa_nil)) (nomark _)) pa_nil)) (fun _ _ => rfl)))))))))), ?_⟩
    refine ⟨_, rfl, cs, 0, rfl, hz, by decide, fun p H2 s2 np ep => ?_⟩
    have nm1 : ∀ n : Nat, ¬ (V.int (n : Int) = V.int (-1)) := fun n z => by have := V.int.inj z; omega
    cases hx : num cs 0 with
    | inl q =>
      rw [hx] at ep
      refine ⟨p, _, rfl, SqT.of ep, rfl, _, _, rfl, _, _, rfl, rfl, ?_⟩
      refine ⟨_, rfl, 1, rfl, rfl, true, rfl, iteT ?_⟩
      exact ⟨_, rfl, hbad q _ (by unfold due; rw [hx]) s2⟩
    | inr z =>
      obtain ⟨m, b1⟩ := z
      rw [hx] at ep
      obtain ⟨_, hb1⟩ := num_bound hx
      refine ⟨p, _, rfl, SqT.of ep, rfl, _, _, rfl, _, _, rfl, rfl, ?_⟩
      refine ⟨_, rfl, 1, rfl, rfl, false, by rw [decide_eq_false (nm1 b1)], iteF ?_⟩
      refine ⟨_, rfl, _, rfl, _, rfl, cs, b1, m, rfl, hz, hb1, fun l b2 so p3 H3 hl s3 nso eso ep3 => ?_, fun q p3 H3 hl s3 ep3 => ?_⟩
      · obtain ⟨hll, hb2⟩ := rs_len hb1 hl
        have sH3 := s2.trans s3
        refine ⟨p3, _, rfl, SqT.of ep3, rfl, _, _, rfl, _, _, rfl, rfl, ?_⟩
        refine ⟨_, rfl, 1, rfl, rfl, false, by rw [decide_eq_false (nm1 b2)], iteF ?_⟩
        refine ⟨Nat.zero_le _, fun o no => ?_⟩
        have nHo : H o = none := sH3.free no
        have so_o : so ≠ o := ne_of_none eso no
        have hdue : ∀ R, es cs l b2 [] = R → due cs = (match R with | .inl p => .inl p | .inr (l, e2) => if e2 = cs.length then .inr l else .inl e2) := fun R hR => by
          unfold due
          rw [hx]
          simp only
          rw [hl]
          simp only
          rw [hR] <;> (cases R <;> rfl)
        have eso0 : upd H3 o (.lst []) so = some (.lst (l.map V.int)) := same_upd no _ _ eso
        refine ⟨_, rfl, so, rfl, ⟨_, SqL.of eso0⟩, for_list (K := K) (a := so) (xs := l.map V.int) (fun i σ H5 => ∃ (k : Nat) (acc : List (Int × List Int)) (ps : List Addr) (x1 x2 x3 : Option V), σ = [some (.str (S cs)), some (.int m), some (.int (k : Int)), some (.ref so), some (.ref o), x1, x2, x3] ∧ Same H H5 ∧ H5 so = some (.lst (l.map V.int)) ∧ H5 o = some (.lst (ps.map V.ref)) ∧ EntsAt H5 ps acc ∧ acc.length = i ∧ k ≤ cs.length ∧ es cs (l.drop i) k acc = es cs l b2 [])
          ⟨b2, [], [], none, none, none, rfl, sH3.trans (same_upd no), eso0, upd_same, EntsAt.nil _, rfl, hb2, rfl⟩ (fun i σ H5 _ ⟨_, _, _, _, _, _, _, _, h, _⟩ => SqL.of h) (fun i x σ H5 hi hp => ?_) (fun σ H5 hp => ?_)⟩
        · obtain ⟨sl, hsl, rfl⟩ := map_at hi
          obtain ⟨k, acc, ps, x1, x2, x3, rfl, sH5, ep5, eD5, hE5, hlen, hk5, hes⟩ := hp
          have hil : i < l.length := (List.getElem?_eq_some_iff.mp hsl).1
          have hdrop : l.drop i = sl :: l.drop (i + 1) := by
            obtain ⟨h1, h2⟩ := List.getElem?_eq_some_iff.mp hsl
            rw [List.drop_eq_getElem_cons h1, h2]
          refine ⟨_, rfl, _, rfl, cs, k, rfl, hz, by omega, fun p6 H6 s6 np6 ep6 => ?_⟩
          have sH6 := sH5.trans s6
          cases hy : num cs k with
          | inl q =>
            rw [hy] at ep6
            refine ⟨p6, _, rfl, SqT.of ep6, rfl, _, _, rfl, _, _, rfl, rfl, ?_⟩
            refine ⟨_, rfl, 1, rfl, rfl, true, rfl, iteT ?_⟩
            refine ⟨_, rfl, hbad q _ ?_ sH6⟩
            rw [hdue (.inl q)]
            rw [← hes, hdrop, es, hy]
          | inr z =>
            obtain ⟨y, b3⟩ := z
            rw [hy] at ep6
            obtain ⟨_, hb3⟩ := num_bound hy
            refine ⟨p6, _, rfl, SqT.of ep6, rfl, _, _, rfl, _, _, rfl, rfl, ?_⟩
            refine ⟨_, rfl, 1, rfl, rfl, false, by rw [decide_eq_false (nm1 b3)], iteF ?_⟩
            refine ⟨_, rfl, _, rfl, _, rfl, _, _, rfl, rfl, cs, b3, y + 1, rfl, hz, hb3, fun n b4 q p7 H7 hm s7 nq hq ep7 => ?_, fun q p7 H7 hm s7 ep7 => ?_⟩
            · have hb4 := (rs_len hb3 hm).2
              refine ⟨p7, _, rfl, SqT.of ep7, rfl, _, _, rfl, _, _, rfl, rfl, ?_⟩
              refine ⟨_, rfl, 1, rfl, rfl, false, by rw [decide_eq_false (nm1 b4)], iteF ?_⟩
              have eo7 := s7 _ _ (s6 _ _ eD5)
              refine ⟨_, rfl, .inl ⟨rfl, _, SqL.of eo7⟩, _, rfl, _, rfl, q, _, rfl, .inl ⟨SqL.of hq, fun tt ntt => ?_⟩⟩
              refine ⟨by show 2 ≤ sizeLine; decide, fun pp npp => ?_⟩
              generalize hH8 : upd H7 tt (HO.tup (n.map V.int)) = H8 at npp
              have s8 : Same H7 H8 := by rw [← hH8]; exact same_upd ntt
              have et : H8 tt = some (.tup (n.map V.int)) := by rw [← hH8, upd_same]
              generalize hH9 : upd H8 pp (HO.tup [V.int sl, V.ref tt]) = H9
              have s9 : Same H8 H9 := by rw [← hH9]; exact same_upd npp
              have epp : H9 pp = some (.tup [V.int sl, V.ref tt]) := by rw [← hH9, upd_same]
              have s59 : Same H5 H9 := ((s6.trans s7).trans s8).trans s9
              have eo9 := s59 _ _ eD5
              have hE9 : EntsAt H9 (ps ++ [pp]) (acc ++ [(sl, n)]) := (hE5.tups (TupS.same s59)).snoc ⟨tt, epp, s9 _ _ et⟩
              refine ⟨o, _, _, rfl, rfl, eo9, ?_, b4, acc ++ [(sl, n)], ps ++ [pp], _, _, _, rfl, ?_, ?_, ?_, ?_, ?_, hb4, ?_⟩
              · rw [List.length_map, hE5.1]
                exact small_line' (by omega)
              · intro c u e
                rw [upd_ne (ne_of_none e nHo)]
                exact s59 _ _ (sH5 _ _ e)
              · rw [upd_ne so_o]
                exact s59 _ _ ep5
              · rw [upd_same, List.map_append]
                rfl
              · exact hE9.tups (TupS.put eo9 (fun xs z => by cases z))
              · rw [List.length_append, hlen]
                rfl
              · rw [← hes, hdrop, es, hy]
                simp only
                rw [hm]
            · refine ⟨p7, _, rfl, SqT.of ep7, rfl, _, _, rfl, _, _, rfl, rfl, ?_⟩
              refine ⟨_, rfl, 1, rfl, rfl, true, rfl, iteT ?_⟩
              refine ⟨_, rfl, hbad q _ ?_ (sH6.trans s7)⟩
              rw [hdue (.inl q)]
              rw [← hes, hdrop, es, hy]
              simp only
              rw [hm]
        · obtain ⟨k, acc, ps, x1, x2, x3, rfl, sH5, ep5, eD5, hE5, hlen, hk5, hes⟩ := hp
          rw [List.length_map, List.drop_length] at hes
          have hd2 := hdue _ hes.symm
          refine ⟨_, rfl, _, rfl, by show 2 ≤ sizeLine; decide, fun c nc => ?_⟩
          have sc := same_upd (o := HO.lst [V.int (k : Int), V.ref o]) nc
          refine ⟨_, rfl, .str (S cs), rfl, _, cs.length, rfl, ⟨by rw [S_len]; exact small_line (by omega), by rw [S_len]⟩, rfl, .inr ⟨_, rfl, ?_⟩⟩
          by_cases hkc : k = cs.length
          · rw [decide_eq_true (by rw [hkc])]
            refine ⟨c, _, 1, _, rfl, rfl, SqL.of upd_same, rfl, ?_⟩
            refine hok acc o ps _ ?_ (sH5.trans sc) nHo (sc _ _ eD5) (hE5.same sc)
            rw [hd2, es]
            exact if_pos hkc
          · rw [decide_eq_false (fun z => hkc (by have := V.int.inj z; omega))]
            refine ⟨c, _, 0, _, rfl, rfl, SqL.of upd_same, rfl, ?_⟩
            refine hbad k _ ?_ (sH5.trans sc)
            rw [hd2, es]
            exact if_neg hkc
      · refine ⟨p3, _, rfl, SqT.of ep3, rfl, _, _, rfl, _, _, rfl, rfl, ?_⟩
        refine ⟨_, rfl, 1, rfl, rfl, true, rfl, iteT ?_⟩
        refine ⟨_, rfl, hbad q _ ?_ (s2.trans s3)⟩
        unfold due
        rw [hx]
        simp only
        rw [hl]
end
end K10
set_option Elab.async false
set_option linter.all false
set_option maxRecDepth 100000
set_option maxHeartbeats 4000000
/-! _law_kind. Printed by gen_kind.py. -/
namespace K10
open PySem PySem.Spec PyProof.Rows L2
section
variable {P : Program} {w : World} {K : PySem.W.Frag} {mg : Str → Option Value} {base : Heap}
theorem sc_kind : FnScope ["_law_e", "_law_names", "_law_some"] ["_law_e"] (defScope s__law_kind) := ⟨rfl, rfl, rfl, by decide +kernel, rfl, by decide +kernel, by decide +kernel⟩
def spKind : Addr → Addr → Sp := fun a dd vs H Q E => ∃ fs : List (Str × V), vs = [.ref a] ∧ H dd = some (.xd fs) ∧ ∀ H', Same H H' → Q (.str "code") H'
theorem ok_kind (T : Txt K mg) : ∃ fd, Binds K fd ["_law_e"] [] ∧ FnE P w K mg base 1 (He.ga K "_law_kind") fd ["_law_e"] (nc K) spKind := by
  obtain ⟨fd, F, b⟩ := T.f__law_kind
  refine ⟨fd, b, ?_⟩
  obtain ⟨oc, od, dV, kV, doc, pm, an, cdv, ct, osl, rfl, lk, hcd, _, _⟩ := F.ex
  refine fn_ofE lk hcd sc_kind (fun a dd vs H Q E h => ?_) (fun A outer s H vs Q E p dd hz hf hr h => ?_)
  · obtain ⟨fs, rfl, _⟩ := h
    rfl
  · obtain ⟨fs, rfl, hd, q⟩ := h
    have cI := call_isP (X := (L2H.cxH CX0 P w K mg base ["_law_e", "_law_names", "_law_some"] "_law_kind" (defScope s__law_kind) (He.ga K "_law_kind") cdv A outer s H E p).nox) (p := p) (D := nc K) (dd := dd) List.mem_cons_self T.err.exc hz hf
    have cT := call_isPT (X := (L2H.cxH CX0 P w K mg base ["_law_e", "_law_names", "_law_some"] "_law_kind" (defScope s__law_kind) (He.ga K "_law_kind") cdv A outer s H E p).nox) (p := p) (D := nc K) (dd := dd) List.mem_cons_self T.err.exc hz hf
    refine ⟨_, (pss_cons (ps_set (i := 1) sc_kind.nd rfl (.inl rfl) (pe_lst (pa_cons pe_str (pa_cons pe_str (pa_cons pe_str (pa_cons pe_str (pa_cons pe_str (pa_cons pe_str (pa_cons pe_str (pa_cons pe_str (pa_cons pe_str pa_nil)))))))))))
      (pss_cons (ps_set (i := 1) sc_kind.nd rfl (.inl rfl) (pe_op op_cat (pv 1) (pe_lst (pa_cons pe_str (pa_cons pe_str (pa_cons pe_str (pa_cons pe_str (pa_cons pe_str (pa_cons pe_str (pa_cons pe_str pa_nil))))))))))
      (pss_cons (ps_set (i := 2) sc_kind.nd rfl (.inl rfl) (pe_lst (pa_cons (pe_callB cI (by rfl) T.z_isinstance (by decide +kernel) (pa_cons (pv 0) (pa_cons (pe_glob (v := .ref (He.ga K "NoCode")) (by rfl) T.g_NoCode rfl) pa_nil))) (pa_cons (pe_callB cI (by rfl) T.z_isinstance (by decide +kernel) (pa_cons (pv 0) (pa_cons (pe_glob (v := .ref (He.ga K "NoDeed")) (by rfl) T.g_NoDeed rfl) pa_nil))) (pa_cons (pe_callB cI (by rfl) T.z_isinstance (by decide +kernel) (pa_cons (pv 0) (pa_cons (pe_glob (v := .ref (He.ga K "NoEntries")) (by rfl) T.g_NoEntries rfl) pa_nil))) (pa_cons (pe_callB cI (by rfl) T.z_isinstance (by decide +kernel) (pa_cons (pv 0) (pa_cons (pe_glob (v := .ref (He.ga K "NoLengths")) (by rfl) T.g_NoLengths rfl) pa_nil))) pa_nil))))))
      (pss_cons (ps_set (i := 2) sc_kind.nd rfl (.inl rfl) (pe_op op_cat (pv 2) (pe_lst (pa_cons (pe_callB cI (by rfl) T.z_isinstance (by decide +kernel) (pa_cons (pv 0) (pa_cons (pe_glob (v := .ref (He.ga K "NoName")) (by rfl) T.g_NoName rfl) pa_nil))) (pa_cons (pe_callB cI (by rfl) T.z_isinstance (by decide +kernel) (pa_cons (pv 0) (pa_cons (pe_glob (v := .ref (He.ga K "NoNumber")) (by rfl) T.g_NoNumber rfl) pa_nil))) (pa_cons (pe_callB cI (by rfl) T.z_isinstance (by decide +kernel) (pa_cons (pv 0) (pa_cons (pe_glob (v := .ref (He.ga K "NoPages")) (by rfl) T.g_NoPages rfl) pa_nil))) (pa_cons (pe_callB cI (by rfl) T.z_isinstance (by decide +kernel) (pa_cons (pv 0) (pa_cons (pe_glob (v := .ref (He.ga K "NoQueries")) (by rfl) T.g_NoQueries rfl) pa_nil))) pa_nil)))))))
      (pss_cons (ps_set (i := 2) sc_kind.nd rfl (.inl rfl) (pe_op op_cat (pv 2) (pe_lst (pa_cons (pe_callB cI (by rfl) T.z_isinstance (by decide +kernel) (pa_cons (pv 0) (pa_cons (pe_glob (v := .ref (He.ga K "NoQuery")) (by rfl) T.g_NoQuery rfl) pa_nil))) (pa_cons (pe_callB cI (by rfl) T.z_isinstance (by decide +kernel) (pa_cons (pv 0) (pa_cons (pe_glob (v := .ref (He.ga K "NoQueryText")) (by rfl) T.g_NoQueryText rfl) pa_nil))) (pa_cons (pe_callB cI (by rfl) T.z_isinstance (by decide +kernel) (pa_cons (pv 0) (pa_cons (pe_glob (v := .ref (He.ga K "NoRow")) (by rfl) T.g_NoRow rfl) pa_nil))) (pa_cons (pe_callB cI (by rfl) T.z_isinstance (by decide +kernel) (pa_cons (pv 0) (pa_cons (pe_glob (v := .ref (He.ga K "NoShelf")) (by rfl) T.g_NoShelf rfl) pa_nil))) pa_nil)))))))
      (pss_cons (ps_set (i := 2) sc_kind.nd rfl (.inl rfl) (pe_op op_cat (pv 2) (pe_lst (pa_cons (pe_callB cI (by rfl) T.z_isinstance (by decide +kernel) (pa_cons (pv 0) (pa_cons (pe_glob (v := .ref (He.ga K "NoSize")) (by rfl) T.g_NoSize rfl) pa_nil))) (pa_cons (pe_callB cI (by rfl) T.z_isinstance (by decide +kernel) (pa_cons (pv 0) (pa_cons (pe_glob (v := .ref (He.ga K "NoText")) (by rfl) T.g_NoText rfl) pa_nil))) (pa_cons (pe_callB cI (by rfl) T.z_isinstance (by decide +kernel) (pa_cons (pv 0) (pa_cons (pe_glob (v := .ref (He.ga K "NoWord")) (by rfl) T.g_NoWord rfl) pa_nil))) (pa_cons (pe_callB cI (by rfl) T.z_isinstance (by decide +kernel) (pa_cons (pv 0) (pa_cons (pe_glob (v := .ref (He.ga K "Taken")) (by rfl) T.g_Taken rfl) pa_nil))) pa_nil)))))))
      (pss_cons (ps_if (PW.pt (pw_or (pt_cmpR op_ne (pe_bm PySem.F.plainAttrs_list PySem.F.slot_list_count PySem.F.type_list_count mt_lcountF (pv 2) (pa_cons pe_bl pa_nil)) pe_int (nomark _)) (pw_or (pt_not (pt_val (pe_callB cI (by rfl) T.z_isinstance (by decide +kernel) (pa_cons (pv 0) (pa_cons (pe_bT (n := "ValueError") (by rfl) T.z_ValueError (by decide +kernel)) pa_nil))))) (pw_or1 (pt_val (pe_callB cT (by rfl) T.z_isinstance (by decide +kernel) (pa_cons (pv 0) (pa_cons (pe_tup (pa_cons (pe_glob (v := .ref (He.ga K "NoPlace")) (by rfl) T.g_NoPlace rfl) (pa_cons (pe_glob (v := .ref (He.ga K "NoSlot")) (by rfl) T.g_NoSlot rfl) pa_nil))) pa_nil)))))))) (pss_one (ps_ret pe_str)) pss_nil)
      (pss_one (ps_ret (pe_ix ix_list (pv 1) (pe_bm PySem.F.plainAttrs_list PySem.F.slot_list_index PySem.F.type_list_index mt_index (pv 2) (pa_cons pe_bl pa_nil)) (fun _ _ => rfl))))))))))), ?_⟩
    refine ⟨by show 9 ≤ sizeLine; decide, fun o1 n1 => ?_⟩
    have s1 := same_upd (o := HO.lst [V.str (PySem.Str.ofString "code"), V.str (PySem.Str.ofString "deed"), V.str (PySem.Str.ofString "entries"), V.str (PySem.Str.ofString "lengths"), V.str (PySem.Str.ofString "name"), V.str (PySem.Str.ofString "number"), V.str (PySem.Str.ofString "pages"), V.str (PySem.Str.ofString "queries"), V.str (PySem.Str.ofString "query")]) n1
    have e1 : upd H o1 (HO.lst [V.str (PySem.Str.ofString "code"), V.str (PySem.Str.ofString "deed"), V.str (PySem.Str.ofString "entries"), V.str (PySem.Str.ofString "lengths"), V.str (PySem.Str.ofString "name"), V.str (PySem.Str.ofString "number"), V.str (PySem.Str.ofString "pages"), V.str (PySem.Str.ofString "queries"), V.str (PySem.Str.ofString "query")]) o1 = some (HO.lst [V.str (PySem.Str.ofString "code"), V.str (PySem.Str.ofString "deed"), V.str (PySem.Str.ofString "entries"), V.str (PySem.Str.ofString "lengths"), V.str (PySem.Str.ofString "name"), V.str (PySem.Str.ofString "number"), V.str (PySem.Str.ofString "pages"), V.str (PySem.Str.ofString "queries"), V.str (PySem.Str.ofString "query")]) := upd_same
    generalize upd H o1 (HO.lst [V.str (PySem.Str.ofString "code"), V.str (PySem.Str.ofString "deed"), V.str (PySem.Str.ofString "entries"), V.str (PySem.Str.ofString "lengths"), V.str (PySem.Str.ofString "name"), V.str (PySem.Str.ofString "number"), V.str (PySem.Str.ofString "pages"), V.str (PySem.Str.ofString "queries"), V.str (PySem.Str.ofString "query")]) = H1 at s1 e1 ⊢
    have sm1 : Same H H1 := s1
    have hd := s1 _ _ hd
    refine ⟨_, rfl, by show 7 ≤ sizeLine; decide, fun o2 n2 => ?_⟩
    have s2 := same_upd (o := HO.lst [V.str (PySem.Str.ofString "text of query"), V.str (PySem.Str.ofString "row"), V.str (PySem.Str.ofString "shelf"), V.str (PySem.Str.ofString "size"), V.str (PySem.Str.ofString "text"), V.str (PySem.Str.ofString "word"), V.str (PySem.Str.ofString "taken")]) n2
    have e2 : upd H1 o2 (HO.lst [V.str (PySem.Str.ofString "text of query"), V.str (PySem.Str.ofString "row"), V.str (PySem.Str.ofString "shelf"), V.str (PySem.Str.ofString "size"), V.str (PySem.Str.ofString "text"), V.str (PySem.Str.ofString "word"), V.str (PySem.Str.ofString "taken")]) o2 = some (HO.lst [V.str (PySem.Str.ofString "text of query"), V.str (PySem.Str.ofString "row"), V.str (PySem.Str.ofString "shelf"), V.str (PySem.Str.ofString "size"), V.str (PySem.Str.ofString "text"), V.str (PySem.Str.ofString "word"), V.str (PySem.Str.ofString "taken")]) := upd_same
    generalize upd H1 o2 (HO.lst [V.str (PySem.Str.ofString "text of query"), V.str (PySem.Str.ofString "row"), V.str (PySem.Str.ofString "shelf"), V.str (PySem.Str.ofString "size"), V.str (PySem.Str.ofString "text"), V.str (PySem.Str.ofString "word"), V.str (PySem.Str.ofString "taken")]) = H2 at s2 e2 ⊢
    have sm2 : Same H H2 := sm1.trans s2
    have e1 := s2 _ _ e1
    have hd := s2 _ _ hd
    refine ⟨o1, o2, _, _, rfl, rfl, e1, e2, by show 16 ≤ sizeLine; decide, fun o3 n3 => ?_⟩
    have s3 := same_upd (o := HO.lst ([V.str (PySem.Str.ofString "code"), V.str (PySem.Str.ofString "deed"), V.str (PySem.Str.ofString "entries"), V.str (PySem.Str.ofString "lengths"), V.str (PySem.Str.ofString "name"), V.str (PySem.Str.ofString "number"), V.str (PySem.Str.ofString "pages"), V.str (PySem.Str.ofString "queries"), V.str (PySem.Str.ofString "query")] ++ [V.str (PySem.Str.ofString "text of query"), V.str (PySem.Str.ofString "row"), V.str (PySem.Str.ofString "shelf"), V.str (PySem.Str.ofString "size"), V.str (PySem.Str.ofString "text"), V.str (PySem.Str.ofString "word"), V.str (PySem.Str.ofString "taken")])) n3
    have e3 : upd H2 o3 (HO.lst ([V.str (PySem.Str.ofString "code"), V.str (PySem.Str.ofString "deed"), V.str (PySem.Str.ofString "entries"), V.str (PySem.Str.ofString "lengths"), V.str (PySem.Str.ofString "name"), V.str (PySem.Str.ofString "number"), V.str (PySem.Str.ofString "pages"), V.str (PySem.Str.ofString "queries"), V.str (PySem.Str.ofString "query")] ++ [V.str (PySem.Str.ofString "text of query"), V.str (PySem.Str.ofString "row"), V.str (PySem.Str.ofString "shelf"), V.str (PySem.Str.ofString "size"), V.str (PySem.Str.ofString "text"), V.str (PySem.Str.ofString "word"), V.str (PySem.Str.ofString "taken")])) o3 = some (HO.lst ([V.str (PySem.Str.ofString "code"), V.str (PySem.Str.ofString "deed"), V.str (PySem.Str.ofString "entries"), V.str (PySem.Str.ofString "lengths"), V.str (PySem.Str.ofString "name"), V.str (PySem.Str.ofString "number"), V.str (PySem.Str.ofString "pages"), V.str (PySem.Str.ofString "queries"), V.str (PySem.Str.ofString "query")] ++ [V.str (PySem.Str.ofString "text of query"), V.str (PySem.Str.ofString "row"), V.str (PySem.Str.ofString "shelf"), V.str (PySem.Str.ofString "size"), V.str (PySem.Str.ofString "text"), V.str (PySem.Str.ofString "word"), V.str (PySem.Str.ofString "taken")])) := upd_same
    generalize upd H2 o3 (HO.lst ([V.str (PySem.Str.ofString "code"), V.str (PySem.Str.ofString "deed"), V.str (PySem.Str.ofString "entries"), V.str (PySem.Str.ofString "lengths"), V.str (PySem.Str.ofString "name"), V.str (PySem.Str.ofString "number"), V.str (PySem.Str.ofString "pages"), V.str (PySem.Str.ofString "queries"), V.str (PySem.Str.ofString "query")] ++ [V.str (PySem.Str.ofString "text of query"), V.str (PySem.Str.ofString "row"), V.str (PySem.Str.ofString "shelf"), V.str (PySem.Str.ofString "size"), V.str (PySem.Str.ofString "text"), V.str (PySem.Str.ofString "word"), V.str (PySem.Str.ofString "taken")])) = H3 at s3 e3 ⊢
    have sm3 : Same H H3 := sm2.trans s3
    have hd := s3 _ _ hd
    refine ⟨_, rfl, _, _, true, fs, rfl, (fun _ h => h), hd, T.err.kind _ (List.mem_of_getElem? (i := 0) rfl), _, rfl, _, _, false, fs, rfl, (fun _ h => h), hd, T.err.kind _ (List.mem_of_getElem? (i := 1) rfl), _, rfl, _, _, false, fs, rfl, (fun _ h => h), hd, T.err.kind _ (List.mem_of_getElem? (i := 2) rfl), _, rfl, _, _, false, fs, rfl, (fun _ h => h), hd, T.err.kind _ (List.mem_of_getElem? (i := 3) rfl), by show 4 ≤ sizeLine; decide, fun o4 n4 => ?_⟩
    have s4 := same_upd (o := HO.lst [V.bl true, V.bl false, V.bl false, V.bl false]) n4
    have e4 : upd H3 o4 (HO.lst [V.bl true, V.bl false, V.bl false, V.bl false]) o4 = some (HO.lst [V.bl true, V.bl false, V.bl false, V.bl false]) := upd_same
    generalize upd H3 o4 (HO.lst [V.bl true, V.bl false, V.bl false, V.bl false]) = H4 at s4 e4 ⊢
    have sm4 : Same H H4 := sm3.trans s4
    have e3 := s4 _ _ e3
    have hd := s4 _ _ hd
    refine ⟨_, rfl, _, rfl, _, _, false, fs, rfl, (fun _ h => h), hd, T.err.kind _ (List.mem_of_getElem? (i := 4) rfl), _, rfl, _, _, false, fs, rfl, (fun _ h => h), hd, T.err.kind _ (List.mem_of_getElem? (i := 5) rfl), _, rfl, _, _, false, fs, rfl, (fun _ h => h), hd, T.err.kind _ (List.mem_of_getElem? (i := 6) rfl), _, rfl, _, _, false, fs, rfl, (fun _ h => h), hd, T.err.kind _ (List.mem_of_getElem? (i := 7) rfl), by show 4 ≤ sizeLine; decide, fun o5 n5 => ?_⟩
    have s5 := same_upd (o := HO.lst [V.bl false, V.bl false, V.bl false, V.bl false]) n5
    have e5 : upd H4 o5 (HO.lst [V.bl false, V.bl false, V.bl false, V.bl false]) o5 = some (HO.lst [V.bl false, V.bl false, V.bl false, V.bl false]) := upd_same
    generalize upd H4 o5 (HO.lst [V.bl false, V.bl false, V.bl false, V.bl false]) = H5 at s5 e5 ⊢
    have sm5 : Same H H5 := sm4.trans s5
    have e3 := s5 _ _ e3
    have e4 := s5 _ _ e4
    have hd := s5 _ _ hd
    refine ⟨o4, o5, _, _, rfl, rfl, e4, e5, by show 8 ≤ sizeLine; decide, fun o6 n6 => ?_⟩
    have s6 := same_upd (o := HO.lst ([V.bl true, V.bl false, V.bl false, V.bl false] ++ [V.bl false, V.bl false, V.bl false, V.bl false])) n6
    have e6 : upd H5 o6 (HO.lst ([V.bl true, V.bl false, V.bl false, V.bl false] ++ [V.bl false, V.bl false, V.bl false, V.bl false])) o6 = some (HO.lst ([V.bl true, V.bl false, V.bl false, V.bl false] ++ [V.bl false, V.bl false, V.bl false, V.bl false])) := upd_same
    generalize upd H5 o6 (HO.lst ([V.bl true, V.bl false, V.bl false, V.bl false] ++ [V.bl false, V.bl false, V.bl false, V.bl false])) = H6 at s6 e6 ⊢
    have sm6 : Same H H6 := sm5.trans s6
    have e3 := s6 _ _ e3
    have hd := s6 _ _ hd
    refine ⟨_, rfl, _, rfl, _, _, false, fs, rfl, (fun _ h => h), hd, T.err.kind _ (List.mem_of_getElem? (i := 8) rfl), _, rfl, _, _, false, fs, rfl, (fun _ h => h), hd, T.err.kind _ (List.mem_of_getElem? (i := 9) rfl), _, rfl, _, _, false, fs, rfl, (fun _ h => h), hd, T.err.kind _ (List.mem_of_getElem? (i := 10) rfl), _, rfl, _, _, false, fs, rfl, (fun _ h => h), hd, T.err.kind _ (List.mem_of_getElem? (i := 11) rfl), by show 4 ≤ sizeLine; decide, fun o7 n7 => ?_⟩
    have s7 := same_upd (o := HO.lst [V.bl false, V.bl false, V.bl false, V.bl false]) n7
    have e7 : upd H6 o7 (HO.lst [V.bl false, V.bl false, V.bl false, V.bl false]) o7 = some (HO.lst [V.bl false, V.bl false, V.bl false, V.bl false]) := upd_same
    generalize upd H6 o7 (HO.lst [V.bl false, V.bl false, V.bl false, V.bl false]) = H7 at s7 e7 ⊢
    have sm7 : Same H H7 := sm6.trans s7
    have e3 := s7 _ _ e3
    have e6 := s7 _ _ e6
    have hd := s7 _ _ hd
    refine ⟨o6, o7, _, _, rfl, rfl, e6, e7, by show 12 ≤ sizeLine; decide, fun o8 n8 => ?_⟩
    have s8 := same_upd (o := HO.lst (([V.bl true, V.bl false, V.bl false, V.bl false] ++ [V.bl false, V.bl false, V.bl false, V.bl false]) ++ [V.bl false, V.bl false, V.bl false, V.bl false])) n8
    have e8 : upd H7 o8 (HO.lst (([V.bl true, V.bl false, V.bl false, V.bl false] ++ [V.bl false, V.bl false, V.bl false, V.bl false]) ++ [V.bl false, V.bl false, V.bl false, V.bl false])) o8 = some (HO.lst (([V.bl true, V.bl false, V.bl false, V.bl false] ++ [V.bl false, V.bl false, V.bl false, V.bl false]) ++ [V.bl false, V.bl false, V.bl false, V.bl false])) := upd_same
    generalize upd H7 o8 (HO.lst (([V.bl true, V.bl false, V.bl false, V.bl false] ++ [V.bl false, V.bl false, V.bl false, V.bl false]) ++ [V.bl false, V.bl false, V.bl false, V.bl false])) = H8 at s8 e8 ⊢
    have sm8 : Same H H8 := sm7.trans s8
    have e3 := s8 _ _ e3
    have hd := s8 _ _ hd
    refine ⟨_, rfl, _, rfl, _, _, false, fs, rfl, (fun _ h => h), hd, T.err.kind _ (List.mem_of_getElem? (i := 12) rfl), _, rfl, _, _, false, fs, rfl, (fun _ h => h), hd, T.err.kind _ (List.mem_of_getElem? (i := 13) rfl), _, rfl, _, _, false, fs, rfl, (fun _ h => h), hd, T.err.kind _ (List.mem_of_getElem? (i := 14) rfl), _, rfl, _, _, false, fs, rfl, (fun _ h => h), hd, T.err.kind _ (List.mem_of_getElem? (i := 15) rfl), by show 4 ≤ sizeLine; decide, fun o9 n9 => ?_⟩
    have s9 := same_upd (o := HO.lst [V.bl false, V.bl false, V.bl false, V.bl false]) n9
    have e9 : upd H8 o9 (HO.lst [V.bl false, V.bl false, V.bl false, V.bl false]) o9 = some (HO.lst [V.bl false, V.bl false, V.bl false, V.bl false]) := upd_same
    generalize upd H8 o9 (HO.lst [V.bl false, V.bl false, V.bl false, V.bl false]) = H9 at s9 e9 ⊢
    have sm9 : Same H H9 := sm8.trans s9
    have e3 := s9 _ _ e3
    have e8 := s9 _ _ e8
    have hd := s9 _ _ hd
    refine ⟨o8, o9, _, _, rfl, rfl, e8, e9, by show 16 ≤ sizeLine; decide, fun o10 n10 => ?_⟩
    have s10 := same_upd (o := HO.lst ((([V.bl true, V.bl false, V.bl false, V.bl false] ++ [V.bl false, V.bl false, V.bl false, V.bl false]) ++ [V.bl false, V.bl false, V.bl false, V.bl false]) ++ [V.bl false, V.bl false, V.bl false, V.bl false])) n10
    have e10 : upd H9 o10 (HO.lst ((([V.bl true, V.bl false, V.bl false, V.bl false] ++ [V.bl false, V.bl false, V.bl false, V.bl false]) ++ [V.bl false, V.bl false, V.bl false, V.bl false]) ++ [V.bl false, V.bl false, V.bl false, V.bl false])) o10 = some (HO.lst ((([V.bl true, V.bl false, V.bl false, V.bl false] ++ [V.bl false, V.bl false, V.bl false, V.bl false]) ++ [V.bl false, V.bl false, V.bl false, V.bl false]) ++ [V.bl false, V.bl false, V.bl false, V.bl false])) := upd_same
    generalize upd H9 o10 (HO.lst ((([V.bl true, V.bl false, V.bl false, V.bl false] ++ [V.bl false, V.bl false, V.bl false, V.bl false]) ++ [V.bl false, V.bl false, V.bl false, V.bl false]) ++ [V.bl false, V.bl false, V.bl false, V.bl false])) = H10 at s10 e10 ⊢
    have sm10 : Same H H10 := sm9.trans s10
    have e3 := s10 _ _ e3
    have hd := s10 _ _ hd
    refine ⟨_, rfl, .inl ⟨rfl, _, SqL.of e10⟩, _, _, _, rfl, rfl, SqL.of e10, rfl, rfl, rfl, false, rfl, iteF ?_⟩
    refine ⟨_, rfl, _, _, true, fs, rfl, (fun _ h => h), hd, T.err.ve, true, rfl, iteF ?_⟩
    refine ⟨_, rfl, by show 2 ≤ sizeLine; decide, fun tp ntp => ?_⟩
    have st := same_upd (o := HO.tup [V.ref (He.ga K "NoPlace"), V.ref (He.ga K "NoSlot")]) ntp
    have k1 := T.err.kind _ (List.mem_of_getElem? (i := 16) rfl)
    have k2 := T.err.kind _ (List.mem_of_getElem? (i := 17) rfl)
    refine ⟨tp, _, [.ref (He.ga K "NoPlace"), .ref (He.ga K "NoSlot")], false, fs, rfl, upd_same, .cons (.own _) (.cons (.own _) .nil), st _ _ hd, ?_, false, rfl, iteF ?_⟩
    · show PySem.W.kitAny K (.ref (nc K)) [.ref (He.ga K "NoPlace"), .ref (He.ga K "NoSlot")] = some false
      unfold PySem.W.kitAny
      rw [k1]
      unfold PySem.W.kitAny
      rw [k2]
      rfl
    refine ⟨_, rfl, _, rfl, .inl ⟨rfl, _, SqL.of (st _ _ e10)⟩, _, _, _, 0, _, rfl, rfl, SqL.of (st _ _ e10), rfl, rfl, rfl, rfl, (fun m z' h _ => absurd h (Nat.not_lt_zero _)), ?_⟩
    exact ⟨_, _, 0, _, rfl, rfl, SqL.of (st _ _ e3), rfl, q _ (sm10.trans st)⟩
end
end K10
set_option Elab.async false
set_option linter.all false
set_option maxRecDepth 100000
set_option maxHeartbeats 4000000
/-! _law_how. -/
namespace K10
open PySem PySem.Spec PyProof.Rows L2
/-- the error that the deed raised: told by its class and its place -/
def THow (K : PySem.W.Frag) : (XK → Hp → VK → Prop) → Hp → VK → Prop := fun tl H Q =>
  tl (fun cls d H' => cls = .ref (nc K) ∧ ∃ (dd : Addr) (fs : List (Str × V)) (v : V) (t : Value), d = some dd ∧ H' dd = some (.xd fs) ∧ fs.lookup ("at" : Str) = some v ∧ TyX K H' v t ∧ PySem.W.kitOne K t (.type "bool") = some false ∧
    ∀ (p : Addr) (H2 : Hp), Same H' H2 → H2 p = some (.tup [.str "code", v]) → Q (.ref p) H2) H (fun _ H' => Q (.str "told") H')
theorem sc_how : FnScope ["_law_deed", "_law_e"] ["_law_deed"] (defScope s__law_how) := ⟨rfl, rfl, rfl, by decide +kernel, rfl, by decide +kernel, by decide +kernel⟩
/-- a reading of some derivation in the suite -/
def tsE (X : Cx) (suite : List Stmt) : Addr → Value → Option Addr → TS := fun a cls d D σ H =>
  ∃ (dd : Addr) (t : TS), d = some dd ∧ (∀ (oe : Obj) (pn : List (Addr × Obj)), Zc cls (some dd) oe → (∃ vs, oe.data = .fields vs) → PSs (X.suite a ((a, oe) :: pn)) suite t) ∧ t D σ H
theorem pss_tsE {X : Cx} {suite : List Stmt} {C : Value} (a : Addr) (oe : Obj) (d : Option Addr) (pn : List (Addr × Obj)) (hz : Zc C d oe) (hf : ∃ vs, oe.data = .fields vs) : PSs (X.suite a ((a, oe) :: pn)) suite (tsE X suite a C d) := by
  refine ⟨fun pins s σ H D I h => ?_⟩
  obtain ⟨dd, t, rfl, hp, ht⟩ := h
  exact (hp oe pn hz hf).run pins s σ H D I ht
theorem pe_kindE {X : Cx} {a dd : Addr} {oe : Obj} {pn : List (Addr × Obj)} {e : Expr} {es : List Expr} {t : TA} {q pos : Pos} (T : Txt X.K X.mg) (hr : Room 1 X.A) (hz : Zc (.ref (nc X.K)) (some dd) oe) (hf : ∃ vs, oe.data = .fields vs) (hg : Gl X "_law_kind")
    (ha : PA (X.suite a ((a, oe) :: pn)) (e :: es) t) (he : starEach (e :: es) X.env = (false, eval e X.env) :: starEach es X.env := by rfl) (hpl : (backTo pos (starEach es X.env)).any (·.1) = false := by rfl) :
    PE (X.suite a ((a, oe) :: pn)) (.Call (.Name "_law_kind" q) (e :: es) [] pos) (tCallE spKind a dd t) := by
  obtain ⟨fd, b, F⟩ := ok_kind (P := X.prog) (w := X.w) (base := X.base) T
  exact pe_callE (X := X.suite a ((a, oe) :: pn)) (p := (a, oe)) F ⟨hr.dp, hr.un⟩ List.mem_cons_self hz hf hg T.g__law_kind T.k__law_kind b ha (by decide) he hpl
theorem how_gives {X : Cx} (T : Txt X.K X.mg) (hr : Room 2 X.A) {cdg : Value} {q : Str} : LamX.GivesTo X ["_law_deed", "_law_e"] "_law_how" (defScope s__law_how) (He.ga X.K "_law_how") cdg (defBody s__law_how) "_law_deed" q (THow X.K) := by
  intro f c' s H Q tl act hc h
  have hr1 : Room 1 (cxOf C8.CX0 X.prog X.w X.K X.mg X.base ["_law_deed", "_law_e"] "_law_how" (defScope s__law_how) (He.ga X.K "_law_how") cdg X.A X.stack s H C8.E0).nox.A := hr.deeper _
  refine ⟨_, pss_cons (ps_try_tupAs (X := (cxOf C8.CX0 X.prog X.w X.K X.mg X.base ["_law_deed", "_law_e"] "_law_how" (defScope s__law_how) (He.ga X.K "_law_how") cdg X.A X.stack s H C8.E0).nox) (C := .ref (nc X.K)) (i := 1)
      (tb := fun W D σ H => ∃ Ech : XK, (∀ cls d σ' H', Ech cls d H' → W cls d σ' H') ∧ σ[0]? = some (some (.ref f)) ∧ H c' = some (LamX.CodeO c' q) ∧ tl Ech H (fun _ H' => D.nx σ H'))
      rfl rfl sc_how.nd rfl rfl
      ⟨by rfl, by decide, .inl T.g_NoCode⟩ ⟨by rfl, by decide, .inl T.g_NoEntries⟩ ⟨by rfl, by decide, .inl T.g_NoPages⟩ ⟨by rfl, by decide, .inl T.g_NoQueryText⟩ ⟨by rfl, by decide, .inl T.g_NoRow⟩
      (T.err.exm _ (List.mem_of_getElem? (i := 0) rfl)) (T.err.exm _ (List.mem_of_getElem? (i := 1) rfl)) (T.err.exm _ (List.mem_of_getElem? (i := 2) rfl)) (T.err.exm _ (List.mem_of_getElem? (i := 3) rfl)) (T.err.exm _ (List.mem_of_getElem? (i := 4) rfl))
      (fun W pn xe tk _ => ?_) (fun a oe d pn hz hf => pss_tsE a oe d pn hz hf)) (pss_one (ps_ret pe_str)), ?_⟩
  · refine ⟨fun pins s' σ H' D I h' => ?_⟩
    obtain ⟨Ech, hW, h1, h2, h3⟩ := h'
    exact (pss_one (ps_expr (act W pn xe Ech _ _ tk hW))).run pins s' σ H' D I ⟨h1, h2, h3⟩
  · refine ⟨fun cls d H' => cls = .ref (nc X.K) ∧ ∃ (dd : Addr) (fs : List (Str × V)) (v : V) (t : Value), d = some dd ∧ H' dd = some (.xd fs) ∧ fs.lookup ("at" : Str) = some v ∧ TyX X.K H' v t ∧ PySem.W.kitOne X.K t (.type "bool") = some false ∧
      ∀ (p : Addr) (H2 : Hp), Same H' H2 → H2 p = some (.tup [.str "code", v]) → Q (.ref p) H2, fun cls d σ' H' hE => ?_, rfl, hc, h⟩
    obtain ⟨rfl, dd, fs, v, t, rfl, hd, hl, hT, hk, q⟩ := hE
    refine ⟨rfl, fun a na hlen => ⟨dd, _, rfl, fun oe pn hz hf => pss_cons (ps_if (pt_val (pe_callB (r := rIsi X.K) call_isi (by rfl) T.z_isinstance (by decide +kernel) (pa_cons (pe_xf T.err.xf T.err.noAt hz hf (pv 1)) (pa_cons (pe_bT (n := "bool") (by rfl) T.z_bool (by decide +kernel)) pa_nil)))) (pss_one (ps_ret pe_str)) pss_nil)
      (pss_one (ps_ret (pe_tup (pa_cons (pe_kindE T hr1 hz hf (by rfl) (pa_cons (pv 1) pa_nil)) (pa_cons (pe_xf T.err.xf T.err.noAt hz hf (pv 1)) pa_nil))))), ?_⟩⟩
    obtain ⟨y1, y2, rfl⟩ : ∃ y1 y2, σ' = [y1, y2] := by
      match σ', hlen with
      | [y1, y2], _ => exact ⟨y1, y2, rfl⟩
    refine ⟨_, rfl, rfl, rfl, dd, fs, v, rfl, hd, hl, _, _, t, _, false, rfl, .ty "bool", hT, hk, false, rfl, iteF ?_⟩
    refine ⟨_, rfl, fs, rfl, hd, fun H3 s3 => ?_⟩
    refine ⟨_, rfl, rfl, rfl, dd, fs, v, rfl, s3 _ _ hd, hl, by show 2 ≤ sizeLine; decide, fun p np => ?_⟩
    exact q p _ (s3.trans (same_upd np)) upd_same
end K10
set_option Elab.async false
set_option linter.all false
set_option maxRecDepth 100000
set_option maxHeartbeats 4000000
/-! Entries as data; _law_how(lambda: ..); _law_right. -/
namespace K10
open PySem PySem.Spec PyProof.Rows L2
/-! ### entries as data -/
def dEnt (e : Int × List Int) : PyData := .tuple [.int e.1, .tuple (e.2.map PyData.int)]
theorem canLay_ents : ∀ es : List (Int × List Int), PyData.canLayAll0 (es.map dEnt) = true
  | [] => rfl
  | e :: r => by
    show ((PyData.canLay0 (.int e.1) && (PyData.canLayAll0 (e.2.map PyData.int) && true)) && PyData.canLayAll0 (r.map dEnt)) = true
    rw [canLay_ints, canLay_ents r]
    rfl
theorem depth_ents : ∀ es : List (Int × List Int), PyData.depthAll (es.map dEnt) ≤ 4
  | [] => by decide
  | e :: r => by
    have h := depth_ents r
    have h2 := depth_ints e.2
    show max (max (PyData.depth (.int e.1)) (max (PyData.depthAll (e.2.map PyData.int) + 1) 0) + 1) (PyData.depthAll (r.map dEnt)) ≤ 4
    have h3 : PyData.depth (.int e.1) ≤ 1 := by unfold PyData.depth; omega
    omega
theorem shaped_ents (es : List (Int × List Int)) : SeqAt.shaped (.list (es.map dEnt)) = true := by
  unfold SeqAt.shaped
  rw [Bool.and_eq_true]
  refine ⟨canLay_ents es, decide_eq_true ?_⟩
  have h := depth_ents es
  unfold PyData.depth
  omega
theorem dp_ents {K : PySem.W.Frag} {H : Hp} : ∀ (ps : List Addr) (es : List (Int × List Int)), EntsAt H ps es → DpAll K H (ps.map V.ref) (es.map dEnt)
  | [], [], _ => .nil
  | [], _ :: _, h => by have := h.1; simp at this
  | _ :: _, [], h => by have := h.1; simp at this
  | p :: ps, e :: es, h => by
    obtain ⟨t, h1, h2⟩ := h.2 0 p e rfl rfl
    have hr : EntsAt H ps es := ⟨by have := h.1; simpa using this, fun i q f a b => h.2 (i + 1) q f a b⟩
    exact .cons (.tup (SqT.of h1) (.cons (.int _) (.cons (.tup (SqT.of h2) (dp_ints _ _ _)) .nil))) (dp_ents ps es hr)
theorem eqv_ents (es : List (Int × List Int)) : PyData.eqv (.list (es.map dEnt)) (.list (es.map dEnt)) = true :=
  SeqAt.eqv_refl_plain _ (PyData.plain_of_canLay0 _ (SeqAt.canLay_of_shaped (shaped_ents es)))
theorem shaped_code (v : PyData) (h : PyData.canLay0 v = true) (hd : PyData.depth v ≤ 1) : SeqAt.shaped (.tuple [.str (PySem.Str.ofString "code"), v]) = true := by
  unfold SeqAt.shaped
  rw [Bool.and_eq_true]
  refine ⟨?_, decide_eq_true ?_⟩
  · show (PyData.canLay0 (.str (PySem.Str.ofString "code")) && (PyData.canLay0 v && true)) = true
    rw [h]
    decide +kernel
  · have h2 : PyData.depth (.str (PySem.Str.ofString "code")) ≤ 1 := by unfold PyData.depth; omega
    show max (PyData.depth (.str (PySem.Str.ofString "code"))) (max (PyData.depth v) 0) + 1 ≤ 64
    omega
theorem shaped_codeI (n : Int) : SeqAt.shaped (.tuple [.str (PySem.Str.ofString "code"), .int n]) = true := shaped_code _ rfl (by unfold PyData.depth; omega)
theorem shaped_codeN : SeqAt.shaped (.tuple [.str (PySem.Str.ofString "code"), .none]) = true := shaped_code _ rfl (by unfold PyData.depth; omega)
/-! ### the tables -/
abbrev tR (K : PySem.W.Frag) : Addr × Addr := He.cT K ("_law_right", none)
abbrev tW (K : PySem.W.Frag) : Addr × Addr := He.cT K ("law", none)
def tabL (K : PySem.W.Frag) : List (Addr × Str) := [((tR K).2, PySem.Str.ofString "_law_right" ++ PySem.Str.ofString ".<locals>." ++ PySem.Str.ofString "<lambda>"), ((tW K).2, PySem.Str.ofString "law" ++ PySem.Str.ofString ".<locals>." ++ PySem.Str.ofString "<lambda>")]
theorem tab_r {K : PySem.W.Frag} {mg : Str → Option Value} (T : Txt K mg) : ∀ p ∈ tabL K, p.1 = (tR K).2 → p.2 = PySem.Str.ofString "_law_right" ++ PySem.Str.ofString ".<locals>." ++ PySem.Str.ofString "<lambda>" := fun p hp e => by
  rcases List.mem_cons.mp hp with h | h
  · rw [h]
  · rw [List.mem_singleton.mp h] at e
    exact absurd e.symm T.two
theorem tab_w {K : PySem.W.Frag} {mg : Str → Option Value} (T : Txt K mg) : ∀ p ∈ tabL K, p.1 = (tW K).2 → p.2 = PySem.Str.ofString "law" ++ PySem.Str.ofString ".<locals>." ++ PySem.Str.ofString "<lambda>" := fun p hp e => by
  rcases List.mem_cons.mp hp with h | h
  · rw [h] at e
    exact absurd e T.two
  · rw [List.mem_singleton.mp h]
theorem ext_same {H H' : Hp} (s : Same H H') : LamX.ExtN H H' := fun b o h _ => s b o h
theorem pe_how {X : Cx} {c Pt : Addr} {k : Nat} {tabs : List (Addr × Str)} {params : Arguments} {body : Expr} {scope : Scope} {t : XK → TE} {p lpos pos : Pos} (T : Txt X.K X.mg) (hg : Gl X "_law_how") (TB : LamX.TabB X.base X.mg c Pt) (hcode : X.env.code = .ref c)
    (hmT : (Pt, X.env.qual ++ "<lambda>") ∈ tabs) (hu : ∀ p ∈ tabs, p.1 = Pt → p.2 = X.env.qual ++ "<lambda>") (hr : Room (k + 2) X.A) (L : LamX.LamS X.env.scope scope) (hdef : defaultsOf params X.env = ([], []))
    (hbind : ∀ (q : Str) (cl : List (Str × Addr)) (pm cv ctv : Value), bindArgs (PySem.W.kla_fn "<lambda>" q params body scope cl pm cv ctv) ⟨[], []⟩ = pure [])
    (hbody : ∀ (A : Around) (outer : List Env) (s : Shared) (H : Hp) (E : XK) (f c' : Addr), Room k (A.deeper (LamX.lamEnv X scope s.heap.objs.size f c')) → PE (LamX.lamCx X A outer s H E scope f c') body (t E)) :
    PE X (.Call (.Name "_law_how" p) [.Lambda params body scope lpos] [] pos) (LamX.tLam tabs (THow X.K) t) := by
  obtain ⟨fd, F, b⟩ := T.f__law_how
  obtain ⟨oc, od, dV, kV, doc, pm, an, cdv, ct, osl, rfl, lk, hcd, _, _⟩ := F.ex
  exact LamX.pe_lamcall (Ng := ["_law_deed", "_law_e"]) hg T.g__law_how T.k__law_how lk hcd b sc_how rfl (.inl rfl) (how_gives T (hr.mono (by omega))) TB hcode hmT hu hr L hdef hbind hbody
section
variable {P : Program} {w : World} {K : PySem.W.Frag} {mg : Str → Option Value} {base : Heap}
theorem sc_right : FnScope ["_law_text", "_law_due_here", "_law_told"] ["_law_text"] (defScope s__law_right) := ⟨rfl, rfl, rfl, by decide +kernel, rfl, by decide +kernel, by decide +kernel⟩
def spRight (K : PySem.W.Frag) : Sp := fun vs H Q E => ∃ cs : List Nat, vs = [.str (S cs)] ∧ cs.length ≤ 100000 ∧ LamX.Tabs (tabL K) H ∧ ∀ H', LamX.ExtN H H' → LamX.Tabs (tabL K) H' → Q (.bl true) H'
/-- the code object of a def at f, if its data is known -/
theorem code_of {K : PySem.W.Frag} {n : Str} {oc : Value} {od : Option Addr} {osl : Array (Option Value)} {fd : FuncData} {q : Str} (lk : K.lookup (He.ga K n) = some ⟨oc, od, .func fd, osl⟩) (hc : PySem.W.codeIn K fd.code q = true) : fd.code = .ref (He.cT K (n, none)).1 := by
  obtain ⟨c, e⟩ := He.codeIn_ref hc
  have h := He.codeOf_eq (K := K) (p := (n, none)) lk e
  rw [e]
  show Value.ref c = .ref (He.codeOf K (n, none))
  rw [h]
theorem ok_right (T : Txt K mg) (TB : LamX.TabB base mg (tR K).1 (tR K).2) : Def P w K mg base CX0 9 (He.ga K "_law_right") ["_law_text"] (spRight K) := by
  obtain ⟨fd, F, b⟩ := T.f__law_right
  have hcode : ∀ cdv, fd.code = cdv → cdv = .ref (tR K).1 := fun cdv e => by
    obtain ⟨oc, od, dV, kV, doc, pm, an, cdv', ct, osl, rfl, lk, hcd, _, _⟩ := F.ex
    rw [← e]
    exact code_of lk hcd
  obtain ⟨oc, od, dV, kV, doc, pm, an, cdv, ct, osl, rfl, lk, hcd, _, _⟩ := F.ex
  refine ⟨_, b, fn_of lk hcd sc_right (fun vs H Q E h => ?_) fun A outer s H vs Q E hr h => ?_⟩
  · obtain ⟨a, rfl, _⟩ := h
    rfl
  · obtain ⟨cs, rfl, hz, hT, q⟩ := h
    have ec : cdv = .ref (tR K).1 := hcode _ rfl
    refine ⟨_, PSs.nox (pss_cons (ps_set (i := 1) sc_right.nd rfl (.inl rfl) (pe_callD (ok_due T) (hr.mono (by decide)) (by rfl) T.g__law_due T.k__law_due pass0 (pa_cons (pv 0) pa_nil)))
      (pss_cons (ps_if (pt_not (pt_val (pe_callB call_isi (by rfl) T.z_isinstance (by decide +kernel) (pa_cons (pv 1) (pa_cons (pe_bT (n := "list") (by rfl) T.z_list (by decide +kernel)) pa_nil)))))
        (pss_one (ps_ret (pe_cmpR (op_eqD hr.units) (pe_how (k := 6) (tabs := tabL K) T (by rfl) TB ec (by exact List.mem_cons_self) (tab_r T) hr (LamX.lamS_by (by show LamX.lamSB (defScope s__law_right) _ = true; decide +kernel)) rfl (fun _ _ _ _ _ => rfl) (fun A outer s H E f c' hr2 => pe_callD (ok_de T) hr2 (by rfl) T.g_decode_entries T.k_decode_entries (passes_call (E := E) (takes_of rfl rfl rfl rfl) (fun _ _ _ _ h => h)) (pa_cons (pv 0) pa_nil))) (pe_tup (pa_cons pe_str (pa_cons (pv 1) pa_nil))) (nomark _)))) pss_nil)
      (pss_cons (ps_set (i := 2) sc_right.nd rfl (.inl rfl) (pe_callD (E := fun _ _ _ => False) (ok_de T) (hr.mono (by decide)) (by rfl) T.g_decode_entries T.k_decode_entries (passes_call (E := fun _ _ _ => False) takes0 (fun _ _ _ _ h => h)) (pa_cons (pv 0) pa_nil)))
      (pss_one (ps_ret (pe_and (pe_callB call_isi (by rfl) T.z_isinstance (by decide +kernel) (pa_cons (pv 2) (pa_cons (pe_bT (n := "list") (by rfl) T.z_list (by decide +kernel)) pa_nil)))
        (pe_and (pe_cmpR (op_eqD hr.units) (pv 2) (pv 1) (nomark _))
          (pe_one (pe_cmpR op_eq (pe_callD (ok_ce T) (hr.mono (by decide)) (by rfl) T.g_code_entries T.k_code_entries pass0 (pa_cons (pv 2) pa_nil)) (pv 0) (nomark _)))))))))), ?_⟩
    refine ⟨_, rfl, cs, rfl, hz, fun es p ps H1 hd s1 np ep hE => ?_, fun n H1 hd s1 => ?_⟩
    · -- a list is due
      refine ⟨_, rfl, _, _, _, _, true, rfl, .ty "list", .base (.lst ep), kit_ty (by decide +kernel), true, rfl, iteF ?_⟩
      have hG := due_code hd
      refine ⟨_, rfl, _, _, true, rfl, .base (.str _), kit_ty (by decide +kernel), fun _ => ⟨cs, rfl, hz, fun es2 p2 ps2 H2 hd2 s2 np2 ep2 hE2 => ?_, fun n d H2 hd2 _ _ _ => ?_⟩, fun z => nomatch z⟩
      · have ee : es = es2 := Sum.inr.inj (hd.symm.trans hd2)
        subst ee
        refine ⟨_, rfl, _, _, _, _, true, rfl, .ty "list", .base (.lst ep2), kit_ty (by decide +kernel), true, rfl, iteT ?_⟩
        refine ⟨_, rfl, _, rfl, .list (es.map dEnt), .list (es.map dEnt), .lst (SqL.of ep2) (dp_ents _ _ hE2), .lst (SqL.of (s2 _ _ ep)) (dp_ents _ _ (hE.same s2)), shaped_ents _, shaped_ents _, ?_⟩
        rw [eqv_ents]
        refine ⟨true, rfl, iteT ?_⟩
        refine ⟨_, rfl, p2, ps2, es, cs, rfl, ep2, hE2, hG, hz, fun H3 s3 => ?_⟩
        refine ⟨_, rfl, rfl, ?_⟩
        have sF := (s1.trans s2).trans s3
        have e1 : decide (V.str (S cs) = V.str (S cs)) = true := decide_eq_true rfl
        rw [e1]
        exact q _ (ext_same sF) (hT.ext sF)
      · rw [hd] at hd2
        cases hd2
    · -- a place is due
      refine ⟨_, rfl, _, _, _, _, false, rfl, .ty "list", .base (.int n), kit_ty (by decide +kernel), false, rfl, iteT ?_⟩
      refine ⟨hT.ext s1, fun H2 x2 T2 => ?_⟩
      refine ⟨_, rfl, _, _, true, rfl, .base (.str _), kit_ty (by decide +kernel), fun _ => ⟨cs, rfl, hz, fun es2 p2 ps2 H3 hd2 s3 np2 ep2 hE2 => ?_, fun n2 d H3 hd2 s3 nd he => ?_⟩, fun z => nomatch z⟩
      · rw [hd] at hd2
        cases hd2
      · have en : n = n2 := Sum.inl.inj (hd.symm.trans hd2)
        subst en
        refine ⟨rfl, d, _, .int n, _, rfl, he, rfl, .base (.int n), kit_ty (by decide +kernel), fun p H4 s4 ep => ?_⟩
        refine ⟨_, rfl, by show 2 ≤ sizeLine; decide, fun p2 np2 => ?_⟩
        have s5 := same_upd (o := HO.tup [V.str (PySem.Str.ofString "code"), V.int (n : Int)]) np2
        refine ⟨.tuple [.str (PySem.Str.ofString "code"), .int (n : Int)], .tuple [.str (PySem.Str.ofString "code"), .int (n : Int)], .tup (SqT.of (s5 _ _ ep)) (.cons (.str _) (.cons (.int _) .nil)), .tup (SqT.of upd_same) (.cons (.str _) (.cons (.int _) .nil)), shaped_codeI _, shaped_codeI _, ?_⟩
        have e1 : PyData.eqv (.tuple [.str (PySem.Str.ofString "code"), .int (n : Int)]) (.tuple [.str (PySem.Str.ofString "code"), .int (n : Int)]) = true := SeqAt.eqv_refl_plain _ rfl
        rw [e1]
        have sF := (s3.trans s4).trans s5
        exact q _ (((ext_same s1).trans x2).trans (ext_same sF)) (T2.ext sF)
end
end K10
set_option Elab.async false
set_option linter.all false
set_option maxRecDepth 100000
set_option maxHeartbeats 4000000
/-! _law_pool, _law_take. -/
namespace K10
open PySem PySem.Spec PyProof.Rows L2
def poolV (A B c : Int) : List V := [.int A, .int B, .int c]
theorem bit_ok (b : Bool) : -(2 ^ 64) < (if b = true then (1 : Int) else 0) ∧ (if b = true then (1 : Int) else 0) < 2 ^ 64 := by cases b <;> decide
section
variable {P : Program} {w : World} {K : PySem.W.Frag} {mg : Str → Option Value} {base : Heap}
theorem sc_pool : FnScope ["_law_script", "_law_at", "_law_cell", "_law_far"] ["_law_script", "_law_at"] (defScope s__law_pool) := ⟨rfl, rfl, rfl, by decide +kernel, rfl, by decide +kernel, by decide +kernel⟩
def spPool (K : PySem.W.Frag) : Sp := fun vs H Q E => ∃ (a : Addr) (ns : List Int) (k : Nat), vs = [.ref a, .int (k : Int)] ∧ SqL K H a (ns.map V.int) ∧ k ≤ 1000 ∧ ∀ (p : Addr) (H' : Hp) (x y : Int), Same H H' → H p = none → H' p = some (.lst (poolV x y 0)) → 0 ≤ y → y ≤ 2 ^ 50 → Q (.ref p) H'
theorem ok_pool (T : Txt K mg) : Def P w K mg base CX0 1 (He.ga K "_law_pool") ["_law_script", "_law_at"] (spPool K) := by
  obtain ⟨fd, F, b⟩ := T.f__law_pool
  refine ⟨fd, b, F.ok sc_pool (fun vs H Q E h => ?_) (fun cdv A outer s H vs Q E hr h => ?_)⟩
  · obtain ⟨a, n, m, rfl, _⟩ := h
    rfl
  · obtain ⟨a, ns, k, rfl, hS, hk, q⟩ := h
    refine ⟨_, PSs.nox (pss_cons (ps_set (i := 2) sc_pool.nd rfl (.inl rfl) pe_int)
      (pss_cons (ps_if (pt_cmpR op_lt (pv 1) (pe_callB call_len (by rfl) T.z_len (by decide +kernel) (pa_cons (pv 0) pa_nil)) (nomark _)) (pss_one (ps_set (i := 2) sc_pool.nd rfl (.inl rfl) (pe_ix ix_list (pv 0) (pv 1) (fun _ _ => rfl)))) pss_nil)
      (pss_cons (ps_set (i := 3) sc_pool.nd rfl (.inl rfl) (pe_callB call_abs (by rfl) T.z_abs (by decide +kernel) (pa_cons (pv 2) pa_nil)))
      (pss_one (ps_ret (pe_lst (pa_cons (pe_op op_mul (pv 3) (pe_callTy call_int1 (by rfl) T.z_int (by decide +kernel) (pa_cons (pe_cmpR op_ge (pv 3) (pe_op op_pow pe_int pe_int) (nomark _)) pa_nil)))
        (pa_cons (pe_op op_add (pe_op op_add (pe_op op_mul (pe_op op_mod (pv 2) pe_int) pe_int) (pe_op op_mul pe_int (pv 1))) pe_int) (pa_cons pe_int pa_nil))))))))), ?_⟩
    -- whatever the cell is
    have rest : ∀ c : Int, (tSeq (tAsg (tCB (fun xs H Q => ∃ i, xs = [V.int i] ∧ Q (V.int (if i < 0 then -i else i)) H) (tCons (tVar 2) tNil)) (gName 3)) (tRet (tLst (tCons (tOp (rI CMul fun i j => V.int (i * j)) (tVar 3) (tCB (fun xs H Q => (∃ i, xs = [V.int i] ∧ Q (V.int i) H) ∨ ∃ k, xs = [V.bl k] ∧ Q (V.int (if k = true then 1 else 0)) H) (tCons (tOp (rI0 fun i j => V.bl (decide (j ≤ i))) (tVar 3) (tOp (rI CPow fun i j => V.int (i ^ j.toNat)) (tC (V.int 10)) (tC (V.int 18)))) tNil))) (tCons (tOp (rI0 fun i j => V.int (i + j)) (tOp (rI0 fun i j => V.int (i + j)) (tOp (rI CMul fun i j => V.int (i * j)) (tOp (rI (fun _ j => 0 < j) fun i j => V.int (i % j)) (tVar 2) (tC (V.int 2147483647))) (tC (V.int 48271))) (tOp (rI CMul fun i j => V.int (i * j)) (tC (V.int 7919)) (tVar 1))) (tC (V.int 31))) (tCons (tC (V.int 0)) tNil))))))
        { nx := fun _ H' => Q .non H', rt := Q } [some (.ref a), some (.int (k : Int)), some (.int c), none] H := by
      intro c
      refine ⟨_, rfl, c, rfl, ?_⟩
      refine ⟨_, rfl, _, rfl, 10, 18, rfl, rfl, ⟨by decide, by decide, by decide⟩, ?_⟩
      refine ⟨_, _, rfl, rfl, .inr ⟨_, rfl, ?_⟩⟩
      refine ⟨_, _, rfl, rfl, .inr (bit_ok _), ?_⟩
      refine ⟨_, rfl, c, 2147483647, rfl, rfl, (by show (0 : Int) < 2147483647; decide), _, _, rfl, rfl, .inr ⟨by decide, by decide⟩, ?_⟩
      refine ⟨_, rfl, 7919, _, rfl, rfl, .inl ⟨by decide, by decide⟩, _, _, rfl, rfl, _, _, rfl, rfl, by show 3 ≤ sizeLine; decide, fun p np => ?_⟩
      have h1 := Int.emod_nonneg c (show (2147483647 : Int) ≠ 0 by decide)
      have h2 := Int.emod_lt_of_pos c (show (0 : Int) < 2147483647 by decide)
      exact q p _ _ _ (same_upd np) np upd_same (by omega) (by omega)
    refine ⟨_, rfl, .ref a, rfl, _, _, rfl, .inl ⟨_, hS, rfl⟩, _, _, rfl, rfl, _, rfl, ite2 (fun hc => ?_) (fun hc => rest 0)⟩
    have hlt : (k : Int) < ((ns.map V.int).length : Int) := of_decide_eq_true hc
    rw [List.length_map] at hlt
    have hlt : k < ns.length := by omega
    refine ⟨_, rfl, _, rfl, a, _, (k : Int), V.int ns[k], rfl, rfl, hS, atI_nat (by rw [List.getElem?_map, List.getElem?_eq_getElem hlt]; rfl), rest _⟩
/-! ### _law_take -/
theorem sc_take : FnScope ["_law_pool_here", "_law_many", "_law_digit", "_law_turn", "_law_one", "_law_other"] ["_law_pool_here", "_law_many"] (defScope s__law_take) := ⟨rfl, rfl, rfl, by decide +kernel, rfl, by decide +kernel, by decide +kernel⟩
def spTake : Sp := fun vs H Q E => ∃ (a : Addr) (m x y c : Int), vs = [.ref a, .int m] ∧ H a = some (.lst (poolV x y c)) ∧ 0 ≤ y ∧ y ≤ 2 ^ 50 ∧ 0 ≤ c ∧ c ≤ 100000 ∧ 0 < m ∧ m < 1073741824 ∧
  ∀ (d x' c' : Int) (H' : Hp), 0 ≤ d → d < m → c ≤ c' → c' ≤ c + 1 → SameB a H H' → H' a = some (.lst (poolV x' y c')) → Q (.int d) H'
theorem ok_take (T : Txt K mg) : Def P w K mg base CX0 1 (He.ga K "_law_take") ["_law_pool_here", "_law_many"] spTake := by
  obtain ⟨fd, F, b⟩ := T.f__law_take
  refine ⟨fd, b, F.ok sc_take (fun vs H Q E h => ?_) (fun cdv A outer s H vs Q E hr h => ?_)⟩
  · obtain ⟨a, n, m, c, d, rfl, _⟩ := h
    rfl
  · obtain ⟨a, m, x, y, c, rfl, ha, hy1, hy2, hc1, hc2, hm1, hm2, q⟩ := h
    refine ⟨_, PSs.nox (pss_cons (ps_if (pt_cmpR op_gt (pe_ix ix_list (pv 0) pe_int (fun _ _ => rfl)) pe_int (nomark _))
        (pss_cons (ps_set (i := 2) sc_take.nd rfl (.inl rfl) (pe_op op_mod (pe_ix ix_list (pv 0) pe_int (fun _ _ => rfl)) (pv 1)))
        (pss_cons (ps_asg (pe_op op_fdiv (pe_ix ix_list (pv 0) pe_int (fun _ _ => rfl)) (pv 1)) (pg_sub (pv 0) pe_int set_list))
        (pss_one (ps_ret (pv 2))))) pss_nil)
      (pss_cons (ps_asg (pe_op op_add (pe_ix ix_list (pv 0) pe_int (fun _ _ => rfl)) pe_int) (pg_sub (pv 0) pe_int set_list))
      (pss_cons (ps_set (i := 3) sc_take.nd rfl (.inl rfl) (pe_ix ix_list (pv 0) pe_int (fun _ _ => rfl)))
      (pss_cons (ps_set (i := 4) sc_take.nd rfl (.inl rfl) (pe_op op_mod (pe_op op_pow (pe_op op_add (pe_op op_add (pe_ix ix_list (pv 0) pe_int (fun _ _ => rfl)) (pe_op op_mul (pe_op op_mul pe_int (pv 3)) (pv 3))) pe_int) pe_int) pe_int))
      (pss_cons (ps_set (i := 5) sc_take.nd rfl (.inl rfl) (pe_op op_mod (pe_op op_add (pe_op op_pow (pv 4) pe_int) (pe_op op_mul pe_int (pv 3))) pe_int))
      (pss_one (ps_ret (pe_op op_mod (pe_op op_fdiv (pe_op op_add (pe_op op_mul (pv 4) pe_int) (pe_op op_mul (pv 5) (pv 5))) pe_int) (pv 1))))))))), ?_⟩
    refine ⟨_, rfl, a, _, 0, .int x, rfl, rfl, SqL.of ha, rfl, _, _, rfl, rfl, _, rfl, ite2 (fun hc => ?_) (fun hc => ?_)⟩
    · refine ⟨_, rfl, a, _, 0, .int x, rfl, rfl, SqL.of ha, rfl, _, rfl, x, m, rfl, rfl, hm1, ?_⟩
      refine ⟨_, rfl, a, _, 0, .int x, rfl, rfl, SqL.of ha, rfl, _, rfl, x, m, rfl, rfl, ⟨hm1, hm2⟩, ?_⟩
      refine ⟨_, rfl, a, _, 0, 0, rfl, rfl, ha, rfl, _, rfl, ?_⟩
      exact q _ (x / m) c _ (Int.emod_nonneg x (by omega)) (Int.emod_lt_of_pos x hm1) (Int.le_refl _) (by omega) SameB.put upd_same
    · refine ⟨_, rfl, a, _, 2, .int c, rfl, rfl, SqL.of ha, rfl, _, _, rfl, rfl, ?_⟩
      refine ⟨_, rfl, a, _, 2, 2, rfl, rfl, ha, rfl, ?_⟩
      have e1 : upd H a (.lst (poolV x y (c + 1))) a = some (.lst (poolV x y (c + 1))) := upd_same
      have s1 : SameB a H (upd H a (.lst (poolV x y (c + 1)))) := SameB.put
      refine ⟨_, rfl, a, _, 2, .int (c + 1), rfl, rfl, SqL.of e1, rfl, ?_⟩
      have ht : 69621 * (c + 1) * (c + 1) ≤ 69621 * 100001 * 100001 := by
        have h1 : 69621 * (c + 1) ≤ 69621 * 100001 := by omega
        exact Int.mul_le_mul h1 (by omega) (by omega) (by decide)
      have ht0 : 0 ≤ 69621 * (c + 1) * (c + 1) := Int.mul_nonneg (by omega) (by omega)
      refine ⟨_, rfl, a, _, 1, .int y, rfl, rfl, SqL.of e1, rfl, _, rfl, 69621, c + 1, rfl, rfl, .inl ⟨by decide, by decide⟩, _, rfl, 69621 * (c + 1), c + 1, rfl, rfl, .inr ⟨by omega, by omega⟩, y, 69621 * (c + 1) * (c + 1), rfl, rfl, _, 3, rfl, rfl,
        y + 69621 * (c + 1) * (c + 1) + 3, 3, rfl, rfl, ⟨by decide, by decide, by omega⟩, _, 2147483629, rfl, rfl, (by show (0 : Int) < 2147483629; decide), ?_⟩
      have o1 := Int.emod_nonneg ((y + 69621 * (c + 1) * (c + 1) + 3) ^ (Int.toNat 3)) (show (2147483629 : Int) ≠ 0 by decide)
      have o2 := Int.emod_lt_of_pos ((y + 69621 * (c + 1) * (c + 1) + 3) ^ (Int.toNat 3)) (show (0 : Int) < 2147483629 by decide)
      refine ⟨_, rfl, (y + 69621 * (c + 1) * (c + 1) + 3) ^ (Int.toNat 3) % 2147483629, 3, rfl, rfl, ⟨by decide, by decide, by omega⟩, _, rfl, 30011, c + 1, rfl, rfl, .inl ⟨by decide, by decide⟩, _, _, rfl, rfl, _, 998244353, rfl, rfl, (by show (0 : Int) < 998244353; decide), ?_⟩
      have p1 := Int.emod_nonneg (((y + 69621 * (c + 1) * (c + 1) + 3) ^ (Int.toNat 3) % 2147483629) ^ (Int.toNat 3) + 30011 * (c + 1)) (show (998244353 : Int) ≠ 0 by decide)
      have p2 := Int.emod_lt_of_pos (((y + 69621 * (c + 1) * (c + 1) + 3) ^ (Int.toNat 3) % 2147483629) ^ (Int.toNat 3) + 30011 * (c + 1)) (show (0 : Int) < 998244353 by decide)
      refine ⟨_, rfl, ((y + 69621 * (c + 1) * (c + 1) + 3) ^ (Int.toNat 3) % 2147483629), 998244353, rfl, rfl, .inr ⟨by decide, by decide⟩, _, rfl, _, rfl, _, _, rfl, rfl, .inl ⟨by omega, by omega⟩, _, _, rfl, rfl, _, 1013, rfl, rfl, ⟨by decide, by decide⟩, _, rfl, _, m, rfl, rfl, hm1, ?_⟩
      exact q _ x (c + 1) _ (Int.emod_nonneg _ (by omega)) (Int.emod_lt_of_pos _ hm1) (by omega) (Int.le_refl _) s1 e1
end
end K10
set_option Elab.async false
set_option linter.all false
set_option maxRecDepth 100000
set_option maxHeartbeats 4000000
/-! _law_entries. -/
namespace K10
open PySem PySem.Spec PyProof.Rows L2
def SmE (e : Int × List Int) : Prop := e.2.length ≤ 4 ∧ 1 ≤ e.2.length ∧ ∀ z ∈ gp (-1) e.2, 0 ≤ z ∧ z ≤ 255
structure Sm (es : List (Int × List Int)) : Prop where
  len : es.length ≤ 7
  gaps : ∀ z ∈ gp (-1) (List.map (fun e : Int × List Int => e.1) es), 0 ≤ z ∧ z ≤ 255
  each : ∀ e ∈ es, SmE e
theorem at_small {l : List Int} {d : Int} (h0 : 0 ≤ d) (h1 : d < (l.length : Int)) : ∃ z, z ∈ l ∧ atI (l.map V.int) d = some (.int z) := by
  obtain ⟨n, rfl⟩ := Int.eq_ofNat_of_zero_le h0
  have hl : n < l.length := by omega
  refine ⟨l[n], List.getElem_mem hl, atI_nat ?_⟩
  rw [List.getElem?_map, List.getElem?_eq_getElem hl]
  rfl
theorem gaps_snoc {d : Int} {l : List Int} {g : Int} (h : ∀ z ∈ gp d l, 0 ≤ z ∧ z ≤ 255) (hg : 0 ≤ g ∧ g ≤ 255) : ∀ z ∈ gp d (l ++ [lastD d l + 1 + g]), 0 ≤ z ∧ z ≤ 255 := by
  intro z hz
  rw [gp_snoc] at hz
  rcases List.mem_append.mp hz with hz | hz
  · exact h z hz
  · rw [List.mem_singleton.mp hz]
    omega
section
variable {P : Program} {w : World} {K : PySem.W.Frag} {mg : Str → Option Value} {base : Heap}
theorem sc_ents : FnScope ["_law_pool_here", "_law_many", "_law_most", "_law_told", "_law_slot", "_law_k", "_law_spots", "_law_last", "_law_j"] ["_law_pool_here", "_law_many", "_law_most"] (defScope s__law_entries) := ⟨rfl, rfl, rfl, by decide +kernel, rfl, by decide +kernel, by decide +kernel⟩
def spEnts : Sp := fun vs H Q E => ∃ (a : Addr) (x y c : Int), vs = [.ref a, .int 7, .int 4] ∧ H a = some (.lst (poolV x y c)) ∧ 0 ≤ y ∧ y ≤ 2 ^ 50 ∧ 0 ≤ c ∧ c ≤ 1000 ∧
  ∀ (es : List (Int × List Int)) (p : Addr) (ps : List Addr) (x' c' : Int) (H' : Hp), Sm es → 0 ≤ c' → c' ≤ c + 200 → SameB a H H' → H' a = some (.lst (poolV x' y c')) → H p = none → H' p = some (.lst (ps.map V.ref)) → EntsAt H' ps es → Q (.ref p) H'
theorem ok_ents (T : Txt K mg) : Def P w K mg base CX0 2 (He.ga K "_law_entries") ["_law_pool_here", "_law_many", "_law_most"] spEnts := by
  obtain ⟨fd, F, b⟩ := T.f__law_entries
  refine ⟨fd, b, F.ok sc_ents (fun vs H Q E h => ?_) (fun cdv A outer s H vs Q E hr h => ?_)⟩
  · obtain ⟨a, x, y, c, rfl, _⟩ := h
    rfl
  · obtain ⟨a, x, y, c, rfl, ha, hy1, hy2, hc1, hc2, q⟩ := h
    refine ⟨_, PSs.nox (pss_cons (ps_set (i := 3) sc_ents.nd rfl (.inl rfl) (pe_lst pa_nil))
      (pss_cons (ps_set (i := 4) sc_ents.nd rfl (.inl rfl) (pe_un un_neg pe_int))
      (pss_cons (ps_for PassesOwn.never rfl (pi_range1 (by rfl) T.z_range (pa_cons (pe_callD (ok_take T) hr (by rfl) T.g__law_take T.k__law_take pass0 (pa_cons (pv 0) (pa_cons (pe_op op_add (pv 1) pe_int) pa_nil))) pa_nil)) (pg_name (i := 5) sc_ents.nd rfl (.inl rfl))
        (pss_cons (ps_set (i := 4) sc_ents.nd rfl (.inl rfl) (pe_op op_add (pe_op op_add (pv 4) pe_int) (pe_ix ix_list (pe_lst (pa_cons pe_int (pa_cons pe_int (pa_cons pe_int (pa_cons (pe_callD (ok_take T) hr (by rfl) T.g__law_take T.k__law_take pass0 (pa_cons (pv 0) (pa_cons pe_int pa_nil))) pa_nil)))))
            (pe_callD (ok_take T) hr (by rfl) T.g__law_take T.k__law_take pass0 (pa_cons (pv 0) (pa_cons pe_int pa_nil))) (fun _ _ => rfl))))
        (pss_cons (ps_set (i := 6) sc_ents.nd rfl (.inl rfl) (pe_lst pa_nil))
        (pss_cons (ps_set (i := 7) sc_ents.nd rfl (.inl rfl) (pe_un un_neg pe_int))
        (pss_cons (ps_for PassesOwn.never rfl (pi_range1 (by rfl) T.z_range (pa_cons (pe_op op_add pe_int (pe_callD (ok_take T) hr (by rfl) T.g__law_take T.k__law_take pass0 (pa_cons (pv 0) (pa_cons (pv 2) pa_nil)))) pa_nil)) (pg_name (i := 8) sc_ents.nd rfl (.inl rfl))
          (pss_cons (ps_set (i := 7) sc_ents.nd rfl (.inl rfl) (pe_op op_add (pe_op op_add (pv 7) pe_int) (pe_ix ix_list (pe_lst (pa_cons pe_int (pa_cons pe_int (pa_cons (pe_callD (ok_take T) hr (by rfl) T.g__law_take T.k__law_take pass0 (pa_cons (pv 0) (pa_cons pe_int pa_nil))) (pa_cons (pe_op op_add pe_int (pe_callD (ok_take T) hr (by rfl) T.g__law_take T.k__law_take pass0 (pa_cons (pv 0) (pa_cons pe_int pa_nil)))) pa_nil)))))
              (pe_callD (ok_take T) hr (by rfl) T.g__law_take T.k__law_take pass0 (pa_cons (pv 0) (pa_cons pe_int pa_nil))) (fun _ _ => rfl))))
          (pss_one (ps_expr (pe_bm PySem.F.plainAttrs_list PySem.F.slot_list_append PySem.F.type_list_append mt_append (pv 6) (pa_cons (pv 7) pa_nil))))))
        (pss_one (ps_expr (pe_bm PySem.F.plainAttrs_list PySem.F.slot_list_append PySem.F.type_list_append mt_append (pv 3) (pa_cons (pe_tup (pa_cons (pv 4) (pa_cons (pe_callTy (T := "tuple") (r := rTupOf K) call_tuple_of (by rfl) T.z_tuple (by decide +kernel) (pa_cons (pv 6) pa_nil)) pa_nil))) pa_nil)))))))))
      (pss_one (ps_ret (pv 3)))))), ?_⟩
    refine ⟨Nat.zero_le _, fun o no => ⟨1, rfl, ?_⟩⟩
    have oa : a ≠ o := ne_of_none ha no
    have ha0 : upd H o (.lst []) a = some (.lst (poolV x y c)) := same_upd no _ _ ha
    refine ⟨_, rfl, _, rfl, 7, 1, rfl, rfl, a, 8, x, y, c, rfl, ha0, hy1, hy2, hc1, by omega, by decide, by decide, fun n x1 c1 H1 n0 n1 k0 k1 sb1 ea1 => ?_⟩
    refine ⟨n, rfl, by omega, by omega, ?_⟩
    have sF : ∀ {H2 : Hp}, SameB a (upd H o (.lst [])) H2 → SameB a H H2 := fun s b u hb e => s b u hb (same_upd no b u e)
    have eo1 : H1 o = some (.lst []) := sb1 o _ (Ne.symm oa) upd_same
    refine for_range (n := n.toNat) (fun i σ H2 => ∃ (x2 c2 : Int) (es : List (Int × List Int)) (ps : List Addr) (v1 v2 v3 v4 : Option V), σ = [some (.ref a), some (.int 7), some (.int 4), some (.ref o), some (.int (lastD (-1) (List.map (fun e : Int × List Int => e.1) es))), v1, v2, v3, v4] ∧ H2 a = some (.lst (poolV x2 y c2)) ∧ 0 ≤ c2 ∧ c2 ≤ c + 1 + 15 * (i : Int) ∧
        SameB a H H2 ∧ H2 o = some (.lst (ps.map V.ref)) ∧ EntsAt H2 ps es ∧ es.length = i ∧ (∀ z ∈ gp (-1) (List.map (fun e : Int × List Int => e.1) es), 0 ≤ z ∧ z ≤ 255) ∧ ∀ e ∈ es, SmE e)
      ⟨x1, c1, [], [], none, none, none, none, rfl, ea1, by omega, by omega, sF sb1, eo1, EntsAt.nil _, rfl, (fun z hz => by cases hz), (fun e he => by cases he)⟩ (fun i σ H2 hi hp => ?_) (fun σ H2 hp => ?_)
    · obtain ⟨x2, c2, es, ps, v1, v2, v3, v4, rfl, ea2, hc20, hc21, sb2, eo2, hE2, hlen, hgap, heach⟩ := hp
      have hi7 : i < 7 := by omega
      have hz0 : (0 : Int) + (i : Int) = (i : Int) := Int.zero_add _
      refine ⟨_, rfl, _, _, rfl, rfl, _, rfl, a, 4, x2, y, c2, rfl, ea2, hy1, hy2, hc20, by omega, by decide, by decide, fun d x3 c3 H3 d0 d1 k2 k3 sb3 ea3 => ?_⟩
      refine ⟨by show 4 ≤ sizeLine; decide, fun o4 n4 => ?_⟩
      have a4 : a ≠ o4 := ne_of_none ea3 n4
      refine ⟨_, rfl, a, 4, x3, y, c3, rfl, same_upd n4 _ _ ea3, hy1, hy2, by omega, by omega, by decide, by decide, fun e x5 c5 H5 e0 e1 k4 k5 sb5 ea5 => ?_⟩
      have eo4 : H5 o4 = some (.lst ([0, 0, 1, d].map V.int)) := sb5 o4 _ (Ne.symm a4) upd_same
      obtain ⟨z, hz, haz⟩ := at_small (l := [0, 0, 1, d]) e0 (by show e < 4; exact e1)
      have hz4 : 0 ≤ z ∧ z ≤ 255 := by
        simp only [List.mem_cons, List.not_mem_nil, or_false] at hz
        omega
      refine ⟨o4, _, e, .int z, rfl, rfl, SqL.of eo4, haz, _, _, rfl, rfl, ?_⟩
      have sb25 : SameB a H2 H5 := sb3.trans ((SameB.same (same_upd n4)).trans sb5)
      refine ⟨Nat.zero_le _, fun b nb => ⟨1, rfl, ?_⟩⟩
      have ab : a ≠ b := ne_of_none ea5 nb
      refine ⟨_, rfl, _, rfl, a, 4, x5, y, c5, rfl, same_upd nb _ _ ea5, hy1, hy2, by omega, by omega, by decide, by decide, fun m x7 c7 H7 m0 m1 k6 k7 sb7 ea7 => ?_⟩
      refine ⟨_, _, rfl, rfl, 1 + m, rfl, by omega, by omega, ?_⟩
      have sb57 : SameB a H5 H7 := (SameB.same (same_upd nb)).trans sb7
      have eb7 : H7 b = some (.lst []) := sb7 b _ (Ne.symm ab) upd_same
      refine for_range (n := (1 + m).toNat) (fun i' σ H8 => ∃ (x8 c8 : Int) (l : List Int) (u : Option V), σ = [some (.ref a), some (.int 7), some (.int 4), some (.ref o), some (.int (lastD (-1) (List.map (fun e : Int × List Int => e.1) es) + 1 + z)), some (.int (0 + (i : Int))), some (.ref b), some (.int (lastD (-1) l)), u] ∧ H8 a = some (.lst (poolV x8 y c8)) ∧ 0 ≤ c8 ∧ c8 ≤ c7 + 3 * (i' : Int) ∧
          SameB a H5 H8 ∧ H8 b = some (.lst (l.map V.int)) ∧ l.length = i' ∧ ∀ z ∈ gp (-1) l, 0 ≤ z ∧ z ≤ 255)
        ⟨x7, c7, [], v4, rfl, ea7, by omega, by omega, sb57, eb7, rfl, (fun z hz => by cases hz)⟩ (fun i' σ H8 hi' hp => ?_) (fun σ H8 hp => ?_)
      · obtain ⟨x8, c8, l, u, rfl, ea8, hc80, hc81, sb8, eb8, hl8, hg8⟩ := hp
        have hi4 : i' < 4 := by omega
        refine ⟨_, rfl, _, _, rfl, rfl, _, rfl, a, 3, x8, y, c8, rfl, ea8, hy1, hy2, hc80, by omega, by decide, by decide, fun f xa ca HA f0 f1 ka0 ka1 sbA eaA => ?_⟩
        refine ⟨_, rfl, a, 4, xa, y, ca, rfl, eaA, hy1, hy2, by omega, by omega, by decide, by decide, fun g xb cb HB g0 g1 kb0 kb1 sbB eaB => ?_⟩
        refine ⟨_, _, rfl, rfl, by show 4 ≤ sizeLine; decide, fun oc nc' => ?_⟩
        have ac : a ≠ oc := ne_of_none eaB nc'
        refine ⟨_, rfl, a, 4, xb, y, cb, rfl, same_upd nc' _ _ eaB, hy1, hy2, by omega, by omega, by decide, by decide, fun t xd cd' HD t0 t1 kd0 kd1 sbD eaD => ?_⟩
        have eoc : HD oc = some (.lst ([0, 0, f, 13 + g].map V.int)) := sbD oc _ (Ne.symm ac) upd_same
        obtain ⟨zz, hzz, hazz⟩ := at_small (l := [0, 0, f, 13 + g]) t0 (by show t < 4; exact t1)
        have hzz4 : 0 ≤ zz ∧ zz ≤ 255 := by
          simp only [List.mem_cons, List.not_mem_nil, or_false] at hzz
          omega
        refine ⟨oc, _, t, .int zz, rfl, rfl, SqL.of eoc, hazz, _, _, rfl, rfl, ?_⟩
        have sb8D : SameB a H8 HD := ((sbA.trans sbB).trans (SameB.same (same_upd nc'))).trans sbD
        have ebD := sb8D b _ (Ne.symm ab) eb8
        refine ⟨_, rfl, .inl ⟨rfl, _, SqL.of ebD⟩, _, rfl, b, _, _, rfl, rfl, ebD, ?_, ?_⟩
        · rw [List.length_map]
          exact small_line' (by omega)
        · have sb5D := sb8.trans sb8D
          refine ⟨xd, cd', l ++ [lastD (-1) l + 1 + zz], some (.int (0 + (i' : Int))), ?_, ?_, by omega, by omega, ?_, ?_, ?_, gaps_snoc hg8 hzz4⟩
          · rw [lastD_snoc]
            rfl
          · rw [upd_ne ab]
            exact eaD
          · intro h u hha eh
            rw [upd_ne (ne_of_none eh nb)]
            exact sb5D h u hha eh
          · rw [upd_same, List.map_append]
            rfl
          · rw [List.length_append, hl8]
            rfl
      · obtain ⟨x8, c8, l, u, rfl, ea8, hc80, hc81, sb8, eb8, hl8, hg8⟩ := hp
        have sb28 : SameB a H2 H8 := sb25.trans sb8
        have eo8 := sb28 o _ (Ne.symm oa) eo2
        refine ⟨_, rfl, .inl ⟨rfl, _, SqL.of eo8⟩, _, rfl, _, rfl, b, _, rfl, .inl ⟨SqL.of eb8, fun tt ntt => ?_⟩⟩
        refine ⟨by show 2 ≤ sizeLine; decide, fun pp npp => ?_⟩
        generalize hH8' : upd H8 tt (HO.tup (l.map V.int)) = H9 at npp
        have s8 : Same H8 H9 := by rw [← hH8']; exact same_upd ntt
        have et : H9 tt = some (.tup (l.map V.int)) := by rw [← hH8', upd_same]
        generalize hHA : upd H9 pp (HO.tup [V.int (lastD (-1) (List.map (fun e : Int × List Int => e.1) es) + 1 + z), V.ref tt]) = HA
        have s9 : Same H9 HA := by rw [← hHA]; exact same_upd npp
        have epp : HA pp = some (.tup [V.int (lastD (-1) (List.map (fun e : Int × List Int => e.1) es) + 1 + z), V.ref tt]) := by rw [← hHA, upd_same]
        have sb2A : SameB a H2 HA := sb28.trans (SameB.same (s8.trans s9))
        have eoA := sb2A o _ (Ne.symm oa) eo2
        have hEA : EntsAt HA (ps ++ [pp]) (es ++ [(lastD (-1) (List.map (fun e : Int × List Int => e.1) es) + 1 + z, l)]) := (hE2.tups (TupS.sameB sb2A ea2 (fun xs q => by cases q))).snoc ⟨tt, epp, s9 _ _ et⟩
        refine ⟨o, _, _, rfl, rfl, eoA, ?_, ?_⟩
        · rw [List.length_map, hE2.1]
          exact small_line' (by omega)
        · refine ⟨x8, c8, es ++ [(lastD (-1) (List.map (fun e : Int × List Int => e.1) es) + 1 + z, l)], ps ++ [pp], some (.int (0 + (i : Int))), some (.ref b), some (.int (lastD (-1) l)), u, ?_, ?_, by omega, by omega, ?_, ?_, ?_, ?_, ?_, ?_⟩
          rotate_left
          · rw [upd_ne oa]
            exact s9 _ _ (s8 _ _ ea8)
          · intro h u hha eh
            rw [upd_ne (ne_of_none eh no)]
            exact sb2A h u hha (sb2 h u hha eh)
          · rw [upd_same, List.map_append]
            rfl
          · exact hEA.tups (TupS.put eoA (fun xs q => by cases q))
          · rw [List.length_append, hlen]
            rfl
          · rw [List.map_append]
            exact gaps_snoc hgap hz4
          · intro e' he'
            rcases List.mem_append.mp he' with he' | he'
            · exact heach e' he'
            · rw [List.mem_singleton.mp he']
              exact ⟨by show l.length ≤ 4; omega, by show 1 ≤ l.length; omega, hg8⟩
          · rw [List.map_append]
            show _ = [some (V.ref a), some (V.int 7), some (V.int 4), some (V.ref o), some (V.int (lastD (-1) (List.map (fun e : Int × List Int => e.1) es ++ [lastD (-1) (List.map (fun e : Int × List Int => e.1) es) + 1 + z]))), some (.int (0 + (i : Int))), some (.ref b), some (.int (lastD (-1) l)), u]
            rw [lastD_snoc]
    · obtain ⟨x2, c2, es, ps, v1, v2, v3, v4, rfl, ea2, hc20, hc21, sb2, eo2, hE2, hlen, hgap, heach⟩ := hp
      exact ⟨_, rfl, q es o ps x2 c2 H2 ⟨by omega, hgap, heach⟩ hc20 (by omega) sb2 ea2 no eo2 hE2⟩
end
end K10
set_option Elab.async false
set_option linter.all false
set_option maxRecDepth 100000
set_option maxHeartbeats 4000000
/-! _law_coded. -/
namespace K10
open PySem PySem.Spec PyProof.Rows L2
theorem cd_two {z : Int} (h : 0 ≤ z ∧ z ≤ 255) : (cd z.toNat).length ≤ 2 := by
  by_cases h1 : z.toNat < 16
  · rw [cd_lt h1]
    show 1 ≤ 2
    decide
  · rw [cd_ge h1, cd_lt (by omega)]
    show 2 ≤ 2
    decide
theorem cds_two : ∀ l : List Int, (∀ z ∈ l, 0 ≤ z ∧ z ≤ 255) → (cds l).length ≤ 2 * l.length
  | [], _ => by decide
  | z :: r, h => by
    have h1 := cd_two (h z List.mem_cons_self)
    have h2 := cds_two r fun y hy => h y (List.mem_cons_of_mem _ hy)
    show (cd z.toNat ++ cds r).length ≤ 2 * (r.length + 1)
    rw [List.length_append]
    omega
theorem pls_small : ∀ l : List (Int × List Int), (∀ e ∈ l, SmE e) → (pls l).length ≤ 5 * l.length ∧ ∀ z ∈ pls l, 0 ≤ z ∧ z ≤ 255
  | [], _ => ⟨by decide, fun z hz => by cases hz⟩
  | e :: r, h => by
    obtain ⟨h1, h2⟩ := pls_small r fun y hy => h y (List.mem_cons_of_mem _ hy)
    obtain ⟨e1, e2, e3⟩ := h e List.mem_cons_self
    have hp : (pl e).length = 1 + e.2.length := by
      unfold pl
      rw [List.length_append, gp_len]
      rfl
    refine ⟨?_, fun z hz => ?_⟩
    · show (pl e ++ pls r).length ≤ 5 * (r.length + 1)
      rw [List.length_append, hp]
      omega
    · rcases List.mem_append.mp (show z ∈ pl e ++ pls r from hz) with hz | hz
      · rcases List.mem_append.mp (show z ∈ [(e.2.length : Int) - 1] ++ gp (-1) e.2 from hz) with hz | hz
        · rw [List.mem_singleton.mp hz]
          omega
        · exact e3 z hz
      · exact h2 z hz
theorem Sm.nums {es : List (Int × List Int)} (h : Sm es) : (nums es).length ≤ 43 ∧ ∀ z ∈ nums es, 0 ≤ z ∧ z ≤ 255 := by
  obtain ⟨h1, h2⟩ := pls_small es h.each
  have h3 := h.len
  refine ⟨?_, fun z hz => ?_⟩
  · unfold K10.nums
    rw [List.length_append, List.length_append, gp_len, List.length_map]
    show 1 + es.length + (pls es).length ≤ 43
    omega
  · rcases List.mem_append.mp (show z ∈ ([(es.length : Int)] ++ gp (-1) (es.map (·.1))) ++ pls es from hz) with hz | hz
    · rcases List.mem_append.mp hz with hz | hz
      · rw [List.mem_singleton.mp hz]
        omega
      · exact h.gaps z hz
    · exact h2 z hz
section
variable {P : Program} {w : World} {K : PySem.W.Frag} {mg : Str → Option Value} {base : Heap}
theorem sc_coded : FnScope ["_law_entries_here", "_law_slot", "_law_spots", "_law_numbers", "_law_number"] ["_law_entries_here"] (defScope s__law_coded) := ⟨rfl, rfl, rfl, by decide +kernel, rfl, by decide +kernel, by decide +kernel⟩
def spCoded : Sp := fun vs H Q _ => ∃ (a : Addr) (ps : List Addr) (es : List (Int × List Int)), vs = [.ref a] ∧ H a = some (.lst (ps.map V.ref)) ∧ EntsAt H ps es ∧ Sm es ∧ ∀ (cs : List Nat) (H' : Hp), cs.length ≤ 86 → Same H H' → Q (.str (S cs)) H'
theorem ok_coded (T : Txt K mg) : Def P w K mg base CX0 2 (He.ga K "_law_coded") ["_law_entries_here"] spCoded := by
  obtain ⟨fd, F, b⟩ := T.f__law_coded
  refine ⟨fd, b, F.ok sc_coded (fun vs H Q E h => ?_) (fun cdv A outer s H vs Q E hr h => ?_)⟩
  · obtain ⟨a, n, m, rfl, _⟩ := h
    rfl
  · obtain ⟨a, ps, es, rfl, hS, hE, hG, q⟩ := h
    have hlen := hG.len
    obtain ⟨hnl, hnb⟩ := hG.nums
    have hcs := cds_two _ hnb
    refine ⟨_, PSs.nox (pss_cons (ps_set (i := 3) sc_coded.nd rfl (.inl rfl) (pe_op op_cat (pe_lst (pa_cons (pe_callB call_len (by rfl) T.z_len (by decide +kernel) (pa_cons (pv 0) pa_nil)) pa_nil))
        (pe_callD (ok_lgaps T) hr (by rfl) T.g__law_gaps T.k__law_gaps pass0 (pa_cons
          (pe_lc (own := [("_law_slot", 1), ("_law_spots", 2)]) (g := gTup K 2 (gCons (gName 1) (gCons (gName 2) gNil))) (tt := tYes) (by rfl) sc_coded.nd (pi_list (pv 0)) (blkOk_by (own := [("_law_slot", 1), ("_law_spots", 2)]) (N := ["_law_entries_here", "_law_slot", "_law_spots", "_law_numbers", "_law_number"]) (sc := defScope s__law_coded) (by decide +kernel))
            (fun _ _ _ _ _ => pg_tup rfl (pgs_cons (pg_name (i := 1) sc_coded.nd rfl (Or.inl rfl)) (pgs_cons (pg_name (i := 2) sc_coded.nd rfl (Or.inl rfl)) pgs_nil))) (fun _ _ _ _ _ => pts_nil) (fun _ _ _ _ _ => pv 1)) pa_nil))))
      (pss_cons (ps_for PassesOwn.never rfl (pi_list (pv 0)) (pg_tup rfl (pgs_cons (pg_name (i := 1) sc_coded.nd rfl (Or.inl rfl)) (pgs_cons (pg_name (i := 2) sc_coded.nd rfl (Or.inl rfl)) pgs_nil)))
        (pss_one (ps_set (i := 3) sc_coded.nd rfl (.inl rfl) (pe_op op_cat (pe_op op_cat (pv 3) (pe_lst (pa_cons (pe_op op_sub (pe_callB call_len (by rfl) T.z_len (by decide +kernel) (pa_cons (pv 2) pa_nil)) pe_int) pa_nil)))
          (pe_callD (ok_lgaps T) hr (by rfl) T.g__law_gaps T.k__law_gaps pass0 (pa_cons (pv 2) pa_nil))))))
      (pss_one (ps_ret (pe_join pe_str (pe_lc (own := [("_law_number", 4)]) (g := gName 4) (tt := tYes) (by rfl) sc_coded.nd (pi_list (pv 3)) (blkOk_by (own := [("_law_number", 4)]) (N := ["_law_entries_here", "_law_slot", "_law_spots", "_law_numbers", "_law_number"]) (sc := defScope s__law_coded) (by decide +kernel))
      (fun _ _ _ _ _ => pg_name (i := 4) sc_coded.nd rfl (Or.inl rfl)) (fun _ _ _ _ _ => pts_nil) (fun _ _ _ _ _ => pe_callD (ok_lcode T) hr (by rfl) T.g__law_code T.k__law_code pass0 (pa_cons (pv 4) pa_nil)))))))), ?_⟩
    -- [len(entries)]
    refine ⟨_, rfl, _, _, rfl, .inl ⟨_, SqL.of hS, rfl⟩, (by show 1 ≤ sizeLine; decide), fun o no => ?_⟩
    have s2 := (same_upd (o := HO.lst [V.int ((ps.map V.ref).length : Nat)]) no)
    -- the slots
    refine ⟨_, rfl, a, rfl, ⟨_, SqL.of (s2 _ _ hS)⟩, fun D nD => ?_⟩
    refine lc_list (K := K) (a := a) (xs := ps.map V.ref) (fun i H2 => Same (upd H o (.lst [V.int ((ps.map V.ref).length : Nat)])) H2 ∧ H2 D = some (.lst (((es.take i).map (·.1)).map V.int)) ∧ i ≤ ps.length) ⟨same_upd nD, upd_same, Nat.zero_le _⟩
      (fun i H2 _ hp => SqL.of ((s2.trans hp.1) _ _ hS)) (fun i x H2 hi hp => ?_) (fun H2 hp => ?_)
    · obtain ⟨p, hp', rfl⟩ := map_at hi
      obtain ⟨sm, eD, hle⟩ := hp
      obtain ⟨e, he, hea⟩ := hE.get hp'
      have hil : i < ps.length := (List.getElem?_eq_some_iff.mp hp').1
      obtain ⟨t, t1, t2⟩ := hea.same (s2.trans sm)
      refine ⟨p, _, rfl, SqT.of t1, rfl, _, _, rfl, _, _, rfl, rfl, rfl, ?_⟩
      refine ⟨_, rfl, _, eD, ?_, ?_, ?_, hil⟩
      · rw [List.length_map, List.length_map, List.length_take]
        exact small_line' (by have := hE.1; omega)
      · intro b u e
        rw [upd_ne (ne_of_none e nD)]
        exact sm _ _ e
      · rw [upd_same, take_more he, List.map_append, List.map_append]
        rfl
    · obtain ⟨sm, eD, hle⟩ := hp
      rw [List.length_map, hE.1, List.take_length] at eD
      have hsl : ((List.map (fun e : Int × List Int => e.1) es).length) ≤ 1000000 := by rw [List.length_map]; omega
      refine ⟨D, es.map (·.1), rfl, .inl (SqL.of eD), hsl, fun H3 g s3 ng eg => ?_⟩
      have eo : H3 o = some (.lst [V.int ((ps.map V.ref).length : Nat)]) := s3 _ _ (sm _ _ upd_same)
      have hpl : ((ps.map V.ref).length : Int) = (es.length : Int) := by rw [List.length_map, hE.1]
      have hcat : 1 + ((gp (-1) (List.map (fun e : Int × List Int => e.1) es)).map V.int).length ≤ sizeLine := by
        rw [List.length_map, gp_len, List.length_map]
        exact small_line (by omega)
      refine ⟨o, g, _, _, rfl, rfl, eo, eg, hcat, fun n0 nn0 => ?_⟩
      have s4 := (((s2.trans sm).trans s3).trans (same_upd (o := HO.lst ([V.int ((ps.map V.ref).length : Nat)] ++ (gp (-1) (List.map (fun e : Int × List Int => e.1) es)).map V.int)) nn0))
      have e0 : [V.int ((ps.map V.ref).length : Nat)] ++ (gp (-1) (List.map (fun e : Int × List Int => e.1) es)).map V.int = (([(es.length : Int)] ++ gp (-1) (List.map (fun e : Int × List Int => e.1) es)) ++ pls (es.take 0)).map V.int := by
        rw [hpl]
        show _ = ((([(es.length : Int)] ++ gp (-1) (List.map (fun e : Int × List Int => e.1) es)) ++ []).map V.int)
        rw [List.append_nil, List.map_append]
        rfl
      -- the loop
      refine ⟨_, rfl, a, rfl, ⟨_, SqL.of (s4 _ _ hS)⟩, for_list (K := K) (a := a) (xs := ps.map V.ref) (fun i σ H4 => ∃ (x1 x2 : Option V) (n1 : Addr), σ = [some (.ref a), x1, x2, some (.ref n1), none] ∧ Same H H4 ∧ H4 n1 = some (.lst ((([(es.length : Int)] ++ gp (-1) (List.map (fun e : Int × List Int => e.1) es)) ++ pls (es.take i)).map V.int)))
        ⟨none, none, n0, rfl, s4, by rw [upd_same, e0]⟩ (fun i σ H4 _ ⟨_, _, _, _, sx, _⟩ => SqL.of (sx _ _ hS)) (fun i x σ H4 hi hp => ?_) (fun σ H4 hp => ?_)⟩
      · obtain ⟨p, hp', rfl⟩ := map_at hi
        obtain ⟨x1, x2, n1, rfl, sx, en⟩ := hp
        obtain ⟨e, he, hea⟩ := hE.get hp'
        obtain ⟨t, t1, t2⟩ := hea.same sx
        have hle := (hG.each e (List.mem_of_getElem? he)).1
        have hpre : (([(es.length : Int)] ++ gp (-1) (List.map (fun e : Int × List Int => e.1) es)) ++ pls (es.take (i + 1))).length ≤ 43 := by
          have h1 : pls es = pls (es.take (i + 1)) ++ pls (es.drop (i + 1)) := by
            unfold pls
            rw [← List.flatMap_append, List.take_append_drop]
          have h2 := hnl
          unfold nums at h2
          rw [h1] at h2
          simp only [List.length_append] at h2 ⊢
          omega
        rw [take_more he, pls_snoc, ← List.append_assoc, List.length_append] at hpre
        refine ⟨p, _, rfl, SqT.of t1, rfl, _, _, rfl, _, _, rfl, rfl, ?_⟩
        refine ⟨_, rfl, _, rfl, .ref t, _, rfl, .inr ⟨_, SqT.of t2, rfl⟩, _, _, rfl, rfl, (by show 1 ≤ sizeLine; decide), fun o2 no2 => ?_⟩
        have s5 := same_upd (o := HO.lst [V.int ((((e.2.map V.int).length : Nat) : Int) - 1)]) no2
        refine ⟨n1, o2, _, _, rfl, rfl, s5 _ _ en, upd_same, ?_, fun n2 nn2 => ?_⟩
        · show _ + 1 ≤ sizeLine
          rw [List.length_map]
          exact small_line (by omega)
        have s6 := same_upd (o := HO.lst ((([(es.length : Int)] ++ gp (-1) (List.map (fun e : Int × List Int => e.1) es)) ++ pls (es.take i)).map V.int ++ [V.int ((((e.2.map V.int).length : Nat) : Int) - 1)])) nn2
        have s56 := s5.trans s6
        refine ⟨_, rfl, t, e.2, rfl, .inr (SqT.of (s56 _ _ t2)), by omega, fun H5 g2 s7 ng2 eg2 => ?_⟩
        have en2 := s7 _ _ (upd_same (H := upd H4 o2 (HO.lst [V.int ((((e.2.map V.int).length : Nat) : Int) - 1)])) (a := n2) (o := HO.lst ((([(es.length : Int)] ++ gp (-1) (List.map (fun e : Int × List Int => e.1) es)) ++ pls (es.take i)).map V.int ++ [V.int ((((e.2.map V.int).length : Nat) : Int) - 1)])))
        refine ⟨n2, g2, _, _, rfl, rfl, en2, eg2, ?_, fun n3 nn3 => ?_⟩
        · rw [List.length_append, List.length_map, List.length_map, List.length_map, gp_len]
          show _ + 1 + e.2.length ≤ sizeLine
          exact small_line (by omega)
        have epl : [V.int ((((e.2.map V.int).length : Nat) : Int) - 1)] ++ (gp (-1) e.2).map V.int = (pl e).map V.int := by
          unfold pl
          rw [List.map_append, List.length_map]
          rfl
        refine ⟨some (V.int e.1), some (V.ref t), n3, rfl, ((sx.trans s56).trans s7).trans (same_upd nn3), ?_⟩
        rw [upd_same, List.append_assoc, epl, ← List.map_append, take_more he, pls_snoc, ← List.append_assoc]
      · obtain ⟨x1, x2, n1, rfl, sx, en⟩ := hp
        rw [List.length_map, hE.1, List.take_length] at en
        -- the codes
        refine ⟨⟨_, rfl⟩, .ref n1, rfl, n1, rfl, ⟨_, SqL.of en⟩, fun D2 nD2 => ?_⟩
        refine lc_list (K := K) (a := n1) (xs := (nums es).map V.int) (fun i H5 => Same H4 H5 ∧ H5 D2 = some (.lst ((((nums es).take i).map fun z => S (cd z.toNat)).map V.str))) ⟨same_upd nD2, upd_same⟩ (fun i H5 _ hp => SqL.of (hp.1 _ _ en)) (fun i x H5 hi hp => ?_) (fun H5 hp => ?_)
        · obtain ⟨z, hz', rfl⟩ := map_at hi
          obtain ⟨sm5, eD5⟩ := hp
          have hmem := List.mem_of_getElem? hz'
          have hzn := hnb z hmem
          refine ⟨rfl, V.int z, rfl, z.toNat, by rw [Int.toNat_of_nonneg hzn.1]; rfl, by have := cd_two hzn; omega, fun H6 s6 => ?_⟩
          refine ⟨_, s6 _ _ eD5, ?_, ?_, ?_⟩
          · rw [List.length_map, List.length_map]
            have : ((nums es).take i).length ≤ (nums es).length := by rw [List.length_take]; omega
            exact small_line' (by omega)
          · intro b u e
            rw [upd_ne (ne_of_none e nD2)]
            exact s6 _ _ (sm5 _ _ e)
          · rw [upd_same, take_more hz']
            simp
        · obtain ⟨sm5, eD5⟩ := hp
          rw [List.length_map, List.take_length] at eD5
          have e1 : ((nums es).map fun z => S (cd z.toNat)) = ((nums es).map fun z => cd z.toNat).map S := by rw [List.map_map]; rfl
          rw [e1] at eD5
          have e2 : ((nums es).map fun z => cd z.toNat).flatten = cds (nums es) := by
            unfold cds
            rw [List.flatMap_def]
          refine ⟨_, D2, _, rfl, rfl, .inl (SqL.of eD5), ?_, ?_⟩
          · rw [lens_flat, e2]
            have h0 : (PySem.Str.ofString "").length = 0 := by decide +kernel
            rw [h0]
            omega
          · show Q (.str (Txt.join _ _)) H5
            rw [join_S, e2]
            exact q _ _ (by omega) (sx.trans sm5)
end
end K10
set_option Elab.async false
set_option linter.all false
set_option maxRecDepth 100000
set_option maxHeartbeats 8000000
/-! law. -/
namespace K10
open PySem PySem.Spec PyProof.Rows L2
theorem str_at (z : Str) {d : Int} (h0 : 0 ≤ d) (h1 : d < (z.length : Int)) : ∃ c, z.cps[d.toNat]? = some c := by
  have h : d.toNat < z.cps.size := by
    show d.toNat < z.length
    omega
  exact ⟨_, Array.getElem?_eq_getElem h⟩
theorem cut_len (z : Str) (lo hi : Option Int) : (cutS z lo hi).length ≤ z.length := by
  show ((z.cps.toList.drop (HT.sIx z.length 0 lo)).take (HT.sIx z.length z.length hi - HT.sIx z.length 0 lo)).toArray.size ≤ z.cps.size
  rw [List.size_toArray, List.length_take, List.length_drop, Array.length_toList]
  omega
theorem cat_len (a b : Str) : (a ++ b).length = a.length + b.length := by
  rw [S_of a, S_of b, S_app, S_len, S_len, S_len, List.length_append]
theorem sqL_ext {K : PySem.W.Frag} {H H' : Hp} {a : Addr} {xs : List V} (h : SqL K H a xs) (e : LamX.ExtN H H') : SqL K H' a xs := by
  rcases h with (h | ⟨o, h⟩) | h
  · exact .inl (.inl (e _ _ h fun ps z => by cases z))
  · exact .inl (.inr ⟨o, e _ _ h fun ps z => by cases z⟩)
  · exact .inr h
def StrsLe (X : List V) : Prop := ∀ v ∈ X, ∃ z : Str, v = .str z ∧ z.length ≤ 300
theorem StrsLe.nil : StrsLe [] := fun v h => by cases h
theorem StrsLe.cons {z : Str} {X : List V} (h : z.length ≤ 300) (t : StrsLe X) : StrsLe (.str z :: X) := fun v hv => by
  rcases List.mem_cons.mp hv with e | e
  · exact ⟨z, e, h⟩
  · exact t v e
theorem StrsLe.append {X Y : List V} (h : StrsLe X) (t : StrsLe Y) : StrsLe (X ++ Y) := fun v hv => by
  rcases List.mem_append.mp hv with e | e
  · exact h v e
  · exact t v e
theorem for_strs {K : PySem.W.Frag} {a : Addr} {X : List V} {g : TG} {tb : TS} {D : Ends} {σ : L2.St} {H : Hp} (hX : StrsLe X) (e : H a = some (.lst X)) (Pv : L2.St → Hp → Prop) (h0 : Pv σ H) (hk : ∀ σ1 H1, Pv σ1 H1 → LamX.ExtN H H1)
    (hs : ∀ z σ1 H1, z.length ≤ 300 → Pv σ1 H1 → g (.str z) σ1 H1 fun σ2 H2 => tb { D with nx := Pv, ct := Pv, bk := D.nx } σ2 H2) (hd : ∀ σ1 H1, Pv σ1 H1 → D.nx σ1 H1) :
    ∃ W : Nat → Nat → L2.St → Hp → Prop, (∃ m, W 0 m σ H) ∧ ∀ i m σ H, W i m σ H →
      ((Itl K a).stop i H ∧ D.nx σ H) ∨ ((Itl K a).go i H ∧ ∃ N : L2.St → Hp → Prop, (∀ σ' H', N σ' H' → ∃ m', m' < m ∧ W (i + 1) m' σ' H') ∧ ∀ x H', (Itl K a).yld i H x H' → g x σ H' fun σ2 H2 => tb { D with nx := N, ct := N, bk := D.nx } σ2 H2) :=
  for_list (K := K) (a := a) (xs := X) (fun _ => Pv) h0 (fun i σ1 H1 _ hp => SqL.of (hk _ _ hp _ _ e fun ps z => by cases z)) (fun i x σ1 H1 hi hp => by
    obtain ⟨z, rfl, hz⟩ := hX x (List.mem_of_getElem? hi)
    exact hs z σ1 H1 hz hp) hd
theorem str_le {z : Str} (hz : z.length ≤ 300) : z.cps.toList.length ≤ 100000 := by
  rw [Array.length_toList]
  show z.length ≤ 100000
  omega
theorem str_eq (z : Str) : [V.str z] ++ [] = [V.str (S z.cps.toList)] := by
  rw [← S_of z]
  rfl
section
variable {P : Program} {w : World} {K : PySem.W.Frag} {mg : Str → Option Value} {base : Heap}
theorem sc_law : FnScope ["_law_script", "_law_k", "_law_pool_here", "_law_text", "_law_at", "_law_sign", "_law_some", "_law_loose", "_law_one", "_law_size", "_law_thing", "_law_j"] ["_law_script"] (defScope s_law) := ⟨rfl, rfl, rfl, by decide +kernel, rfl, by decide +kernel, by decide +kernel⟩
def spLaw (K : PySem.W.Frag) : Sp := fun vs H Q E => ∃ (a : Addr) (ns : List Int), vs = [.ref a] ∧ SqL K H a (ns.map V.int) ∧ ns.length ≤ 1000 ∧ LamX.Tabs (tabL K) H ∧ ∀ H', Q (.bl true) H'
theorem ok_law (T : Txt K mg) {fd : FuncData} (F : FnP K "law" "law" s_law (He.ga K "law") fd) (TB : LamX.TabB base mg (tR K).1 (tR K).2) (TW : LamX.TabB base mg (tW K).1 (tW K).2) : FnOk P w K mg base CX0 10 (He.ga K "law") fd ["_law_script"] (spLaw K) := by
  have hcode : ∀ cdv, fd.code = cdv → cdv = .ref (tW K).1 := fun cdv e => by
    obtain ⟨oc, od, dV, kV, doc, pm, an, cdv', ct, osl, rfl, lk, hcd, _, _⟩ := F.ex
    rw [← e]
    exact code_of lk hcd
  obtain ⟨oc, od, dV, kV, doc, pm, an, cdv, ct, osl, rfl, lk, hcd, _, _⟩ := F.ex
  refine fn_of lk hcd sc_law (fun vs H Q E h => ?_) fun A outer s H vs Q E hr h => ?_
  · obtain ⟨a, n, rfl, _⟩ := h
    rfl
  · obtain ⟨a, ns, rfl, hS, hz, hT, q⟩ := h
    have ec : cdv = .ref (tW K).1 := hcode _ rfl
    refine ⟨_, PSs.nox (pss_cons (ps_for PassesOwn.never rfl (pi_range1 (by rfl) T.z_range (pa_cons (pe_callB (call_max2 rfl) (by rfl) T.z_max (by decide +kernel) (pa_cons pe_int (pa_cons (pe_callB (call_min2 rfl) (by rfl) T.z_min (by decide +kernel) (pa_cons pe_int (pa_cons (pe_callB call_len (by rfl) T.z_len (by decide +kernel) (pa_cons (pv 0) pa_nil)) pa_nil))) pa_nil))) pa_nil)) (pg_name (i := 1) sc_law.nd rfl (.inl rfl))
        (pss_cons (ps_set (i := 2) sc_law.nd rfl (.inr rfl) (pe_callD (ok_pool T) (hr.mono (by decide)) (by rfl) T.g__law_pool T.k__law_pool pass0 (pa_cons (pv 0) (pa_cons (pv 1) pa_nil))))
        (pss_cons (ps_set (i := 3) sc_law.nd rfl (.inl rfl) (pe_callD (ok_coded T) (hr.mono (by decide)) (by rfl) T.g__law_coded T.k__law_coded pass0 (pa_cons (pe_callD (ok_ents T) (hr.mono (by decide)) (by rfl) T.g__law_entries T.k__law_entries pass0 (pa_cons (pv 2) (pa_cons pe_int (pa_cons pe_int pa_nil)))) pa_nil)))
        (pss_cons (ps_set (i := 4) sc_law.nd rfl (.inl rfl) (pe_callD (ok_take T) (hr.mono (by decide)) (by rfl) T.g__law_take T.k__law_take pass0 (pa_cons (pv 2) (pa_cons (pe_op op_add (pe_callB call_len (by rfl) T.z_len (by decide +kernel) (pa_cons (pv 3) pa_nil)) pe_int) pa_nil))))
        (pss_cons (ps_set (i := 5) sc_law.nd rfl (.inl rfl) (pe_item_str pe_str (pe_callD (ok_take T) (hr.mono (by decide)) (by rfl) T.g__law_take T.k__law_take pass0 (pa_cons (pv 2) (pa_cons pe_int pa_nil))) (fun _ _ => rfl)))
        (pss_cons (ps_set (i := 6) sc_law.nd rfl (.inl rfl) (pe_lst (pa_cons (pe_op op_add_str (pe_op op_add_str (pe_slice sl_str (pv 3) po_none (po_some (pv 4))) (pv 5)) (pe_slice sl_str (pv 3) (po_some (pe_op op_add (pv 4) pe_int)) po_none))
            (pa_cons (pe_op op_add_str (pe_op op_add_str (pe_slice sl_str (pv 3) po_none (po_some (pv 4))) (pv 5)) (pe_slice sl_str (pv 3) (po_some (pv 4)) po_none))
            (pa_cons (pe_op op_add_str (pe_slice sl_str (pv 3) po_none (po_some (pv 4))) (pe_slice sl_str (pv 3) (po_some (pe_op op_add (pv 4) pe_int)) po_none))
            (pa_cons (pe_op op_add_str (pv 3) (pv 5)) pa_nil))))))
        (pss_cons (ps_set (i := 7) sc_law.nd rfl (.inl rfl) (pe_join pe_str (pe_lc (own := [("_law_j", 11)]) (g := gName 11) (tt := tYes) (by rfl) sc_law.nd (pi_range1 (by rfl) T.z_range (pa_cons (pe_callD (ok_take T) (hr.mono (by decide)) (by rfl) T.g__law_take T.k__law_take pass0 (pa_cons (pv 2) (pa_cons pe_int pa_nil))) pa_nil))
            (blkOk_by (own := [("_law_j", 11)]) (N := ["_law_script", "_law_k", "_law_pool_here", "_law_text", "_law_at", "_law_sign", "_law_some", "_law_loose", "_law_one", "_law_size", "_law_thing", "_law_j"]) (sc := defScope s_law) (by decide +kernel))
            (fun _ _ _ _ _ => pg_name (i := 11) sc_law.nd rfl (Or.inl rfl)) (fun _ _ _ _ _ => pts_nil) (fun _ _ _ _ _ => pe_item_str pe_str (pe_callD (ok_take T) (hr.mono (by decide)) (by rfl) T.g__law_take T.k__law_take pass0 (pa_cons (pv 2) (pa_cons pe_int pa_nil))) (fun _ _ => rfl)))))
        (pss_cons (ps_for PassesOwn.never rfl (pi_list (pe_op op_cat (pv 6) (pe_lst (pa_cons (pv 7) (pa_cons (pe_op op_add_str (pv 3) (pv 3)) (pa_cons (pe_revS (pv 3)) pa_nil)))))) (pg_name (i := 8) sc_law.nd rfl (.inl rfl))
          (pss_one (ps_if (pt_not (pt_val (pe_callD (ok_right T TB) hr (by rfl) T.g__law_right T.k__law_right pass0 (pa_cons (pv 8) pa_nil)))) (pss_one (ps_ret pe_bl)) pss_nil)))
        (pss_cons (ps_for PassesOwn.never rfl (pi_range1 (by rfl) T.z_range (pa_cons (pe_op op_add (pe_callB call_len (by rfl) T.z_len (by decide +kernel) (pa_cons (pv 3) pa_nil)) pe_int) pa_nil)) (pg_name (i := 9) sc_law.nd rfl (.inl rfl))
          (pss_one (ps_if (pt_not (pt_val (pe_callD (ok_right T TB) hr (by rfl) T.g__law_right T.k__law_right pass0 (pa_cons (pe_slice sl_str (pv 3) po_none (po_some (pv 9))) pa_nil)))) (pss_one (ps_ret pe_bl)) pss_nil)))
        (pss_one (ps_for PassesOwn.never rfl (pi_tup (pe_tup (pa_cons pe_non (pa_cons pe_int (pa_cons pe_bl (pa_cons (pe_lst (pa_cons (pv 3) pa_nil)) (pa_cons (pe_tup (pa_cons (pv 3) pa_nil)) pa_nil))))))) (pg_name (i := 10) sc_law.nd rfl (.inr rfl))
          (pss_one (ps_if (pt_cmpR (op_neD hr.units) (pe_how (k := 6) (tabs := tabL K) T (by rfl) TW ec (by exact List.mem_cons_of_mem _ List.mem_cons_self) (tab_w T) (hr.mono (by decide)) (LamX.lamS_by (by show LamX.lamSB (defScope s_law) _ = true; decide +kernel)) rfl (fun _ _ _ _ _ => rfl)
              (fun A outer s H E f c' hr2 => pe_callD (ok_de T) hr2 (by rfl) T.g_decode_entries T.k_decode_entries (passes_call (E := E) (takes_of rfl rfl rfl rfl) (fun _ _ _ _ h => h)) (pa_cons (pv 10) pa_nil))) (pe_tup (pa_cons pe_str (pa_cons pe_non pa_nil))) (nomark _)) (pss_one (ps_ret pe_bl)) pss_nil)))))))))))))
      (pss_one (ps_ret pe_bl))), ?_⟩
    refine ⟨_, rfl, _, _, rfl, .inl ⟨_, hS, rfl⟩, _, _, rfl, _, _, rfl, _, rfl, ?_, ?_, ?_⟩
    · split <;> omega
    · split
      · split <;> omega
      · omega
    refine for_range (fun i σ G0 => ∃ v1 v2 v3 v4 v5 v6 v7 v8 v9 v10 v11, σ = [some (.ref a), v1, v2, v3, v4, v5, v6, v7, v8, v9, v10, v11] ∧ LamX.ExtN H G0 ∧ LamX.Tabs (tabL K) G0)
      ⟨none, none, none, none, none, none, none, none, none, none, none, rfl, LamX.ExtN.refl _, hT⟩ (fun i σ G0 hi hp => ?_) (fun σ G0 hp => ?_)
    · have hi8 : i ≤ 8 := by
        have h1 := hi
        revert h1
        split
        · split <;> omega
        · omega
      obtain ⟨v1, v2, v3, v4, v5, v6, v7, v8, v9, v10, v11, rfl, x0, T0⟩ := hp
      have hS0 := sqL_ext hS x0
      -- the pool, the text
      refine ⟨_, rfl, _, rfl, a, ns, i, by rw [Int.zero_add]; rfl, hS0, by omega, fun p G1 x y s1 np ep hy1 hy2 => ?_⟩
      refine ⟨_, rfl, p, x, y, 0, rfl, ep, hy1, hy2, by decide, by decide, fun es pe ps x1 c1 G2 hSm c10 c11 sb2 ep2 npe epe hE => ?_⟩
      refine ⟨pe, ps, es, rfl, epe, hE, hSm, fun cs G3 hcs s3 => ?_⟩
      have s03 : Same G0 G3 := SameB.toSame s1 np (sb2.trans (SameB.same s3))
      have ep3 := s3 _ _ ep2
      -- the place, the sign
      refine ⟨_, rfl, _, rfl, _, cs.length, rfl, ⟨by rw [S_len]; exact small_line (by omega), by rw [S_len]⟩, _, _, rfl, rfl, p, _, x1, y, c1, rfl, ep3, hy1, hy2, c10, by omega, by omega, by omega, fun at_ x4 c4 G4 a0 a1 c40 c41 sb4 ep4 => ?_⟩
      refine ⟨_, rfl, p, 12, x4, y, c4, rfl, ep4, hy1, hy2, by omega, by omega, by decide, by decide, fun d x5 c5 G5 d0 d1 c50 c51 sb5 ep5 => ?_⟩
      have l12 : (PySem.Str.ofString "abcdpABPq 0-").length = 12 := by decide +kernel
      obtain ⟨ch, hch⟩ := str_at (PySem.Str.ofString "abcdpABPq 0-") d0 (by rw [l12]; exact d1)
      refine ⟨_, d, ch, rfl, rfl, d0, by omega, by rw [l12]; exact d1, hch, ?_⟩
      have s05 : Same G0 G5 := SameB.toSame s03 np (sb4.trans sb5)
      have hzt : (S cs).length ≤ sizeLine := by rw [S_len]; exact small_line (by omega)
      have hcut : ∀ lo hi, (cutS (S cs) lo hi).length ≤ 86 := fun lo hi => Nat.le_trans (cut_len _ _ _) (by rw [S_len]; exact hcs)
      have hone : (⟨#[ch]⟩ : Str).length = 1 := rfl
      have fit : ∀ {n : Nat}, n ≤ 1000 → n ≤ sizeLine := fun h => small_line (by omega)
      have h1 := hcut none (some at_)
      have h2 := hcut (some (at_ + 1)) none
      have h3 := hcut (some at_) none
      -- the four texts
      refine ⟨_, rfl, _, rfl, _, rfl, S cs, rfl, hzt, _, rfl, _, _, rfl, rfl, fit (by rw [hone]; omega), _, rfl, _, rfl, _, _, rfl, rfl, _, rfl, S cs, rfl, hzt, _, _, rfl, rfl, fit (by rw [cat_len, hone]; omega), ?_⟩
      refine ⟨_, rfl, _, rfl, _, rfl, S cs, rfl, hzt, _, rfl, _, _, rfl, rfl, fit (by rw [hone]; omega), _, rfl, _, rfl, _, rfl, S cs, rfl, hzt, _, _, rfl, rfl, fit (by rw [cat_len, hone]; omega), ?_⟩
      refine ⟨_, rfl, _, rfl, _, rfl, S cs, rfl, hzt, _, rfl, _, rfl, _, _, rfl, rfl, _, rfl, S cs, rfl, hzt, _, _, rfl, rfl, fit (by omega), ?_⟩
      refine ⟨_, rfl, _, rfl, _, _, rfl, rfl, fit (by rw [S_len, hone]; omega), by show 4 ≤ sizeLine; decide, fun o no => ?_⟩
      have po : p ≠ o := ne_of_none ep5 no
      -- the loose text
      refine ⟨⟨_, rfl⟩, _, rfl, p, 21, x5, y, c5, rfl, same_upd no _ _ ep5, hy1, hy2, by omega, by omega, by decide, by decide, fun r x7 c7 G7 r0 r1 c70 c71 sb7 ep7 => ?_⟩
      have eo7 := sb7 o _ (Ne.symm po) upd_same
      have s57 : SameB p G5 G7 := (SameB.same (same_upd no)).trans sb7
      refine ⟨r, rfl, by omega, by omega, fun D nD => ?_⟩
      have pD : p ≠ D := ne_of_none ep7 nD
      refine lc_range (lo := 0) (n := r.toNat) (fun i' G8 => ∃ (x8 c8 : Int) (qs : List Nat), G8 p = some (.lst (poolV x8 y c8)) ∧ 0 ≤ c8 ∧ c8 ≤ c7 + (i' : Int) ∧ SameB p G7 G8 ∧ G8 D = some (.lst (((qs.map fun c => [c]).map S).map V.str)) ∧ qs.length = i')
        ⟨x7, c7, [], by rw [upd_ne pD]; exact ep7, by omega, by omega, SameB.same (same_upd nD), upd_same, rfl⟩ (fun i' G8 hi' hp => ?_) (fun G8 hp => ?_)
      · obtain ⟨x8, c8, qs, ep8, c80, c81, sb8, eD8, hq8⟩ := hp
        have l10 : (PySem.Str.ofString "abcdABpaab").length = 10 := by decide +kernel
        refine ⟨rfl, _, rfl, p, 10, x8, y, c8, rfl, ep8, hy1, hy2, c80, by omega, by decide, by decide, fun t x9 c9 G9 t0 t1 c90 c91 sb9 ep9 => ?_⟩
        obtain ⟨ch2, hch2⟩ := str_at (PySem.Str.ofString "abcdABpaab") t0 (by rw [l10]; exact t1)
        refine ⟨_, t, ch2, rfl, rfl, t0, by omega, by rw [l10]; exact t1, hch2, ?_⟩
        refine ⟨_, sb9 _ _ (Ne.symm pD) eD8, ?_, ?_⟩
        · rw [List.length_map, List.length_map, List.length_map, hq8]
          exact small_line' (by omega)
        · refine ⟨x9, c9, qs ++ [ch2], by rw [upd_ne pD]; exact ep9, by omega, by omega, ?_, ?_, ?_⟩
          · intro h u hh eh
            rw [upd_ne (ne_of_none eh nD)]
            exact sb9 _ _ hh (sb8 _ _ hh eh)
          · rw [upd_same, List.map_append, List.map_append, List.map_append]
            rfl
          · rw [List.length_append, hq8]
            rfl
      obtain ⟨x8, c8, qs, ep8, c80, c81, sb8, eD8, hq8⟩ := hp
      have hfl : ((qs.map fun c => [c]).flatten).length = qs.length := by
        clear eD8 hq8
        induction qs with
        | nil => rfl
        | cons c r ih =>
          show (c :: (r.map fun c => [c]).flatten).length = (c :: r).length
          rw [List.length_cons, ih, List.length_cons]
      refine ⟨_, D, _, rfl, rfl, .inl (SqL.of eD8), ?_, ?_⟩
      · rw [lens_flat, hfl]
        have h0 : (PySem.Str.ofString "").length = 0 := by decide +kernel
        rw [h0]
        exact fit (by omega)
      rw [join_S]
      have hlo : (S (qs.map fun c => [c]).flatten).length ≤ 20 := by
        rw [S_len, hfl]
        omega
      have eo8 := sb8 o _ (Ne.symm po) eo7
      have s08 : Same G0 G8 := SameB.toSame s05 np (s57.trans sb8)
      generalize S (qs.map fun c => [c]).flatten = lo at hlo ⊢
      -- the seven texts
      refine ⟨_, rfl, _, rfl, _, rfl, _, rfl, _, _, rfl, rfl, fit (by rw [S_len]; omega), _, rfl, S cs, rfl, hzt, fun rv hrv => ?_⟩
      have hrv : rv.length ≤ cs.length := Nat.le_trans hrv (Nat.le_of_eq (S_len cs))
      refine ⟨by show 3 ≤ sizeLine; decide, fun o2 no2 => ?_⟩
      have eo2 := same_upd (o := HO.lst [V.str lo, V.str (S cs ++ S cs), V.str rv]) no2 _ _ eo8
      refine ⟨o, o2, _, _, rfl, rfl, eo2, upd_same, by show 7 ≤ sizeLine; decide, fun o3 no3 => ?_⟩
      have sA : ∀ {X : List V}, Same G0 (upd (upd G8 o2 (.lst [V.str lo, V.str (S cs ++ S cs), V.str rv])) o3 (.lst X)) := (s08.trans (same_upd no2)).trans (same_upd no3)
      have xA : ∀ {X : List V}, LamX.ExtN H (upd (upd G8 o2 (.lst [V.str lo, V.str (S cs ++ S cs), V.str rv])) o3 (.lst X)) := fun {X} => x0.trans (ext_same sA)
      have TA : ∀ {X : List V}, LamX.Tabs (tabL K) (upd (upd G8 o2 (.lst [V.str lo, V.str (S cs ++ S cs), V.str rv])) o3 (.lst X)) := fun {X} => T0.ext sA
      refine ⟨o3, rfl, ⟨_, SqL.of upd_same⟩, for_strs (.append (.cons (by rw [cat_len, cat_len, hone]; omega) (.cons (by rw [cat_len, cat_len, hone]; omega) (.cons (by rw [cat_len]; omega) (.cons (by rw [cat_len, S_len, hone]; omega) .nil)))) (.cons (by omega) (.cons (by rw [cat_len, S_len]; omega) (.cons (by omega) .nil)))) upd_same
        (fun σ1 H1 => ∃ v8 v9 v10 v11, σ1 = [some (.ref a), some (.int (0 + (i : Int))), some (.ref p), some (.str (S cs)), some (.int at_), some (.str ⟨#[ch]⟩), some (.ref o), some (.str lo), v8, v9, v10, v11] ∧ LamX.ExtN _ H1 ∧ LamX.Tabs (tabL K) H1)
        ⟨v8, v9, v10, v11, rfl, LamX.ExtN.refl _, TA⟩ (fun σ1 H1 ⟨_, _, _, _, _, h, _⟩ => h) (fun z σ1 H1 hz1 hp => ?_) (fun σ1 H1 hp => ?_)⟩
      · obtain ⟨w8, w9, w10, w11, rfl, xB, TB1⟩ := hp
        refine ⟨_, rfl, z.cps.toList, str_eq z, str_le hz1, TB1, fun H2 x2 T2 => ?_⟩
        exact ⟨true, rfl, iteF ⟨_, w9, w10, w11, rfl, xB.trans x2, T2⟩⟩
      obtain ⟨w8, w9, w10, w11, rfl, xB, TB1⟩ := hp
      have xC := xA.trans xB
      clear xB
      -- the cut texts
      refine ⟨_, rfl, _, cs.length, rfl, ⟨by rw [S_len]; exact small_line (by omega), by rw [S_len]⟩, _, _, rfl, rfl, _, rfl, by omega, by omega, ?_⟩
      refine for_range (fun i' σ2 H2 => ∃ v9 v10 v11, σ2 = [some (.ref a), some (.int (0 + (i : Int))), some (.ref p), some (.str (S cs)), some (.int at_), some (.str ⟨#[ch]⟩), some (.ref o), some (.str lo), w8, v9, v10, v11] ∧ LamX.ExtN H H2 ∧ LamX.Tabs (tabL K) H2)
        ⟨w9, w10, w11, rfl, xC, TB1⟩ (fun i' σ2 H2 hi' hp => ?_) (fun σ2 H2 hp => ?_)
      · obtain ⟨u9, u10, u11, rfl, xD, TD⟩ := hp
        refine ⟨_, rfl, _, rfl, _, rfl, S cs, rfl, hzt, (cutS (S cs) _ _).cps.toList, str_eq _, str_le (by have := hcut none (some (0 + (i' : Int))); omega), TD, fun H3 x3' T3 => ?_⟩
        exact ⟨true, rfl, iteF ⟨_, u10, u11, rfl, xD.trans x3', T3⟩⟩
      obtain ⟨u9, u10, u11, rfl, xD, TD⟩ := hp
      -- what is no text
      refine ⟨_, rfl, by show 1 ≤ sizeLine; decide, fun l nl => ?_⟩
      refine ⟨_, rfl, by show 1 ≤ sizeLine; decide, fun t nt => ?_⟩
      refine ⟨by show 5 ≤ sizeLine; decide, fun u nu => ?_⟩
      have el1 : upd H2 l (.lst [V.str (S cs)]) l = some (.lst [V.str (S cs)]) := upd_same
      have sl1 : Same H2 (upd H2 l (.lst [V.str (S cs)])) := same_upd nl
      generalize upd H2 l (.lst [V.str (S cs)]) = H3 at nt nu el1 sl1 ⊢
      have et1 : upd H3 t (.tup [V.str (S cs)]) t = some (.tup [V.str (S cs)]) := upd_same
      have st1 : Same H3 (upd H3 t (.tup [V.str (S cs)])) := same_upd nt
      generalize upd H3 t (.tup [V.str (S cs)]) = H4 at nu et1 st1 ⊢
      have eu1 : upd H4 u (.tup [.non, .int 3, .bl true, .ref l, .ref t]) u = some (.tup [.non, .int 3, .bl true, .ref l, .ref t]) := upd_same
      have su1 : Same H4 (upd H4 u (.tup [.non, .int 3, .bl true, .ref l, .ref t])) := same_upd nu
      generalize upd H4 u (.tup [.non, .int 3, .bl true, .ref l, .ref t]) = H5 at eu1 su1 ⊢
      have s25 : Same H2 H5 := (sl1.trans st1).trans su1
      have el5 := su1 _ _ (st1 _ _ el1)
      have et5 := su1 _ _ et1
      refine ⟨u, rfl, ⟨_, SqT.of eu1⟩, for_tup (K := K) (a := u) (xs := [.non, .int 3, .bl true, .ref l, .ref t]) (fun i' σ3 H6 => ∃ v10 v11, σ3 = [some (.ref a), some (.int (0 + (i : Int))), some (.ref p), some (.str (S cs)), some (.int at_), some (.str ⟨#[ch]⟩), some (.ref o), some (.str lo), w8, u9, v10, v11] ∧ LamX.ExtN H5 H6 ∧ LamX.Tabs (tabL K) H6)
        ⟨u10, u11, rfl, LamX.ExtN.refl _, TD.ext s25⟩ (fun i' σ3 H6 _ ⟨_, _, _, h, _⟩ => SqT.of (h _ _ eu1 fun ps z => by cases z)) (fun i' x' σ3 H6 hi' hp => ?_) (fun σ3 H6 hp => ?_)⟩
      · obtain ⟨y10, y11, rfl, xE, TE⟩ := hp
        have hx : ∀ H7, LamX.ExtN H5 H7 → ∃ tv, TyX K H7 x' tv ∧ PySem.W.kitOne K tv (.type "str") = some false := fun H7 x7 => by
          have hm := List.mem_of_getElem? hi'
          simp only [List.mem_cons, List.not_mem_nil, or_false] at hm
          rcases hm with rfl | rfl | rfl | rfl | rfl
          · exact ⟨_, .base .non, kit_ty (by decide +kernel)⟩
          · exact ⟨_, .base (.int 3), kit_ty (by decide +kernel)⟩
          · exact ⟨_, .base (.bl true), kit_ty (by decide +kernel)⟩
          · exact ⟨_, .base (.lst (x7 _ _ el5 fun ps z => by cases z)), kit_ty (by decide +kernel)⟩
          · exact ⟨_, .base (.tup (x7 _ _ et5 fun ps z => by cases z)), kit_ty (by decide +kernel)⟩
        refine ⟨TE, fun H7 x7' T7 => ?_⟩
        obtain ⟨tv, htv, hkv⟩ := hx H7 (xE.trans x7')
        refine ⟨_, rfl, x', tv, false, rfl, htv, hkv, (fun z => nomatch z), fun _ d' H8 s8 nd' he => ?_⟩
        refine ⟨rfl, d', _, .non, _, rfl, he, rfl, .base .non, kit_ty (by decide +kernel), fun p' H9 s9 ep' => ?_⟩
        refine ⟨by show 2 ≤ sizeLine; decide, fun p2 np2 => ?_⟩
        have s10 := same_upd (o := HO.tup [V.str (PySem.Str.ofString "code"), V.non]) np2
        refine ⟨.tuple [.str (PySem.Str.ofString "code"), .none], .tuple [.str (PySem.Str.ofString "code"), .none], .tup (SqT.of (s10 _ _ ep')) (.cons (.str _) (.cons .non .nil)), .tup (SqT.of upd_same) (.cons (.str _) (.cons .non .nil)), shaped_codeN, shaped_codeN, ?_⟩
        have e1 : PyData.eqv (.tuple [.str (PySem.Str.ofString "code"), .none]) (.tuple [.str (PySem.Str.ofString "code"), .none]) = true := SeqAt.eqv_refl_plain _ rfl
        rw [e1]
        have sF := (s8.trans s9).trans s10
        exact ⟨false, rfl, iteF ⟨_, y11, rfl, (xE.trans x7').trans (ext_same sF), T7.ext sF⟩⟩
      · obtain ⟨y10, y11, rfl, xE, TE⟩ := hp
        exact ⟨_, _, _, _, _, _, _, _, _, _, _, rfl, (xD.trans (ext_same s25)).trans xE, TE⟩
    · obtain ⟨v1, v2, v3, v4, v5, v6, v7, v8, v9, v10, v11, rfl, x0, T0⟩ := hp
      exact q _
end
end K10
set_option Elab.async false
set_option linter.all false
set_option maxRecDepth 100000
set_option maxHeartbeats 0
/-! The head: the top's run, with the facts. -/
namespace K10
open PySem PySem.W PySem.Calls PyProof.Rows
abbrev R : OpenRow := OpenLaw.row PySem.Challenge.rw_blocksearch_k10_whole_entries_decoded
abbrev qv : Program := view R.prog [49]
def namesA : List PySem.Str := ["Wrong", "NoWord", "NoText", "NoNumber", "NoSize", "NoLengths", "NoQuery", "NoCode", "NoRow", "NoEntries", "NoQueryText", "NoPages", "NoName", "NoQueries", "NoShelf", "NoDeed", "Taken", "NoPlace", "NoSlot", "is_whole", "ENDS", "FURTHER", "BASE", "is_count", "code"]
def namesB : List PySem.Str := ["joined_codes", "CodeReader", "gaps", "is_rising", "is_entry", "look_entries", "code_entries", "decode_entries", "_law_pool", "_law_take", "_law_entries", "_law_code", "_law_gaps", "_law_coded", "_law_kind", "_law_how", "_law_number_at", "_law_rising_at", "_law_due", "_law_right"]
def names : List PySem.Str := namesA ++ namesB
def ob (s : PySem.W.SharedT) : He.AlX := obsY (HandSHeadRun.getT s)
theorem ob_eq (s : PySem.W.SharedT) : ob s = hookY.obs s.abs := obsY_eq (HandSHeadRun.getT_eq s)
theorem run (w : World) : HandSHeadRun.RunEq R qv hookY ob 6000 names w := by
  intro os
  kernel_rfl
end K10
set_option Elab.async false
set_option linter.all false
set_option maxRecDepth 100000
set_option maxHeartbeats 0
/-! The end. -/
namespace K10
open PySem PySem.Spec PyProof.Rows L2
theorem law_at {w : World} {mg : Str → Option Value} {fa : Addr} {h : Heap} {P : PySem.W.OpenLaw} (Y : hookY.says w h) (G : h.Ns mainGlobals mg) (hmg : mg ("law" : Str) = some (.ref fa)) :
    ∃ K : PySem.W.Frag, K.In h ∧ LamX.LawAtS P w K CX0 10 63 "_law_script" mg fa h := by
  obtain ⟨K, KX, c⟩ := (show ∃ K : PySem.W.Frag, K.In h ∧ He.SaysX faL fnL [] tf exB w h K from Y)
  have T := txt_of KX G c
  obtain ⟨fd, F, _⟩ := T.f_law
  have e := hmg.symm.trans T.g_law
  cases e
  have b := FunD.bindsA (ps := ["_law_script"]) F fun _ _ _ _ _ _ us hl => match us, hl with | [_], _ => rfl
  have memT : ∀ p ∈ [tR K, tW K], ∃ d ∈ tf, p = He.cT K d := fun p hp => by
    rcases List.mem_cons.mp hp with z | z
    · exact ⟨_, List.mem_cons_self, z⟩
    · exact ⟨_, List.mem_cons_of_mem _ List.mem_cons_self, List.mem_singleton.mp z⟩
  refine ⟨K, KX, fd, [tR K, tW K], spLaw K, fun p hp => ?_, fun p hp => ?_, fun p hp => ?_, fun s v => b s [v] rfl, fun H a ns hl _ hH hS => ⟨a, ns, rfl, hS, by omega, fun p hp => ?_, fun _ => rfl⟩, fun base _ _ TB => ok_law T F (TB _ List.mem_cons_self) (TB _ (List.mem_cons_of_mem _ List.mem_cons_self))⟩
  · obtain ⟨d, hd, rfl⟩ := memT p hp
    exact c.empty d hd
  · obtain ⟨d, hd, rfl⟩ := memT p hp
    exact c.out d hd
  · obtain ⟨d, hd, rfl⟩ := memT p hp
    exact PySem.W.codeHd_of_K KX (c.hd d hd)
  · rcases List.mem_cons.mp hp with z | z
    · rw [z]
      exact LamX.TabS.nil (hH _ List.mem_cons_self)
    · rw [List.mem_singleton.mp z]
      exact LamX.TabS.nil (hH _ (List.mem_cons_of_mem _ List.mem_cons_self))
end K10
open PySem PySem.W PySem.Calls PyProof.Rows
theorem PySem.Challenge.cw_blocksearch_k10_whole_entries_decoded_holds : PySem.Challenge.rw_blocksearch_k10_whole_entries_decoded.Holds := by
  w_on; o_law
  refine HandSHeadRun.head_any (r := OpenLaw.row PySem.Challenge.rw_blocksearch_k10_whole_entries_decoded) (q := view (OpenLaw.row PySem.Challenge.rw_blocksearch_k10_whole_entries_decoded).prog [49]) (H := K10.hookY) (ob := K10.ob) (M := 6000) (loose := K10.names) (d := HandSHeadRun.topDef (OpenLaw.row PySem.Challenge.rw_blocksearch_k10_whole_entries_decoded).prog 49) (kwd := []) K10.ob_eq
    (by kernel_rfl) (fun s => by kernel_rfl) K10.run (by kernel_rfl) (by kernel_rfl) (by kernel_rfl) (by rfl) (by first | assumption | decide +kernel) (by decide +kernel) ⟨rfl, rfl, rfl, rfl, rfl, by decide +kernel⟩ ?hw ?hc
  case hw => w_witness2
  case hc =>
    refine LamX.walk_ofTsE (l := PySem.Challenge.rw_blocksearch_k10_whole_entries_decoded) (n := 63) (k := 10) (x := "_law_script") (CX := fun _ => L2.CX0) rfl (by decide) (by kernel_rfl) ⟨rfl, by decide, by decide⟩ ?F (fun _ _ _ _ _ z => z)
    intro w mg fa h Y G hmg0
    have hmg : mg ("law" : PySem.Str) = some (.ref fa) := by
      have e : (HandSHeadRun.topDef (OpenLaw.row PySem.Challenge.rw_blocksearch_k10_whole_entries_decoded).prog 49).name = ("law" : PySem.Str) := by kernel_rfl
      rw [← e]
      exact hmg0
    exact K10.law_at Y G hmg
