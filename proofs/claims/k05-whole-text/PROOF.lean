import PyProof.Rows.All
import Wide.All
import OpenK.AllK
import Wide.FinOn
import HandS.ForMost
import HandS.DictComp
import KE.KStar
import HandS.ForExc
import HandS.Defaults
import HandS.Zip
import HandS.Style
import HandS.IsInst
import HandS.ExcIs
import HandS.Wide
import HandS.Conv
import HandS.TupAny
import HandS.More
import HandS.Flow
import PySem.Challenge.RW_schemebound_k05_whole_text_and_back
section
set_option Elab.async false
set_option maxRecDepth 100000
set_option maxHeartbeats 0
open PySem PySem.W PyProof.Rows
namespace K5
open_top tp for PySem.Challenge.rw_schemebound_k05_whole_text_and_back
end K5
end
set_option Elab.async false
set_option linter.all false
set_option maxRecDepth 100000
set_option maxHeartbeats 4000000
/-! A dict comprehension with two fors and no tests. -/
namespace K5
open PySem PySem.Spec PyProof.Rows L2
abbrev dcx (kx vx t0 i0 t1 i1 : Expr) (sc : Scope) (pos : Pos) : Expr := .DictComp kx vx [⟨t0, i0, [], 0⟩, ⟨t1, i1, [], 0⟩] sc pos
theorem turn_out (kx vx t0 i0 t1 i1 : Expr) (sc : Scope) (pos : Pos) (it acc : Value) (env : Env) :
    compTurn (dcx kx vx t0 i0 t1 i1 sc pos) 0 it acc env = (do
      standAt i0.pos
      match ← pyNext it with
      | none => pure (.done .next)
      | some v =>
        letOwnedTupleGo t0 it v
        assign t0 env v
        let x ← eval i1 env
        standAt i1.pos
        let x ← foldedSetIterable i1 env x
        let _ ← runOwn (.compStart (dcx kx vx t0 i0 t1 i1 sc pos) 1 (← holding [x] (pyIter x)) acc env) env
        again (.compLoop (dcx kx vx t0 i0 t1 i1 sc pos) 0 it acc env)) := by rfl
theorem turn_in (kx vx t0 i0 t1 i1 : Expr) (sc : Scope) (pos : Pos) (it : Value) (D : Addr) (env : Env) :
    compTurn (dcx kx vx t0 i0 t1 i1 sc pos) 1 it (.ref D) env = (do
      standAt i1.pos
      match ← pyNext it with
      | none => pure (.done .next)
      | some v =>
        letOwnedTupleGo t1 it v
        assign t1 env v
        (do
          let kv ← eval kx env
          let vv ← holding [kv] (eval vx env)
          standAt { kx.pos with endLine := vx.pos.endLine, endCol := vx.pos.endCol }
          holding [kv, vv] (dictSet D kv vv))
        again (.compLoop (dcx kx vx t0 i0 t1 i1 sc pos) 1 it (.ref D) env)) := by rfl
section
variable {P : Program} {w : World} {A : Around} {R : Result → Shared → Prop} {s : Shared} {kx vx t0 i0 t1 i1 : Expr} {sc : Scope} {pos : Pos} {it acc : Value} {env : Env}
/-- what is wanted where a turn raises -/
abbrev raised (P : Program) (w : World) (A : Around) (R : Result → Shared → Prop) (env : Env) : Value → Shared → Prop := notedBy (model P w) A env fun e s' => R (.error e) s'
theorem loop_out (hs : ∀ x, foldedSetIterable i1 env x = pure x) (I : Nat → Shared → Prop)
    (go : ∀ n s, I n s → wpAny (model P w) A (pyNext it) (fun r s1 => match r with
      | none => R (.ok .next) s1
      | some v => wpAny (model P w) A (letOwnedTupleGo t0 it v) (fun _ s2 => wpAny (model P w) A (assign t0 env v) (fun _ s3 =>
          wpAny (model P w) A (eval i1 env) (fun x s4 => wpAny (model P w) A (pyIter x) (fun jt s5 =>
            codeAny (model P w) A (.compStart (dcx kx vx t0 i0 t1 i1 sc pos) 1 jt acc env) (fun r s6 => match r with
              | .ok _ => ∃ m, m < n ∧ I m s6
              | .error _ => False) s5) (raised P w A R env) s4) (raised P w A R env) s3) (raised P w A R env) s2) (raised P w A R env) s1) (raised P w A R env) s)
    (n : Nat) (h : I n s) : codeAny (model P w) A (.compLoop (dcx kx vx t0 i0 t1 i1 sc pos) 0 it acc env) R s := by
  refine codeAny_loop rfl I (fun n s hI => ?_) n h
  show wpAny _ A ((compTurn (dcx kx vx t0 i0 t1 i1 sc pos) 0 it acc env).onRaise (fun x => do noteFrame x env; theTreesLotGoes x)) _ _ s
  refine wpAny_noted ?_
  rw [turn_out]
  refine wpAny_bind (wpAny_standAt (wpAny_bind (wpAny_mono (go n s hI) (fun r s1 h1 => ?_) fun _ _ z => z)))
  cases r with
  | none => exact wpAny_pure h1
  | some v =>
    refine wpAny_bind (wpAny_mono h1 (fun _ s2 h2 => ?_) fun _ _ z => z)
    refine wpAny_bind (wpAny_mono h2 (fun _ s3 h3 => ?_) fun _ _ z => z)
    refine wpAny_bind (wpAny_mono h3 (fun x s4 h4 => ?_) fun _ _ z => z)
    refine wpAny_bind (wpAny_standAt (wpAny_bind (wpAny_of_eq (hs x) (wpAny_bind (wpAny_holding (wpAny_mono h4 (fun jt s5 h5 => ?_) fun _ _ z => z))))))
    refine wpAny_bind (wpAny_runOwn ?_)
    rw [Around.mark_none]
    refine codeAny_mono h5 fun r s6 hr => ?_
    cases r with
    | ok f => first | exact wpAny_pure ⟨rfl, hr⟩ | exact wpAny_bind (wpAny_pure (wpAny_pure ⟨rfl, hr⟩))
    | error e => exact hr.elim
theorem loop_in {D : Addr} (I : Nat → Shared → Prop)
    (go : ∀ n s, I n s → wpAny (model P w) A (pyNext it) (fun r s1 => match r with
      | none => R (.ok .next) s1
      | some v => wpAny (model P w) A (letOwnedTupleGo t1 it v) (fun _ s2 => wpAny (model P w) A (assign t1 env v) (fun _ s3 =>
          wpAny (model P w) A (eval kx env) (fun kv s4 => wpAny (model P w) A (eval vx env) (fun vv s5 =>
            wpAny (model P w) A (dictSet D kv vv) (fun _ s6 => ∃ m, m < n ∧ I m s6) (raised P w A R env) s5) (raised P w A R env) s4) (raised P w A R env) s3) (raised P w A R env) s2) (raised P w A R env) s1) (raised P w A R env) s)
    (n : Nat) (h : I n s) : codeAny (model P w) A (.compLoop (dcx kx vx t0 i0 t1 i1 sc pos) 1 it (.ref D) env) R s := by
  refine codeAny_loop rfl I (fun n s hI => ?_) n h
  show wpAny _ A ((compTurn (dcx kx vx t0 i0 t1 i1 sc pos) 1 it (.ref D) env).onRaise (fun x => do noteFrame x env; theTreesLotGoes x)) _ _ s
  refine wpAny_noted ?_
  rw [turn_in]
  refine wpAny_bind (wpAny_standAt (wpAny_bind (wpAny_mono (go n s hI) (fun r s1 h1 => ?_) fun _ _ z => z)))
  cases r with
  | none => exact wpAny_pure h1
  | some v =>
    refine wpAny_bind (wpAny_mono h1 (fun _ s2 h2 => ?_) fun _ _ z => z)
    refine wpAny_bind (wpAny_mono h2 (fun _ s3 h3 => ?_) fun _ _ z => z)
    refine wpAny_bind (wpAny_bind (wpAny_mono h3 (fun kv s4 h4 => ?_) fun _ _ z => z))
    refine wpAny_bind (wpAny_holding (wpAny_mono h4 (fun vv s5 h5 => ?_) fun _ _ z => z))
    refine wpAny_bind (wpAny_standAt (wpAny_holding (wpAny_mono h5 (fun _ s6 h6 => ?_) fun _ _ z => z)))
    exact wpAny_pure ⟨rfl, h6⟩
theorem start_in {D : Addr} (h0 : codeAny (model P w) A (.compLoop (dcx kx vx t0 i0 t1 i1 sc pos) 1 it acc env) R s)
    (h : wpAny (model P w) A (pyIter it) (fun jt s' => codeAny (model P w) A (.compLoop (dcx kx vx t0 i0 t1 i1 sc pos) 1 jt acc env) R s') (raised P w A R env) s) :
    codeAny (model P w) A (.compStart (dcx kx vx t0 i0 t1 i1 sc pos) 1 it acc env) R s := by
  refine codeAny_of_tree ?_
  show wpAny _ _ ((compStart (dcx kx vx t0 i0 t1 i1 sc pos) 1 it acc env).onRaise (fun x => do noteFrame x env; standAt theWindowsPlace)) _ _ s
  refine wpAny_notedAt ?_
  unfold compStart
  show wpAny _ _ (ask >>= _) _ _ s
  refine wpAny_bind (wpAny_askSetting (wpAny_ite ?_))
  split
  · first | exact wpAny_bind (wpAny_pure (wpAny_pure (And.intro rfl h0))) | exact wpAny_pure (And.intro rfl h0)
  · refine wpAny_bind (wpAny_rule ?_)
    show wpAny _ _ (standAt i1.pos >>= _) _ _ s
    exact wpAny_bind (wpAny_standAt (wpAny_bind (wpAny_mono h (fun jt s' q => wpAny_pure (And.intro rfl q)) fun _ _ z => z)))
end
section
variable {X : Cx}
/-- the two loops of {k: v for tg in iter for tg1 in iter1}: D the new dict; vs the block's names, vs1 those of the second target -/
def dcLoop (J : It) (g : TG) (wi1 : TI) (g1 : TG) (tk tv : TE) (vs vs1 : List Nat) (σ : L2.St) (D : Addr) (Q : VK) (H1 : Hp) : Prop := ∃ W : Nat → Nat → Hp → Prop, (∃ m, W 0 m (upd H1 D (.dK []))) ∧ ∀ i m H, W i m H →
  (J.stop i H ∧ Q (.ref D) H) ∨ (J.go i H ∧ ∃ Nx : Hp → Prop, (∀ H', Nx H' → ∃ m', m' < m ∧ W (i + 1) m' H') ∧ ∀ x H', J.yld i H x H' → g x (wipe σ vs) H' fun σ2 H2 => wipe σ2 vs = wipe σ vs ∧
    wi1 σ2 H2 fun J1 H3 => ∃ W1 : Nat → Nat → Hp → Prop, (∃ m, W1 0 m H3) ∧ ∀ j k H, W1 j k H →
      (J1.stop j H ∧ Nx H) ∨ (J1.go j H ∧ ∃ Ny : Hp → Prop, (∀ H', Ny H' → ∃ k', k' < k ∧ W1 (j + 1) k' H') ∧ ∀ x H', J1.yld j H x H' → g1 x (wipe σ2 vs1) H' fun σ3 H4 => wipe σ3 vs1 = wipe σ2 vs1 ∧
        tk σ3 H4 fun y H5 => tv σ3 H5 fun z H6 => ∃ kvs key, y = kV key ∧ H6 D = some (.dK kvs) ∧ kvs.length < sizeLine ∧ Ny (upd H6 D (.dK (putK kvs key z)))))
def tDc2 (wi : TI) (g : TG) (wi1 : TI) (g1 : TG) (tk tv : TE) (vs vs1 : List Nat) : TE := fun σ H Q => wi σ H fun J H1 => ∀ D, H1 D = none → dcLoop J g wi1 g1 tk tv vs vs1 σ D Q H1
theorem pe_dc2 {kx vx tg iter tg1 iter1 : Expr} {sc : Scope} {own : List (Str × Nat)} {vs1 : List Nat} {pos : Pos} {wi wi1 : TI} {g g1 : TG} {tk tv : TE}
    (hc : X.calm = true) (hN : X.N.Nodup) (hi : PI X tg iter wi) (ok : BlkOk X.N X.env.scope sc own) (hv : ∀ i ∈ vs1, i ∈ own.map (·.2))
    (hg : ∀ (s : Shared) (H : Hp) (C : Addr) (cl : List (Str × Addr)) (fp : List Addr), PG (X.blk s H sc (compEnvC sc cl C X.env) fp) tg g) (hi1 : ∀ (s : Shared) (H : Hp) (C : Addr) (cl : List (Str × Addr)) (fp : List Addr), PI (X.blk s H sc (compEnvC sc cl C X.env) fp) tg1 iter1 wi1) (hg1 : ∀ (s : Shared) (H : Hp) (C : Addr) (cl : List (Str × Addr)) (fp : List Addr), PG (X.blk s H sc (compEnvC sc cl C X.env) fp) tg1 g1) (hk : ∀ (s : Shared) (H : Hp) (C : Addr) (cl : List (Str × Addr)) (fp : List Addr), PE (X.blk s H sc (compEnvC sc cl C X.env) fp) kx tk) (he : ∀ (s : Shared) (H : Hp) (C : Addr) (cl : List (Str × Addr)) (fp : List Addr), PE (X.blk s H sc (compEnvC sc cl C X.env) fp) vx tv)
    (hs : ∀ x, foldedSetIterable iter X.env x = pure x := by intro _; rfl) (hs1 : ∀ env x, foldedSetIterable iter1 env x = pure x := by intro _ _; rfl) :
    PE X (dcx kx vx tg iter tg1 iter1 sc pos) (tDc2 wi g wi1 g1 tk tv (own.map (·.2)) vs1) := by
  refine ⟨fun pins s σ H Q I h => ?_⟩
  rw [arm_eval_DictComp]
  have hfree : ∀ y ∈ sc.names, y.2 = .free → ∃ c, X.env.cells.lookup y.1 = some c := fun y hy e => by
    rcases ok.free y hy e with k | k
    · exact I.ok.has _ (.inl k)
    · exact I.ok.has _ (.inr k)
  refine wpAny_comprehension_free (use := none) rfl hs (closure_ok hfree) ok.kind (fun y hy e => by rw [ok.uniq y hy, e])
    (thn (hi.run pins s σ H _ I h) fun xv s1 hx => thn hx fun itv s2 h2 => ?_)
  obtain ⟨it, fp, tn, J, H2, e, I2, T, st2, f2, q⟩ := h2
  subst e
  refine wpAny_newObj_type (newEnv_comp ?_)
  generalize hD : s2.heap.objs.size = D
  obtain ⟨W, ⟨m0, w0⟩, turn⟩ := q D (I2.hok.fresh (Nat.le_of_eq hD))
  generalize hs3 : ({ s2 with heap := s2.heap.push { cls := .type "dict", data := .dict #[] } } : Shared) = s3
  have I3 : Inv X pins σ (upd H2 D (.dK [])) s3 := by
    rw [← hs3]
    refine I2.laid (t' := s2.toks) (fun b o e => Heap.get?_push_of_some _ e) (Nat.le_of_eq hD) ?_
    rw [← hD]
    exact dk_empty s2.heap I2.big
  have h3 : s3.heap = s2.heap.push { cls := .type "dict", data := .dict #[] } := by rw [← hs3]
  have f3 : ∀ b ∈ fp, FpOk X pins (upd H2 D (.dK [])) b ∧ b < s3.heap.objs.size := fun b hb => by
    obtain ⟨o, e, _⟩ := T.obj _ _ st2 b hb
    have hlt := Heap.lt_size e
    refine ⟨⟨?_, (f2 b hb).2⟩, by rw [h3, Heap.size_push]; exact Nat.lt_succ_of_lt hlt⟩
    rw [upd_ne (by rw [← hD]; exact Nat.ne_of_lt hlt)]
    exact (f2 b hb).1
  have st3 : tn 0 s3.heap := T.keep _ _ _ st2 fun b _ o e => by rw [h3]; exact Heap.get?_push_of_some _ e
  have I4 := block_start I3 ok hN f3
  generalize hcl : cellsFrom (s3.heap.objs.size + 1) sc.names (cloFrom X.env.cells sc.names []) = cl at I4
  have pg := hg s3 (upd H2 D (.dK [])) s3.heap.objs.size cl fp
  have pk := hk s3 (upd H2 D (.dK [])) s3.heap.objs.size cl fp
  have pe := he s3 (upd H2 D (.dK [])) s3.heap.objs.size cl fp
  have pi1 := hi1 s3 (upd H2 D (.dK [])) s3.heap.objs.size cl fp
  have pg1 := hg1 s3 (upd H2 D (.dK [])) s3.heap.objs.size cl fp
  show codeAny _ _ (.compStart (dcx kx vx tg iter tg1 iter1 sc pos) 0 (.ref it) (.ref D) (compEnvC sc cl s3.heap.objs.size X.env)) (compPost (model X.prog X.w) X.A X.xe none (EP X pins σ Q) (.ref D) s3.heap.objs.size) { s3 with heap := pushCells (s3.heap.push { cls := .type "dict", data := .dict #[] }) sc.names }
  have nfp : ∀ b ∈ fp, (upd H2 D (.dK [])) b = none := fun b hb => (f3 b hb).1.1
  generalize hce : compEnvC sc cl s3.heap.objs.size X.env = ce at I4 pg pk pe pi1 pg1 ⊢
  have cL : ce.locals = s3.heap.objs.size := by subst hce; rfl
  generalize hH3 : upd H2 D (.dK []) = H3 at I3 I4 pg pk pe pi1 pg1 w0 nfp f3
  generalize hs4 : ({ s3 with heap := pushCells (s3.heap.push { cls := .type "dict", data := .dict #[] }) sc.names } : Shared) = s4 at I4 ⊢
  have st4 : tn 0 s4.heap := T.keep _ _ _ st3 fun b _ o e => by rw [← hs4]; exact pushCells_keeps _ _ _ _ (Heap.get?_push_of_some _ e)
  -- the block's own context
  generalize hY : X.blk s3 H3 sc ce fp = Y at I4 pg pk pe pi1 pg1
  have yx : Y.ex = fp := by rw [← hY]
  have yn : Y.pn = [] := by rw [← hY]
  have yp : Y.prog = X.prog := by rw [← hY]
  have yw : Y.w = X.w := by rw [← hY]
  have yK : Y.K = X.K := by rw [← hY]
  have yA : Y.A = X.A := by rw [← hY]
  have ye : Y.env = ce := by rw [← hY]
  have yxe : Y.xe = fun _ _ => False := by rw [← hY]
  have yc : Y.calm = true := by rw [← hY]; exact hc
  have stat : ∀ {σ' : L2.St} {H' : Hp} {s' : Shared}, Inv Y [] σ' H' s' → (∀ b ∈ fp, H' b = none) → ∀ b ∈ fp, FpOk Y [] H' b := fun {σ' H' s'} J' hn b hb => by
    have hb' : b ∈ Y.ex := by rw [yx]; exact hb
    exact ⟨hn b hb, (J'.ok.exf b hb').1, J'.ok.exfs b hb', .inl hb', fun x c e => (J'.ok.exf b hb').2 x c e, fun p hp => by rw [yn] at hp; exact nomatch hp⟩
  have runF : ∀ {α : Type} {t : Sem α} {Q1 : α → Shared → Prop} {E1 : Value → Shared → Prop} {s0 : Shared}, wpAny (model Y.prog Y.w) Y.A t Q1 Y.xe s0 → wpAny (model X.prog X.w) X.A t Q1 E1 s0 := fun {α t Q1 E1 s0} z => by
    rw [yp, yw, yA, yxe] at z
    exact thnF z fun _ _ q => q
  have runG : ∀ {α : Type} {t : Sem α} {Q1 : α → Shared → Prop} {E1 : Value → Shared → Prop} {s0 : Shared}, wpAny (model X.prog X.w) Y.A t Q1 (fun _ _ => False) s0 → wpAny (model X.prog X.w) X.A t Q1 E1 s0 := fun {α t Q1 E1 s0} z => by
    rw [yA] at z
    exact thnF z fun _ _ q => q
  have loop : codeAny (model X.prog X.w) X.A (.compLoop (dcx kx vx tg iter tg1 iter1 sc pos) 0 (.ref it) (.ref D) ce) (compPost (model X.prog X.w) X.A X.xe none (EP X pins σ Q) (.ref D) s3.heap.objs.size) s4 := by
    refine loop_out (hs1 ce) (fun n s' => ∃ i H', Inv Y [] (wipe σ (own.map (·.2))) H' s' ∧ tn i s'.heap ∧ (∀ b ∈ fp, H' b = none) ∧ W i n H') ?_ m0 ⟨0, H3, I4, st4, nfp, w0⟩
    rintro n s5 ⟨i, H5, I5, st5, n5, w5⟩
    rcases turn i n H5 w5 with ⟨stop, qq⟩ | ⟨go, Nx, hNx, step⟩
    · refine thn (runG (T.done Y yp yw yK yc i [] s5 _ H5 (fun _ _ => False) I5 (stat I5 n5) st5 stop)) fun r s6 ⟨hr, I6⟩ => ?_
      subst hr
      have J6 : Inv (X.blk s3 H3 sc ce fp) [] (wipe σ (own.map (·.2))) H5 s6 := by rw [hY]; exact I6
      have I7 : Inv X pins σ H5 s6 := I3.call' (ch := fp) J6.os J6.base J6.hok J6.bare fun b hb => ⟨(f3 b hb).1.2.2.2.1, (f3 b hb).1.2.1, (f3 b hb).1.2.2.2.2.1, (f3 b hb).1.2.2.2.2.2⟩
      have nC : H5 s3.heap.objs.size = none := by
        have z : H5 ce.locals = none := J6.free
        rw [cL] at z
        exact z
      obtain ⟨m, hn, _⟩ := J6.loc
      have hn : s6.heap.Ns ce.locals m := hn
      rw [cL] at hn
      refine ⟨m, hn, fun h'' sb => ?_⟩
      obtain ⟨g0, g1', _, g3, g4, g5⟩ := I3.fpOk (Nat.le_refl _) nC
      exact ⟨.ref D, H5, I7.turned (t' := s6.toks) (fun b o hb e => (sb.2 b hb).trans e) g0 g1' g3 g4 g5, rfl, qq⟩
    · refine thn (runG (T.item Y yp yw yK yc i [] s5 _ H5 (fun _ _ => False) I5 (stat I5 n5) st5 go)) fun r s6 ⟨u, hr, h6⟩ => ?_
      subst hr
      refine thn (runG h6) fun _ s7 ⟨x, H7, I7, r7, y7, st7, n7⟩ => ?_
      have I7' := I7.pinned (stat I7 n7) (T.obj _ _ st7)
      have zg := pg.run _ s7 _ H7 x u _ I7' r7 (step x H7 y7)
      rw [ye] at zg
      refine thn (runF zg) fun _ s8 ⟨σ8, H8, I8, hw8, q8⟩ => ?_
      -- the outer turn's end, from slots that know what the block knew at its start
      have fin : ∀ {σ9 : L2.St} {s' : Shared} {H' : Hp}, Inv Y ([] ++ pinsAt fp s7.heap) σ9 H' s' → (wipe σ (own.map (·.2))).length = σ9.length → (∀ (j : Nat) v, (wipe σ (own.map (·.2)))[j]? = some (some v) → σ9[j]? = some (some v)) → Nx H' →
          ∃ m, m < n ∧ ∃ i H', Inv Y [] (wipe σ (own.map (·.2))) H' s' ∧ tn i s'.heap ∧ (∀ b ∈ fp, H' b = none) ∧ W i m H' := fun {σ9 s' H'} J' hl hk nx => by
        obtain ⟨m', hm, w'⟩ := hNx H' nx
        have pin' : ∀ b ∈ fp, ∀ o, s7.heap.get? b = some o → s'.heap.get? b = some o ∧ H' b = none := fun b hb o e =>
          let z := J'.pin (b, o) (List.mem_append_right _ (List.mem_append_right _ (mem_pinsAt hb e)))
          ⟨z.1, z.2.1⟩
        refine ⟨m', hm, i + 1, H', (J'.unpinned (pins := [])).weak hl hk, T.keep _ _ _ st7 fun b hb o e => (pin' b hb o e).1, fun b hb => ?_, w'⟩
        obtain ⟨o, e, _⟩ := T.obj _ _ st7 b hb
        exact (pin' b hb o e).2
      have hl8 : (wipe σ (own.map (·.2))).length = σ8.length := by rw [← hw8, wipe_length]
      have hk9 : ∀ (j : Nat) v, (wipe σ (own.map (·.2)))[j]? = some (some v) → (wipe σ8 vs1)[j]? = some (some v) := fun j v e => by
        rw [← hw8] at e
        obtain ⟨e1, e2⟩ := wipe_some e
        rw [wipe_out fun z => e2 (hv j z)]
        exact e1
      have zi := pi1.run _ s8 σ8 H8 _ I8 q8
      rw [ye] at zi
      refine thn (runF zi) fun xv s10 hx => thn (runF hx) fun itv s11 h11 => ?_
      obtain ⟨it1, fp1, tn1, J1, H11, e1, I11, T1, st11, f11, W1, ⟨m1, w1⟩, turn1⟩ := h11
      subst e1
      have T1' : Turn X.prog X.w X.K tg1 J1 fp1 it1 tn1 := by rw [yp, yw, yK] at T1; exact T1
      have stat1 : ∀ {H' : Hp}, (∀ b ∈ fp1, H' b = none) → ∀ b ∈ fp1, FpOk Y ([] ++ pinsAt fp s7.heap) H' b := fun hn b hb => ⟨hn b hb, (f11 b hb).2⟩
      have loop1 : codeAny (model X.prog X.w) X.A (.compLoop (dcx kx vx tg iter tg1 iter1 sc pos) 1 (.ref it1) (.ref D) ce)
          (fun r s' => match r with
            | .ok _ => ∃ m, m < n ∧ ∃ i H', Inv Y [] (wipe σ (own.map (·.2))) H' s' ∧ tn i s'.heap ∧ (∀ b ∈ fp, H' b = none) ∧ W i m H'
            | .error _ => False) s11 := by
        refine loop_in (fun k s' => ∃ j H', Inv Y ([] ++ pinsAt fp s7.heap) (wipe σ8 vs1) H' s' ∧ tn1 j s'.heap ∧ (∀ b ∈ fp1, H' b = none) ∧ W1 j k H') ?_ m1 ⟨0, H11, I11.weak (wipe_length _ _) (fun j v e => (wipe_some e).1), st11, fun b hb => (f11 b hb).1, w1⟩
        rintro k s12 ⟨j, H12, I12, st12, n12, w12⟩
        rcases turn1 j k H12 w12 with ⟨stop1, nx1⟩ | ⟨go1, Ny, hNy, step1⟩
        · refine thn (runG (T1'.done Y yp yw yK yc j _ s12 (wipe σ8 vs1) H12 (fun _ _ => False) I12 (stat1 n12) st12 stop1)) fun r s13 ⟨hr, I13⟩ => ?_
          subst hr
          exact fin I13 (hl8.trans (wipe_length σ8 vs1).symm) hk9 nx1
        · refine thn (runG (T1'.item Y yp yw yK yc j _ s12 (wipe σ8 vs1) H12 (fun _ _ => False) I12 (stat1 n12) st12 go1)) fun r s13 ⟨u1, hr, h13⟩ => ?_
          subst hr
          refine thn (runG h13) fun _ s14 ⟨x1, H14, I14, r14, y14, st14, n14⟩ => ?_
          have I14' := I14.pinned (stat1 n14) (T1'.obj _ _ st14)
          have zg1 := pg1.run _ s14 (wipe σ8 vs1) H14 x1 u1 _ I14' r14 (step1 x1 H14 y14)
          rw [ye] at zg1
          refine thn (runF zg1) fun _ s15 ⟨σ15, H15, I15, hw15, q15⟩ => ?_
          have zk := pk.run _ s15 σ15 H15 _ I15 q15
          rw [ye] at zk
          refine thn (runF zk) fun z s17 ⟨yk, H17, I17, r17, q17⟩ => ?_
          have ze := pe.run _ s17 σ15 H17 _ I17 q17
          rw [ye] at ze
          refine thn (runF ze) fun z2 s18 ⟨yv, H18, I18, r18, kvs, key, ek, hD18, hz18, nx⟩ => ?_
          subst ek
          have put := d_dictSet (E := Y.xe) (Q := fun _ s' => ∃ m, m < k ∧ ∃ j H', Inv Y ([] ++ pinsAt fp s7.heap) (wipe σ8 vs1) H' s' ∧ tn1 j s'.heap ∧ (∀ b ∈ fp1, H' b = none) ∧ W1 j m H') I18 hD18 hz18 r17 r18 fun s19 I19 => ?_
          · exact runF put
          · obtain ⟨m', hm, w'⟩ := hNy _ nx
            have pin' : ∀ b ∈ fp1, ∀ o, s14.heap.get? b = some o → s19.heap.get? b = some o ∧ (upd H18 D (.dK (putK kvs key yv))) b = none := fun b hb o e =>
              let z := I19.pin (b, o) (List.mem_append_right _ (List.mem_append_right _ (mem_pinsAt hb e)))
              ⟨z.1, z.2.1⟩
            refine ⟨m', hm, j + 1, _, I19.unpinned.weak (by rw [← hw15, wipe_length]) (fun j v e => by rw [← hw15] at e; exact (wipe_some e).1), T1'.keep _ _ _ st14 fun b hb o e => (pin' b hb o e).1, fun b hb => ?_, w'⟩
            obtain ⟨o, e, _⟩ := T1'.obj _ _ st14 b hb
            exact (pin' b hb o e).2
      exact start_in (D := D) loop1 (T1'.self X.A 0 _ _ _ st11 loop1)
  exact codeAny_compStart_dict loop (T.self X.A 0 _ _ _ st4 loop)
end
end K5
set_option Elab.async false
set_option linter.all false
set_option maxRecDepth 100000
set_option maxHeartbeats 4000000
/-! Rules that the layer lacks: a star in a display; == of dicts whose keys are tuples. -/
namespace K5
open PySem PySem.Spec PyProof.Rows L2
section
variable {X : Cx}
def tStar (K : PySem.W.Frag) (te : TE) (t : TA) : TA := fun σ H Q => te σ H fun x H1 => ∃ a xs, x = .ref a ∧ (SqL K H1 a xs ∨ SqT K H1 a xs) ∧ t σ H1 fun ys H2 => Q (xs ++ ys) H2
theorem pa_star {e : Expr} {p : Pos} {es : List Expr} {te : TE} {t : TA} (ha : PE X e te) (hr : PA X es t) (hst : starEach (.Starred e p :: es) X.env = (true, eval e X.env) :: starEach es X.env := by rfl) :
    PA X (.Starred e p :: es) (tStar X.K te t) := by
  refine ⟨fun pos pins s σ H Q I h => ?_⟩
  refine PySem.W.items_star (thn (ha.run pins s σ H _ I h) fun v s1 ⟨x, H1, I1, r1, a, xs, ex, hq, q⟩ => ?_) hst
  subst ex
  cases r1
  have fin : ∀ (its : List Value) (h' : Heap), Vals xs its → (∀ b o, s1.heap.get? b = some o → h'.get? b = some o) →
      wpAny (model X.prog X.w) X.A (spliced (backTo pos (starEach es X.env))) (fun vs s3 => AP X pins σ Q (its ++ vs) s3) X.xe { s1 with heap := h' } := fun its h' rv kp =>
    thn (hr.run pos pins _ σ H1 _ (I1.kept (t' := s1.toks) kp) q) fun us s3 ⟨ys, H2, I2, r2, q2⟩ => ⟨xs ++ ys, H2, I2, rv.append r2, q2⟩
  unfold PySem.W.StarOf notIterableAtAll
  rcases hq with hq | hq
  · obtain ⟨its, rv, pl, hz⟩ := I1.list hq
    have hlen := rv.length
    obtain ⟨o, n, e, c, d, hs⟩ := pl
    refine wpAny_bind (wpAny_specialOf ⟨o, e, c⟩ PySem.F.slot_list_iter.lookup (wpAny_pure ⟨rfl, ?_⟩))
    exact wpAny_collect_seq a (.inl rfl) e c hs (fun h' kp => fin its h' rv kp) (by simp only [List.size_toArray] <;> omega)
  · obtain ⟨its, rv, pl, hz⟩ := I1.tuple hq
    have hlen := rv.length
    obtain ⟨o, e, c, n, hs⟩ := pl
    refine wpAny_bind (wpAny_specialOf ⟨o, e, c⟩ PySem.F.slot_tuple_iter.lookup (wpAny_pure ⟨rfl, ?_⟩))
    exact wpAny_collect_seq a (.inr rfl) e c hs (fun h' kp => fin its h' rv kp) (by simp only [List.size_toArray] <;> omega)
end
section
variable {P : Program} {w : World} {κ : Type} [DecidableEq κ] {knd : HeapKind P w κ} {A : Around} {E : Value → Shared → Prop} {s : Shared}
theorem pairs_same {nm : String} {a b : Addr} {xa xb : List (κ × Addr × Value)} {Q : Bool → Shared → Prop} (ha : (a == sysModules) = false) (hb : (b == sysModules) = false)
    (da : s.heap.DictOfH knd a xa) (db : s.heap.DictOfH knd b xb) (hu : knd.room A) (hl : xa.length = xb.length) (hits : ∀ x ∈ xa, ∀ (j : Nat) (p : Addr × Value), xb[j]? = some (x.1, p) → SeqAt.EqAt A s x.2.2 p.2 true)
    (there : ∀ x ∈ xa, ∃ (j : Nat) (p : Addr × Value), xb[j]? = some (x.1, p)) (h : Q true s) : wpAny (model P w) A (Builtin.Dict.samePairs nm a b) Q E s := by
  obtain ⟨oa, es, ep, hoa, _, hda, hea, hia, hna⟩ := da
  obtain ⟨ob, es', ep', hob, _, hdb, heb, hib, hnb⟩ := db
  have hla : es.size = xa.length := by rw [← Array.length_toList, hea, List.length_map]
  have hlb : es'.size = xb.length := by rw [← Array.length_toList, heb, List.length_map]
  have hsz : es.size = es'.size := by rw [hla, hlb, hl]
  unfold Builtin.Dict.samePairs Builtin.Dict.showsAll
  rw [if_neg (show ¬ (a == sysModules) = true by rw [ha]; exact Bool.false_ne_true), if_neg (show ¬ (b == sysModules) = true by rw [hb]; exact Bool.false_ne_true)]
  refine wpAny_bind (wpAny_pure (wpAny_bind (wpAny_pure ?_)))
  refine wpAny_bind (wpAny_dictEntries hoa hda ?_)
  dsimp only
  refine wpAny_bind (wpAny_dictEntries hob hdb ?_)
  rw [if_neg (by rw [hsz]; simp)]
  refine wpAny_bind (wpAny_dictEpoch hoa hda ?_)
  refine wpAny_bind ?_
  rw [Std.Legacy.Range.forIn_eq_forIn_range']
  simp only [Std.Legacy.Range.size, Nat.sub_zero, Nat.add_sub_cancel, Nat.div_one]
  refine wpAny_forIn_list _ (fun rest q s' => s' = s ∧ q = (none, ()) ∧ ∃ i, rest = List.range' i (es.size - i) ∧ i ≤ es.size) _ ?_ ?_ _ _ ⟨rfl, rfl, 0, by simp, Nat.zero_le _⟩
  · rintro x rest q s' ⟨rfl, rfl, i, hr, hi⟩
    have hlt : i < es.size := by
      rcases Nat.lt_or_ge i es.size with z | z
      · exact z
      · rw [Nat.sub_eq_zero_of_le z] at hr; simp at hr
    obtain ⟨rfl, hrest⟩ : x = i ∧ rest = List.range' (i + 1) (es.size - (i + 1)) := by
      have e : es.size - i = (es.size - (i + 1)) + 1 := by omega
      rw [e, List.range'_succ] at hr
      injection hr with h1 h2
      exact ⟨h1, h2⟩
    refine wpAny_bind (wpAny_dictEntries hoa hda ?_)
    rw [Array.getElem?_eq_getElem hlt]
    have hx : x < xa.length := by rw [← hla]; exact hlt
    have hent : es[x] = entryOfKey knd xa[x] := by
      have e1 : es.toList[x]? = some es[x] := by rw [Array.getElem?_toList]; exact Array.getElem?_eq_getElem hlt
      rw [hea, List.getElem?_map, List.getElem?_eq_getElem hx] at e1
      exact (Option.some.inj e1).symm
    have hmem : xa[x] ∈ xa := List.getElem_mem hx
    show wpAny _ _ (holding [es[x].key, es[x].val] _ >>= _) _ _ _
    rw [hent]
    have k1 : (entryOfKey knd xa[x]).key = .ref xa[x].2.1 := rfl
    have k2 : (entryOfKey knd xa[x]).hash = knd.hash xa[x].1 := rfl
    have k3 : (entryOfKey knd xa[x]).val = xa[x].2.2 := rfl
    rw [k1, k2, k3]
    refine wpAny_bind (wpAny_holding (wpAny_bind (wpAny_dictFind_heap hu (hia _ hmem) hob hdb heb hib hnb (fun no => ?_) fun j p hj => ?_)))
    · obtain ⟨j, p, hj⟩ := there _ hmem
      exact absurd hj (no j p)
    · have hjlt : j < es'.size := by rw [hlb]; exact (List.getElem?_eq_some_iff.mp hj).1
      have hv : es'[j].val = p.2 := by
        have e1 : es'.toList[j]? = some es'[j] := by rw [Array.getElem?_toList]; exact Array.getElem?_eq_getElem hjlt
        rw [heb, List.getElem?_map, hj] at e1
        rw [← Option.some.inj e1]
        rfl
      refine wpAny_bind (wpAny_dictEntries hob hdb ?_)
      rw [Array.getElem?_eq_getElem hjlt]
      have he := hits _ hmem j p hj
      rw [← hv] at he
      refine wpAny_holding (he P w _ _ ?_)
      show wpAny _ _ (if (!true) = true then _ else _) _ _ _
      rw [if_neg (by decide)]
      refine wpAny_bind (wpAny_dictEpoch hoa hda ?_)
      rw [if_neg (by simp)]
      exact wpAny_pure ⟨rfl, rfl, x + 1, hrest, hlt⟩
  · rintro q s' ⟨rfl, rfl, i, hr, hi⟩
    exact wpAny_pure h
theorem eq_dictH {a b : Addr} {xa xb : List (κ × Addr × Value)} {Q : Value → Shared → Prop} (ha : (a == sysModules) = false) (hb : (b == sysModules) = false)
    (da : s.heap.DictOfH knd a xa) (db : s.heap.DictOfH knd b xb) (hu : A.units < cLine) (hr : knd.room A.in1) (hl : xa.length = xb.length)
    (hits : ∀ x ∈ xa, ∀ (j : Nat) (p : Addr × Value), xb[j]? = some (x.1, p) → SeqAt.EqAt A.in1 s x.2.2 p.2 true) (there : ∀ x ∈ xa, ∃ (j : Nat) (p : Addr × Value), xb[j]? = some (x.1, p)) (h : Q (.bool true) s) :
    wpAny (model P w) A (compareOp .Eq (.ref a) (.ref b)) Q E s := by
  refine wpAny_richCompare_same_room (op := .Eq) da.typeIs db.typeIs PySem.F.slot_dict_eq (wpAny_call_entry PySem.F.slot_dict_eq da.typeIs PySem.F.entry_dict_eq ?_ (PySem.F.args_dict_eq_2 _ _)) hu
  show wpAny _ _ (Builtin.Dict.dictSlotArgs "__eq__" ⟨[.ref a, .ref b], []⟩ >>= _) _ _ s
  refine wpAny_bind ?_
  unfold Builtin.Dict.dictSlotArgs
  refine wpAny_bind (wpAny_notOrdered_dict da.typeIs ?_)
  show wpAny _ _ (pure (Value.ref a, Value.ref b)) _ _ s
  refine wpAny_pure ?_
  refine wpAny_bind (wpAny_isInstance (T := "dict") db.typeIs PySem.F.sub_dict_dict ?_)
  simp only [Bool.not_true, Bool.false_eq_true, if_false]
  refine wpAny_bind (wpAny_pure (wpAny_bind (wpAny_pure ?_)))
  refine wpAny_bind (pairs_same ha hb da db hr hl hits there ?_)
  exact wpAny_pure ⟨_, rfl, (fun z => nomatch z), h⟩
end
section
variable {X : Cx}
/-- two dicts with tuple keys and ints as values that hold the same -/
def rEqDT : R2 := fun x y H Q => ∃ a b ks ls, x = .ref a ∧ y = .ref b ∧ H a = some (.dT ks) ∧ H b = some (.dT ls) ∧ ks.length = ls.length ∧ (∀ p ∈ ks, valV ls p.1 = some p.2 ∧ ∃ i, p.2 = .int i) ∧ Q (.bl true) H
theorem kt_at {H : Hp} : ∀ {ks : List (List Key × V)} {xs : List (List Key × Addr × Value)}, KT H ks xs → ∀ x ∈ xs, ∃ p ∈ ks, p.1 = x.1 ∧ RelV p.2 x.2.2
  | _, _, .nil, x, hx => nomatch hx
  | _, _, .cons r t, x, hx => by
    rcases List.mem_cons.mp hx with e | hx
    · subst e; exact ⟨_, List.mem_cons_self, r.1, r.2.2⟩
    · obtain ⟨p, hp, q⟩ := kt_at t x hx
      exact ⟨p, List.mem_cons_of_mem _ hp, q⟩
theorem kt_get {H : Hp} : ∀ {ks : List (List Key × V)} {xs : List (List Key × Addr × Value)} {k : List Key} {v : V}, KT H ks xs → valV ks k = some v → ∃ (j : Nat) (p : Addr × Value), xs[j]? = some (k, p)
  | _, _, k, v, .nil, h => by cases h
  | (k1, v1) :: ks, (k2, q) :: xs, k, v, .cons r t, h => by
    by_cases e : k1 = k
    · subst e
      have e1 : k1 = k2 := r.1
      exact ⟨0, q, by rw [List.getElem?_cons_zero, e1]⟩
    · have h' : valV ks k = some v := by
        unfold valV at h ⊢
        simpa [List.find?_cons, e] using h
      obtain ⟨j, p, hj⟩ := kt_get t h'
      exact ⟨j + 1, p, by rw [List.getElem?_cons_succ]; exact hj⟩
theorem op_eq_dictT (hu : X.A.units + 1 < cLine) : OpR X (compareOp .Eq) rEqDT := by
  intro pins s σ H x y v u Q I rx ry h
  obtain ⟨a, b, ks, ls, rfl, rfl, ea, eb, hlen, hp, q⟩ := h
  obtain rfl : v = Value.ref a := rx
  obtain rfl : u = Value.ref b := ry
  obtain ⟨_, ya, xa, ra, da⟩ := dt_of I.hok ea
  obtain ⟨_, yb, xb, rb, db⟩ := dt_of I.hok eb
  have hl : xa.length = xb.length := by rw [← Paired.length ra, ← Paired.length rb]; exact hlen
  obtain ⟨_, _, _, _, _, _, _, _, nb⟩ := id db
  refine eq_dictH ya yb da db (Nat.lt_of_succ_lt hu) (tupleKind_room_in1 hu) hl (fun x hx j p hj => ?_) (fun x hx => ?_) (fin_bl I q rfl)
  · obtain ⟨p1, hp1, e1, r1⟩ := kt_at ra x hx
    obtain ⟨hv, i, hi⟩ := hp p1 hp1
    have e2 := rb.val p1.1
    rw [hv, e1, atKey_of_get nb hj] at e2
    rw [hi] at r1 e2
    obtain ⟨t, ht⟩ := r1
    obtain ⟨t', ht'⟩ := e2
    have ht2 : p.2 = Value.int i t' := ht'
    rw [ht, ht2]
    have z := SeqAt.EqAt.int_int (A := X.A.in1) (s := s) i t i t'
    rwa [beq_self_eq_true] at z
  · obtain ⟨p1, hp1, e1, _⟩ := kt_at ra x hx
    obtain ⟨j, p, hj⟩ := kt_get rb (hp p1 hp1).1
    exact ⟨j, p, by rw [← e1]; exact hj⟩
end
end K5
set_option Elab.async false
set_option linter.all false
set_option maxRecDepth 100000
set_option maxHeartbeats 4000000
/-! The text by places; what the top has written. -/
namespace K5
open PySem L2
def top (i : Nat) : Stmt := PySem.Challenge.pw_schemebound_k05_whole_text_and_back.main.body.getD i (.Pass ⟨0, 0, 0, 0⟩)
abbrev s_require : Stmt := top 14
abbrev n_require : List Str := ["holds"]
abbrev p_require : List Str := ["holds"]
theorem sc_require : FnScope n_require p_require (defScope s_require) := ⟨rfl, rfl, rfl, by decide +kernel, rfl, by decide +kernel, by decide +kernel⟩
abbrev s_choose : Stmt := top 15
abbrev n_choose : List Str := ["n", "k", "found", "step"]
abbrev p_choose : List Str := ["n", "k"]
theorem sc_choose : FnScope n_choose p_choose (defScope s_choose) := ⟨rfl, rfl, rfl, by decide +kernel, rfl, by decide +kernel, by decide +kernel⟩
abbrev s_power_of : Stmt := top 16
abbrev n_power_of : List Str := ["base", "many", "found", "_"]
abbrev p_power_of : List Str := ["base", "many"]
theorem sc_power_of : FnScope n_power_of p_power_of (defScope s_power_of) := ⟨rfl, rfl, rfl, by decide +kernel, rfl, by decide +kernel, by decide +kernel⟩
abbrev s_ways_of : Stmt := top 17
abbrev n_ways_of : List Str := ["rows", "x", "y", "found", "first", "second"]
abbrev p_ways_of : List Str := ["rows", "x", "y"]
theorem sc_ways_of : FnScope n_ways_of p_ways_of (defScope s_ways_of) := ⟨rfl, rfl, rfl, by decide +kernel, rfl, by decide +kernel, by decide +kernel⟩
abbrev s_checked_rows : Stmt := top 18
abbrev n_checked_rows : List Str := ["rows", "count", "kept", "kinds", "ways", "x", "y", "kind", "told", "row"]
abbrev p_checked_rows : List Str := ["rows"]
theorem sc_checked_rows : FnScope n_checked_rows p_checked_rows (defScope s_checked_rows) := ⟨rfl, rfl, rfl, by decide +kernel, rfl, by decide +kernel, by decide +kernel⟩
abbrev s_checked_part : Stmt := top 19
abbrev n_checked_part : List Str := ["tree", "depth", "one", "parts", "points", "kinds", "other", "more", "many", "sorts", "rows", "_", "n", "k"]
abbrev p_checked_part : List Str := ["tree", "depth"]
theorem sc_checked_part : FnScope n_checked_part p_checked_part (defScope s_checked_part) := ⟨rfl, rfl, rfl, by decide +kernel, rfl, by decide +kernel, by decide +kernel⟩
abbrev s_checked : Stmt := top 20
abbrev n_checked : List Str := ["tree"]
abbrev p_checked : List Str := ["tree"]
theorem sc_checked : FnScope n_checked p_checked (defScope s_checked) := ⟨rfl, rfl, rfl, by decide +kernel, rfl, by decide +kernel, by decide +kernel⟩
abbrev s_line_of : Stmt := top 26
abbrev n_line_of : List Str := ["word", "numbers", "number"]
abbrev p_line_of : List Str := ["word", "numbers"]
theorem sc_line_of : FnScope n_line_of p_line_of (defScope s_line_of) := ⟨rfl, rfl, rfl, by decide +kernel, rfl, by decide +kernel, by decide +kernel⟩
abbrev s_lines_of : Stmt := top 27
abbrev n_lines_of : List Str := ["tree", "row"]
abbrev p_lines_of : List Str := ["tree"]
theorem sc_lines_of : FnScope n_lines_of p_lines_of (defScope s_lines_of) := ⟨rfl, rfl, rfl, by decide +kernel, rfl, by decide +kernel, by decide +kernel⟩
abbrev s_format_scheme : Stmt := top 28
abbrev n_format_scheme : List Str := ["tree"]
abbrev p_format_scheme : List Str := ["tree"]
theorem sc_format_scheme : FnScope n_format_scheme p_format_scheme (defScope s_format_scheme) := ⟨rfl, rfl, rfl, by decide +kernel, rfl, by decide +kernel, by decide +kernel⟩
abbrev s_is_number : Stmt := top 29
abbrev n_is_number : List Str := ["word", "char"]
abbrev p_is_number : List Str := ["word"]
theorem sc_is_number : FnScope n_is_number p_is_number (defScope s_is_number) := ⟨rfl, rfl, rfl, by decide +kernel, rfl, by decide +kernel, by decide +kernel⟩
abbrev s_are_numbers : Stmt := top 30
abbrev n_are_numbers : List Str := ["words", "word"]
abbrev p_are_numbers : List Str := ["words"]
theorem sc_are_numbers : FnScope n_are_numbers p_are_numbers (defScope s_are_numbers) := ⟨rfl, rfl, rfl, by decide +kernel, rfl, by decide +kernel, by decide +kernel⟩
abbrev s_is_head : Stmt := top 31
abbrev n_is_head : List Str := ["words"]
abbrev p_is_head : List Str := ["words"]
theorem sc_is_head : FnScope n_is_head p_is_head (defScope s_is_head) := ⟨rfl, rfl, rfl, by decide +kernel, rfl, by decide +kernel, by decide +kernel⟩
abbrev s_is_row : Stmt := top 32
abbrev n_is_row : List Str := ["words"]
abbrev p_is_row : List Str := ["words"]
theorem sc_is_row : FnScope n_is_row p_is_row (defScope s_is_row) := ⟨rfl, rfl, rfl, by decide +kernel, rfl, by decide +kernel, by decide +kernel⟩
abbrev s_numbers_of : Stmt := top 33
abbrev n_numbers_of : List Str := ["words", "word"]
abbrev p_numbers_of : List Str := ["words"]
theorem sc_numbers_of : FnScope n_numbers_of p_numbers_of (defScope s_numbers_of) := ⟨rfl, rfl, rfl, by decide +kernel, rfl, by decide +kernel, by decide +kernel⟩
abbrev s_rows_from : Stmt := top 34
abbrev n_rows_from : List Str := ["lines", "at", "found"]
abbrev p_rows_from : List Str := ["lines", "at"]
theorem sc_rows_from : FnScope n_rows_from p_rows_from (defScope s_rows_from) := ⟨rfl, rfl, rfl, by decide +kernel, rfl, by decide +kernel, by decide +kernel⟩
abbrev s_joined : Stmt := top 35
abbrev n_joined : List Str := ["waiting", "part"]
abbrev p_joined : List Str := ["waiting", "part"]
theorem sc_joined : FnScope n_joined p_joined (defScope s_joined) := ⟨rfl, rfl, rfl, by decide +kernel, rfl, by decide +kernel, by decide +kernel⟩
abbrev s_parse_scheme : Stmt := top 36
abbrev n_parse_scheme : List Str := ["text", "lines", "at", "tree", "waiting", "counted", "word", "numbers", "part", "rows", "line"]
abbrev p_parse_scheme : List Str := ["text"]
theorem sc_parse_scheme : FnScope n_parse_scheme p_parse_scheme (defScope s_parse_scheme) := ⟨rfl, rfl, rfl, by decide +kernel, rfl, by decide +kernel, by decide +kernel⟩
abbrev s_Lrow : Stmt := top 38
abbrev n_Lrow : List Str := ["_law_cell", "_law_many_here", "_law_row_here", "_law_rest", "_law_mixed", "_law_k"]
abbrev p_Lrow : List Str := ["_law_cell", "_law_many_here"]
theorem sc_Lrow : FnScope n_Lrow p_Lrow (defScope s_Lrow) := ⟨rfl, rfl, rfl, by decide +kernel, rfl, by decide +kernel, by decide +kernel⟩
abbrev s_Lnumbers : Stmt := top 39
abbrev n_Lnumbers : List Str := ["_law_script", "_law_many_here", "_law_cells", "_law_each", "_law_numbers_here", "_law_cell", "_law_number"]
abbrev p_Lnumbers : List Str := ["_law_script", "_law_many_here"]
theorem sc_Lnumbers : FnScope n_Lnumbers p_Lnumbers (defScope s_Lnumbers) := ⟨rfl, rfl, rfl, by decide +kernel, rfl, by decide +kernel, by decide +kernel⟩
abbrev s_Lsets : Stmt := top 40
abbrev n_Lsets : List Str := ["_law_n", "_law_k", "_law_found", "_law_turn", "_law_longer", "_law_one", "_law_r"]
abbrev p_Lsets : List Str := ["_law_n", "_law_k"]
theorem sc_Lsets : FnScope n_Lsets p_Lsets (defScope s_Lsets) := ⟨rfl, rfl, rfl, by decide +kernel, rfl, by decide +kernel, by decide +kernel⟩
abbrev s_Lrows : Stmt := top 41
abbrev n_Lrows : List Str := ["_law_number", "_law_which", "_law_pairs", "_law_r", "_law_one", "_law_c", "_law_other", "_law_x"]
abbrev p_Lrows : List Str := ["_law_number"]
theorem sc_Lrows : FnScope n_Lrows p_Lrows (defScope s_Lrows) := ⟨rfl, rfl, rfl, by decide +kernel, rfl, by decide +kernel, by decide +kernel⟩
abbrev s_Llisted : Stmt := top 42
abbrev n_Llisted : List Str := ["_law_numbers_here", "_law_at", "_law_rows_here", "_law_left", "_law_names", "_law_k", "_law_r", "_law_c"]
abbrev p_Llisted : List Str := ["_law_numbers_here", "_law_at"]
theorem sc_Llisted : FnScope n_Llisted p_Llisted (defScope s_Llisted) := ⟨rfl, rfl, rfl, by decide +kernel, rfl, by decide +kernel, by decide +kernel⟩
abbrev s_Lleaf : Stmt := top 43
abbrev n_Lleaf : List Str := ["_law_numbers_here", "_law_at", "_law_sort", "_law_k"]
abbrev p_Lleaf : List Str := ["_law_numbers_here", "_law_at"]
theorem sc_Lleaf : FnScope n_Lleaf p_Lleaf (defScope s_Lleaf) := ⟨rfl, rfl, rfl, by decide +kernel, rfl, by decide +kernel, by decide +kernel⟩
abbrev s_Lpower : Stmt := top 44
abbrev n_Lpower : List Str := ["_law_base", "_law_many_here", "_law_total", "_law_k"]
abbrev p_Lpower : List Str := ["_law_base", "_law_many_here"]
theorem sc_Lpower : FnScope n_Lpower p_Lpower (defScope s_Lpower) := ⟨rfl, rfl, rfl, by decide +kernel, rfl, by decide +kernel, by decide +kernel⟩
abbrev s_Lchoose : Stmt := top 45
abbrev n_Lchoose : List Str := ["_law_n", "_law_k", "_law_total", "_law_j"]
abbrev p_Lchoose : List Str := ["_law_n", "_law_k"]
theorem sc_Lchoose : FnScope n_Lchoose p_Lchoose (defScope s_Lchoose) := ⟨rfl, rfl, rfl, by decide +kernel, rfl, by decide +kernel, by decide +kernel⟩
abbrev s_Lpoints : Stmt := top 46
abbrev n_Lpoints : List Str := ["_law_tree_here"]
abbrev p_Lpoints : List Str := ["_law_tree_here"]
theorem sc_Lpoints : FnScope n_Lpoints p_Lpoints (defScope s_Lpoints) := ⟨rfl, rfl, rfl, by decide +kernel, rfl, by decide +kernel, by decide +kernel⟩
abbrev s_Lkinds : Stmt := top 47
abbrev n_Lkinds : List Str := ["_law_tree_here"]
abbrev p_Lkinds : List Str := ["_law_tree_here"]
theorem sc_Lkinds : FnScope n_Lkinds p_Lkinds (defScope s_Lkinds) := ⟨rfl, rfl, rfl, by decide +kernel, rfl, by decide +kernel, by decide +kernel⟩
abbrev s_Lmany : Stmt := top 48
abbrev n_Lmany : List Str := ["_law_tree_here"]
abbrev p_Lmany : List Str := ["_law_tree_here"]
theorem sc_Lmany : FnScope n_Lmany p_Lmany (defScope s_Lmany) := ⟨rfl, rfl, rfl, by decide +kernel, rfl, by decide +kernel, by decide +kernel⟩
abbrev s_Ltree : Stmt := top 49
abbrev n_Ltree : List Str := ["_law_numbers_here", "_law_at", "_law_tree_here", "_law_k", "_law_leaf_here", "_law_grown"]
abbrev p_Ltree : List Str := ["_law_numbers_here", "_law_at"]
theorem sc_Ltree : FnScope n_Ltree p_Ltree (defScope s_Ltree) := ⟨rfl, rfl, rfl, by decide +kernel, rfl, by decide +kernel, by decide +kernel⟩
abbrev s_Llines : Stmt := top 50
abbrev n_Llines : List Str := ["_law_tree_here", "_law_row_here", "_law_part"]
abbrev p_Llines : List Str := ["_law_tree_here"]
theorem sc_Llines : FnScope n_Llines p_Llines (defScope s_Llines) := ⟨rfl, rfl, rfl, by decide +kernel, rfl, by decide +kernel, by decide +kernel⟩
abbrev s_Lrefused : Stmt := top 51
abbrev n_Lrefused : List Str := ["_law_tree_here", "e"]
abbrev p_Lrefused : List Str := ["_law_tree_here"]
theorem sc_Lrefused : FnScope n_Lrefused p_Lrefused (defScope s_Lrefused) := ⟨rfl, rfl, rfl, by decide +kernel, rfl, by decide +kernel, by decide +kernel⟩
abbrev s_law : Stmt := top 52
abbrev n_law : List Str := ["_law_script", "_law_numbers_here", "_law_tree_here", "_law_text", "_law_actual", "_law_read", "_law_small", "_law_bad"]
abbrev p_law : List Str := ["_law_script"]
theorem sc_law : FnScope n_law p_law (defScope s_law) := ⟨rfl, rfl, rfl, by decide +kernel, rfl, by decide +kernel, by decide +kernel⟩
structure Txt (w : World) (K : PySem.W.Frag) (mg : Str → Option Value) where
  a_require : Addr
  d_require : FuncData
  F_require : Fun K "require" "require" s_require a_require d_require
  b_require : Binds K d_require p_require []
  k_require : PySem.W.keepIn K (.ref a_require) = true
  m_require : mg "require" = some (.ref a_require)
  a_choose : Addr
  d_choose : FuncData
  F_choose : Fun K "choose" "choose" s_choose a_choose d_choose
  b_choose : Binds K d_choose p_choose []
  k_choose : PySem.W.keepIn K (.ref a_choose) = true
  m_choose : mg "choose" = some (.ref a_choose)
  a_power_of : Addr
  d_power_of : FuncData
  F_power_of : Fun K "power_of" "power_of" s_power_of a_power_of d_power_of
  b_power_of : Binds K d_power_of p_power_of []
  k_power_of : PySem.W.keepIn K (.ref a_power_of) = true
  m_power_of : mg "power_of" = some (.ref a_power_of)
  a_ways_of : Addr
  d_ways_of : FuncData
  F_ways_of : Fun K "ways_of" "ways_of" s_ways_of a_ways_of d_ways_of
  b_ways_of : Binds K d_ways_of p_ways_of []
  k_ways_of : PySem.W.keepIn K (.ref a_ways_of) = true
  m_ways_of : mg "ways_of" = some (.ref a_ways_of)
  a_checked_rows : Addr
  d_checked_rows : FuncData
  F_checked_rows : Fun K "checked_rows" "checked_rows" s_checked_rows a_checked_rows d_checked_rows
  b_checked_rows : Binds K d_checked_rows p_checked_rows []
  k_checked_rows : PySem.W.keepIn K (.ref a_checked_rows) = true
  m_checked_rows : mg "checked_rows" = some (.ref a_checked_rows)
  a_checked_part : Addr
  d_checked_part : FuncData
  F_checked_part : FunD K "checked_part" "checked_part" (defArgs s_checked_part) (defBody s_checked_part) (defScope s_checked_part) [.int 1] [] a_checked_part d_checked_part
  b_checked_part : Binds K d_checked_part p_checked_part []
  bd_checked_part : ∃ ds, Vals [.int 1] ds ∧ Binds K d_checked_part p_checked_part ds
  k_checked_part : PySem.W.keepIn K (.ref a_checked_part) = true
  m_checked_part : mg "checked_part" = some (.ref a_checked_part)
  a_checked : Addr
  d_checked : FuncData
  F_checked : Fun K "checked" "checked" s_checked a_checked d_checked
  b_checked : Binds K d_checked p_checked []
  k_checked : PySem.W.keepIn K (.ref a_checked) = true
  m_checked : mg "checked" = some (.ref a_checked)
  a_line_of : Addr
  d_line_of : FuncData
  F_line_of : Fun K "line_of" "line_of" s_line_of a_line_of d_line_of
  b_line_of : Binds K d_line_of p_line_of []
  k_line_of : PySem.W.keepIn K (.ref a_line_of) = true
  m_line_of : mg "line_of" = some (.ref a_line_of)
  a_lines_of : Addr
  d_lines_of : FuncData
  F_lines_of : Fun K "lines_of" "lines_of" s_lines_of a_lines_of d_lines_of
  b_lines_of : Binds K d_lines_of p_lines_of []
  k_lines_of : PySem.W.keepIn K (.ref a_lines_of) = true
  m_lines_of : mg "lines_of" = some (.ref a_lines_of)
  a_format_scheme : Addr
  d_format_scheme : FuncData
  F_format_scheme : Fun K "format_scheme" "format_scheme" s_format_scheme a_format_scheme d_format_scheme
  b_format_scheme : Binds K d_format_scheme p_format_scheme []
  k_format_scheme : PySem.W.keepIn K (.ref a_format_scheme) = true
  m_format_scheme : mg "format_scheme" = some (.ref a_format_scheme)
  a_is_number : Addr
  d_is_number : FuncData
  F_is_number : Fun K "is_number" "is_number" s_is_number a_is_number d_is_number
  b_is_number : Binds K d_is_number p_is_number []
  k_is_number : PySem.W.keepIn K (.ref a_is_number) = true
  m_is_number : mg "is_number" = some (.ref a_is_number)
  a_are_numbers : Addr
  d_are_numbers : FuncData
  F_are_numbers : Fun K "are_numbers" "are_numbers" s_are_numbers a_are_numbers d_are_numbers
  b_are_numbers : Binds K d_are_numbers p_are_numbers []
  k_are_numbers : PySem.W.keepIn K (.ref a_are_numbers) = true
  m_are_numbers : mg "are_numbers" = some (.ref a_are_numbers)
  a_is_head : Addr
  d_is_head : FuncData
  F_is_head : Fun K "is_head" "is_head" s_is_head a_is_head d_is_head
  b_is_head : Binds K d_is_head p_is_head []
  k_is_head : PySem.W.keepIn K (.ref a_is_head) = true
  m_is_head : mg "is_head" = some (.ref a_is_head)
  a_is_row : Addr
  d_is_row : FuncData
  F_is_row : Fun K "is_row" "is_row" s_is_row a_is_row d_is_row
  b_is_row : Binds K d_is_row p_is_row []
  k_is_row : PySem.W.keepIn K (.ref a_is_row) = true
  m_is_row : mg "is_row" = some (.ref a_is_row)
  a_numbers_of : Addr
  d_numbers_of : FuncData
  F_numbers_of : Fun K "numbers_of" "numbers_of" s_numbers_of a_numbers_of d_numbers_of
  b_numbers_of : Binds K d_numbers_of p_numbers_of []
  k_numbers_of : PySem.W.keepIn K (.ref a_numbers_of) = true
  m_numbers_of : mg "numbers_of" = some (.ref a_numbers_of)
  a_rows_from : Addr
  d_rows_from : FuncData
  F_rows_from : Fun K "rows_from" "rows_from" s_rows_from a_rows_from d_rows_from
  b_rows_from : Binds K d_rows_from p_rows_from []
  k_rows_from : PySem.W.keepIn K (.ref a_rows_from) = true
  m_rows_from : mg "rows_from" = some (.ref a_rows_from)
  a_joined : Addr
  d_joined : FuncData
  F_joined : Fun K "joined" "joined" s_joined a_joined d_joined
  b_joined : Binds K d_joined p_joined []
  k_joined : PySem.W.keepIn K (.ref a_joined) = true
  m_joined : mg "joined" = some (.ref a_joined)
  a_parse_scheme : Addr
  d_parse_scheme : FuncData
  F_parse_scheme : Fun K "parse_scheme" "parse_scheme" s_parse_scheme a_parse_scheme d_parse_scheme
  b_parse_scheme : Binds K d_parse_scheme p_parse_scheme []
  k_parse_scheme : PySem.W.keepIn K (.ref a_parse_scheme) = true
  m_parse_scheme : mg "parse_scheme" = some (.ref a_parse_scheme)
  a_Lrow : Addr
  d_Lrow : FuncData
  F_Lrow : Fun K "_law_row" "_law_row" s_Lrow a_Lrow d_Lrow
  b_Lrow : Binds K d_Lrow p_Lrow []
  k_Lrow : PySem.W.keepIn K (.ref a_Lrow) = true
  m_Lrow : mg "_law_row" = some (.ref a_Lrow)
  a_Lnumbers : Addr
  d_Lnumbers : FuncData
  F_Lnumbers : Fun K "_law_numbers" "_law_numbers" s_Lnumbers a_Lnumbers d_Lnumbers
  b_Lnumbers : Binds K d_Lnumbers p_Lnumbers []
  k_Lnumbers : PySem.W.keepIn K (.ref a_Lnumbers) = true
  m_Lnumbers : mg "_law_numbers" = some (.ref a_Lnumbers)
  a_Lsets : Addr
  d_Lsets : FuncData
  F_Lsets : Fun K "_law_sets" "_law_sets" s_Lsets a_Lsets d_Lsets
  b_Lsets : Binds K d_Lsets p_Lsets []
  k_Lsets : PySem.W.keepIn K (.ref a_Lsets) = true
  m_Lsets : mg "_law_sets" = some (.ref a_Lsets)
  a_Lrows : Addr
  d_Lrows : FuncData
  F_Lrows : Fun K "_law_rows" "_law_rows" s_Lrows a_Lrows d_Lrows
  b_Lrows : Binds K d_Lrows p_Lrows []
  k_Lrows : PySem.W.keepIn K (.ref a_Lrows) = true
  m_Lrows : mg "_law_rows" = some (.ref a_Lrows)
  a_Llisted : Addr
  d_Llisted : FuncData
  F_Llisted : Fun K "_law_listed" "_law_listed" s_Llisted a_Llisted d_Llisted
  b_Llisted : Binds K d_Llisted p_Llisted []
  k_Llisted : PySem.W.keepIn K (.ref a_Llisted) = true
  m_Llisted : mg "_law_listed" = some (.ref a_Llisted)
  a_Lleaf : Addr
  d_Lleaf : FuncData
  F_Lleaf : Fun K "_law_leaf" "_law_leaf" s_Lleaf a_Lleaf d_Lleaf
  b_Lleaf : Binds K d_Lleaf p_Lleaf []
  k_Lleaf : PySem.W.keepIn K (.ref a_Lleaf) = true
  m_Lleaf : mg "_law_leaf" = some (.ref a_Lleaf)
  a_Lpower : Addr
  d_Lpower : FuncData
  F_Lpower : Fun K "_law_power" "_law_power" s_Lpower a_Lpower d_Lpower
  b_Lpower : Binds K d_Lpower p_Lpower []
  k_Lpower : PySem.W.keepIn K (.ref a_Lpower) = true
  m_Lpower : mg "_law_power" = some (.ref a_Lpower)
  a_Lchoose : Addr
  d_Lchoose : FuncData
  F_Lchoose : Fun K "_law_choose" "_law_choose" s_Lchoose a_Lchoose d_Lchoose
  b_Lchoose : Binds K d_Lchoose p_Lchoose []
  k_Lchoose : PySem.W.keepIn K (.ref a_Lchoose) = true
  m_Lchoose : mg "_law_choose" = some (.ref a_Lchoose)
  a_Lpoints : Addr
  d_Lpoints : FuncData
  F_Lpoints : Fun K "_law_points" "_law_points" s_Lpoints a_Lpoints d_Lpoints
  b_Lpoints : Binds K d_Lpoints p_Lpoints []
  k_Lpoints : PySem.W.keepIn K (.ref a_Lpoints) = true
  m_Lpoints : mg "_law_points" = some (.ref a_Lpoints)
  a_Lkinds : Addr
  d_Lkinds : FuncData
  F_Lkinds : Fun K "_law_kinds" "_law_kinds" s_Lkinds a_Lkinds d_Lkinds
  b_Lkinds : Binds K d_Lkinds p_Lkinds []
  k_Lkinds : PySem.W.keepIn K (.ref a_Lkinds) = true
  m_Lkinds : mg "_law_kinds" = some (.ref a_Lkinds)
  a_Lmany : Addr
  d_Lmany : FuncData
  F_Lmany : Fun K "_law_many" "_law_many" s_Lmany a_Lmany d_Lmany
  b_Lmany : Binds K d_Lmany p_Lmany []
  k_Lmany : PySem.W.keepIn K (.ref a_Lmany) = true
  m_Lmany : mg "_law_many" = some (.ref a_Lmany)
  a_Ltree : Addr
  d_Ltree : FuncData
  F_Ltree : Fun K "_law_tree" "_law_tree" s_Ltree a_Ltree d_Ltree
  b_Ltree : Binds K d_Ltree p_Ltree []
  k_Ltree : PySem.W.keepIn K (.ref a_Ltree) = true
  m_Ltree : mg "_law_tree" = some (.ref a_Ltree)
  a_Llines : Addr
  d_Llines : FuncData
  F_Llines : Fun K "_law_lines" "_law_lines" s_Llines a_Llines d_Llines
  b_Llines : Binds K d_Llines p_Llines []
  k_Llines : PySem.W.keepIn K (.ref a_Llines) = true
  m_Llines : mg "_law_lines" = some (.ref a_Llines)
  a_Lrefused : Addr
  d_Lrefused : FuncData
  F_Lrefused : Fun K "_law_refused" "_law_refused" s_Lrefused a_Lrefused d_Lrefused
  b_Lrefused : Binds K d_Lrefused p_Lrefused []
  k_Lrefused : PySem.W.keepIn K (.ref a_Lrefused) = true
  m_Lrefused : mg "_law_refused" = some (.ref a_Lrefused)
  a_law : Addr
  d_law : FuncData
  F_law : Fun K "law" "law" s_law a_law d_law
  b_law : Binds K d_law p_law []
  k_law : PySem.W.keepIn K (.ref a_law) = true
  m_law : mg "law" = some (.ref a_law)
  z_len : mg "len" = none
  z_all : mg "all" = none
  z_tuple : mg "tuple" = none
  z_sorted : mg "sorted" = none
  z_list : mg "list" = none
  z_range : mg "range" = none
  z_zip : mg "zip" = none
  z_max : mg "max" = none
  z_str : mg "str" = none
  z_int : mg "int" = none
  z_isinstance : mg "isinstance" = none
  z_abs : mg "abs" = none
  z_ValueError : mg "ValueError" = none
  c_MOST_PARTS : ∃ t, mg "MOST_PARTS" = some (.int 8 t)
  c_MOST_KINDS : ∃ t, mg "MOST_KINDS" = some (.int 60 t)
  c_MOST_LISTED : ∃ t, mg "MOST_LISTED" = some (.int 24 t)
  c_MOST_LISTED_KINDS : ∃ t, mg "MOST_LISTED_KINDS" = some (.int 8 t)
  c_MOST_LENGTH : ∃ t, mg "MOST_LENGTH" = some (.int 40 t)
  c_MOST_FIGURES : ∃ t, mg "MOST_FIGURES" = some (.int 1000 t)
  c_MOST_MEMBERS : ∃ t, mg "MOST_MEMBERS" = some (.int 80 t)
  c_MOST_DIGITS : ∃ t, mg "MOST_DIGITS" = some (.int 61 t)
  c_ARMS : ∃ t, mg "ARMS" = some (.int 2 t)
  c_MOST_POINTS : ∃ t, mg "MOST_POINTS" = some (.int 1000000000000000000000000000000000000000000000000000000000000 t)
  c_DIGITS : ∃ t, mg "DIGITS" = some (.str "0123456789" t)
  a_MEMBERS : Addr
  m_MEMBERS : mg "MEMBERS" = some (.ref a_MEMBERS)
  e_MEMBERS : Array DictEntry
  n_MEMBERS : Nat
  D_MEMBERS : KDict K w a_MEMBERS e_MEMBERS n_MEMBERS
  v_MEMBERS_words : ∃ t, PySem.W.nsIn K a_MEMBERS "words" = some (some (.int 3 t))
  v_MEMBERS_sets : ∃ t, PySem.W.nsIn K a_MEMBERS "sets" = some (some (.int 3 t))
  v_MEMBERS_listed : ∃ t, PySem.W.nsIn K a_MEMBERS "listed" = some (some (.int 2 t))
  v_MEMBERS_product : ∃ t, PySem.W.nsIn K a_MEMBERS "product" = some (some (.int 3 t))
  a_NUMBERS : Addr
  m_NUMBERS : mg "NUMBERS" = some (.ref a_NUMBERS)
  e_NUMBERS : Array DictEntry
  n_NUMBERS : Nat
  D_NUMBERS : KDict K w a_NUMBERS e_NUMBERS n_NUMBERS
  v_NUMBERS_words : ∃ t, PySem.W.nsIn K a_NUMBERS "words" = some (some (.int 2 t))
  v_NUMBERS_sets : ∃ t, PySem.W.nsIn K a_NUMBERS "sets" = some (some (.int 2 t))
  v_NUMBERS_listed : ∃ t, PySem.W.nsIn K a_NUMBERS "listed" = some (some (.int 1 t))
  v_NUMBERS_product : ∃ t, PySem.W.nsIn K a_NUMBERS "product" = some (some (.int 0 t))
  CI : Addr
  gC : mg "InvalidScheme" = some (.ref CI)
  xC : PySem.W.excIn K CI [.type "ValueError", .type "Exception", .type "BaseException", .type "object"] "ValueError.__new__" = true
  kC : PySem.W.keepIn K (.ref CI) = true
  bC : PySem.W.subIn K (.ref CI) (.type "BaseException") = some true
  tC : PySem.W.typeIn K (.ref CI) = some (.type "type")
  eC : PySem.W.exmOne K (.ref CI) (.ref CI) = some true
  iC : ExcC K CI
  vC : PySem.W.kitOne K (.ref CI) (.type "ValueError") = some true
end K5
set_option Elab.async false
set_option linter.all false
set_option maxRecDepth 100000
set_option maxHeartbeats 4000000
/-! Short words; require, choose, power_of and the law's own two. -/
namespace K5
open PySem PySem.Spec PyProof.Rows L2
section
variable {X : Cx}
theorem kint {x : Str} {v : Int} {pos : Pos} (hg : Gl X x) (h : ∃ t, X.mg x = some (.int v t)) (hd : (x == ("__debug__" : Str)) = false := by decide) : PE X (.Name x pos) (tC (.int v)) := by
  obtain ⟨t, e⟩ := h
  exact pe_glob hg e ⟨t, rfl⟩ hd
theorem kstr {x : Str} {v : Str} {pos : Pos} (hg : Gl X x) (h : ∃ t, X.mg x = some (.str v t)) (hd : (x == ("__debug__" : Str)) = false := by decide) : PE X (.Name x pos) (tC (.str v)) := by
  obtain ⟨t, e⟩ := h
  exact pe_glob hg e ⟨t, rfl⟩ hd
theorem pe_dead {e : Expr} : PE X e (fun _ _ _ => False) := ⟨fun _ _ _ _ _ _ h => h.elim⟩
end
theorem iteP {c : Bool} {A B : Prop} (hc : c = true) (h : A) : if c = true then A else B := by
  rw [if_pos hc]
  exact h
theorem iteQ {c : Bool} {A B : Prop} (hc : c = false) (h : B) : if c = true then A else B := by
  rw [hc, if_neg Bool.false_ne_true]
  exact h
theorem same_new {H : Hp} {p : Addr} (h : H p = none) (o : HO) : Same H (upd H p o) := fun b u q => by rw [upd_ne (ne_of_none q h)]; exact q
theorem Same.tup {K : PySem.W.Frag} {H H' : Hp} {a : Addr} {xs : List V} (e : Same H H') (h : SqT K H a xs) : SqT K H' a xs := by
  rcases h with (h | ⟨o, h⟩) | h
  · exact .inl (.inl (e _ _ h))
  · exact .inl (.inr ⟨o, e _ _ h⟩)
  · exact .inr h
theorem fits {n : Nat} (h : n ≤ 100000) : n ≤ sizeLine := Nat.le_trans h (by decide)
theorem fitsL {n : Nat} (h : n < 100000) : n < sizeLine := Nat.lt_of_lt_of_le h (by decide)

/-! ### the two reckonings -/
def pw (b : Int) : Nat → Int
  | 0 => 1
  | j + 1 => pw b j * b
def ch (n : Int) : Nat → Int
  | 0 => 1
  | j + 1 => ch n j * (n - j) / (j + 1)

/-! ### promises -/
/-- a bool; False raises -/
def spRequire (CI : Addr) : Sp := fun vs H Q E => ∃ b : Bool, vs = [.bl b] ∧ (b = true → Q .non H) ∧ (b = false → E (.ref CI) none H)
def spChoose : Sp := fun vs H Q _ => ∃ n k : Int, vs = [.int n, .int k] ∧ 0 ≤ k ∧ k ≤ n ∧ n ≤ 1000 ∧ Q (.int (ch n k.toNat)) H
def spPower : Sp := fun vs H Q _ => ∃ b k : Int, vs = [.int b, .int k] ∧ 0 ≤ k ∧ k ≤ 1000 ∧ 0 ≤ b ∧ b ≤ 1000 ∧ Q (.int (pw b k.toNat)) H
section
variable {P : Program} {w : World} {K : PySem.W.Frag} {mg : Str → Option Value} {base : Heap}
theorem ok_require (T : Txt w K mg) : FnOk P w K mg base (L2.CX P w) 1 T.a_require T.d_require p_require (spRequire T.CI) := by
  refine T.F_require.okX sc_require (fun vs H Q E h => ?_) (fun cdv A outer s H vs Q E hr h => ?_)
  · obtain ⟨b, rfl, _⟩ := h
    rfl
  obtain ⟨b, rfl, h1, h2⟩ := h
  refine ⟨_, pss_one (ps_if (pt_not (pt_val (pv 0))) (pss_one (ps_raise rfl (takes_of rfl rfl rfl rfl) (pmk_own PySem.F.excBase_ValueError T.xC T.gC T.kC (raises_own T.bC T.tC) rfl))) pss_nil), ?_⟩
  refine ⟨_, rfl, b, rfl, ?_⟩
  cases b with
  | true => exact iteF (h1 rfl)
  | false => exact iteT (h2 rfl)
theorem ok_choose (T : Txt w K mg) : FnOk P w K mg base CX0 1 T.a_choose T.d_choose p_choose spChoose := by
  refine T.F_choose.ok sc_choose (fun vs H Q E h => ?_) (fun cdv A outer s H vs Q E hr h => ?_)
  · obtain ⟨n, k, rfl, _⟩ := h
    rfl
  obtain ⟨n, k, rfl, h0, h1, h2, q⟩ := h
  refine ⟨_, pss_cons (ps_if (pt_not (pt_chain op_le op_le pe_int (pv 1) (pv 0))) (pss_one (ps_ret pe_int)) pss_nil)
    (pss_cons (ps_set (i := 2) sc_choose.nd rfl (.inl rfl) pe_int)
    (pss_cons (ps_for PassesOwn.never rfl (pi_range1 rfl T.z_range (pa_cons (pv 1) pa_nil)) (pg_name (i := 3) sc_choose.nd rfl (.inl rfl))
      (pss_one (ps_set (i := 2) sc_choose.nd rfl (.inl rfl) (pe_op op_fdiv (pe_op op_mul (pv 2) (pe_op op_sub (pv 0) (pv 3))) (pe_op op_add (pv 3) pe_int)))))
    (pss_one (ps_ret (pv 2))))), ?_⟩
  refine ⟨_, rfl, _, _, rfl, rfl, _, rfl, ?_⟩
  rw [if_pos (decide_eq_true h0)]
  refine ⟨_, rfl, _, _, rfl, rfl, _, rfl, ?_⟩
  rw [decide_eq_true h1]
  refine iteF ?_
  refine ⟨_, rfl, k, rfl, by omega, by omega, for_range (lo := 0) (n := k.toNat) (fun i σ H1 => H1 = H ∧ ∃ v : Option V, σ = [some (.int n), some (.int k), some (.int (ch n i)), v]) ⟨rfl, none, rfl⟩ ?_ ?_⟩
  · rintro i σ H1 hi ⟨rfl, v, rfl⟩
    refine ⟨_, rfl, _, rfl, _, rfl, _, _, rfl, rfl, _, _, rfl, rfl, .inr (by omega), _, rfl, _, _, rfl, rfl, _, _, rfl, rfl, ⟨by omega, by omega⟩, rfl, some (.int (0 + i)), ?_⟩
    show _ = _
    have e : ch n (i + 1) = ch n i * (n - (0 + (i : Int))) / (0 + (i : Int) + 1) := by rw [Int.zero_add]; rfl
    rw [e]
    rfl
  · rintro σ H1 ⟨rfl, v, rfl⟩
    exact ⟨_, rfl, q⟩
theorem ok_power_of (T : Txt w K mg) : FnOk P w K mg base CX0 1 T.a_power_of T.d_power_of p_power_of spPower := by
  refine T.F_power_of.ok sc_power_of (fun vs H Q E h => ?_) (fun cdv A outer s H vs Q E hr h => ?_)
  · obtain ⟨b, k, rfl, _⟩ := h
    rfl
  obtain ⟨b, k, rfl, h0, h1, h2, h3, q⟩ := h
  refine ⟨_, pss_cons (ps_set (i := 2) sc_power_of.nd rfl (.inl rfl) pe_int)
    (pss_cons (ps_for PassesOwn.never rfl (pi_range1 rfl T.z_range (pa_cons (pv 1) pa_nil)) (pg_name (i := 3) sc_power_of.nd rfl (.inl rfl))
      (pss_one (ps_aug (i := 2) sc_power_of.nd rfl (.inl rfl) (pv 0) iop_mul)))
    (pss_one (ps_ret (pv 2)))), ?_⟩
  refine ⟨_, rfl, k, rfl, by omega, by omega, for_range (lo := 0) (n := k.toNat) (fun i σ H1 => H1 = H ∧ ∃ v : Option V, σ = [some (.int b), some (.int k), some (.int (pw b i)), v]) ⟨rfl, none, rfl⟩ ?_ ?_⟩
  · rintro i σ H1 hi ⟨rfl, v, rfl⟩
    exact ⟨_, rfl, _, rfl, _, _, rfl, rfl, .inr (by omega), rfl, some (.int (0 + i)), rfl⟩
  · rintro σ H1 ⟨rfl, v, rfl⟩
    exact ⟨_, rfl, q⟩
theorem ok_Lpower (T : Txt w K mg) : FnOk P w K mg base CX0 1 T.a_Lpower T.d_Lpower p_Lpower spPower := by
  refine T.F_Lpower.ok sc_Lpower (fun vs H Q E h => ?_) (fun cdv A outer s H vs Q E hr h => ?_)
  · obtain ⟨b, k, rfl, _⟩ := h
    rfl
  obtain ⟨b, k, rfl, h0, h1, h2, h3, q⟩ := h
  refine ⟨_, pss_cons (ps_set (i := 2) sc_Lpower.nd rfl (.inl rfl) pe_int)
    (pss_cons (ps_for PassesOwn.never rfl (pi_range1 rfl T.z_range (pa_cons (pv 1) pa_nil)) (pg_name (i := 3) sc_Lpower.nd rfl (.inl rfl))
      (pss_one (ps_set (i := 2) sc_Lpower.nd rfl (.inl rfl) (pe_op op_mul (pv 2) (pv 0)))))
    (pss_one (ps_ret (pv 2)))), ?_⟩
  refine ⟨_, rfl, k, rfl, by omega, by omega, for_range (lo := 0) (n := k.toNat) (fun i σ H1 => H1 = H ∧ ∃ v : Option V, σ = [some (.int b), some (.int k), some (.int (pw b i)), v]) ⟨rfl, none, rfl⟩ ?_ ?_⟩
  · rintro i σ H1 hi ⟨rfl, v, rfl⟩
    exact ⟨_, rfl, _, rfl, _, _, rfl, rfl, .inr (by omega), rfl, some (.int (0 + i)), rfl⟩
  · rintro σ H1 ⟨rfl, v, rfl⟩
    exact ⟨_, rfl, q⟩
theorem ok_Lchoose (T : Txt w K mg) : FnOk P w K mg base CX0 1 T.a_Lchoose T.d_Lchoose p_Lchoose spChoose := by
  refine T.F_Lchoose.ok sc_Lchoose (fun vs H Q E h => ?_) (fun cdv A outer s H vs Q E hr h => ?_)
  · obtain ⟨n, k, rfl, _⟩ := h
    rfl
  obtain ⟨n, k, rfl, h0, h1, h2, q⟩ := h
  refine ⟨_, pss_cons (ps_set (i := 2) sc_Lchoose.nd rfl (.inl rfl) pe_int)
    (pss_cons (ps_for PassesOwn.never rfl (pi_range1 rfl T.z_range (pa_cons (pv 1) pa_nil)) (pg_name (i := 3) sc_Lchoose.nd rfl (.inl rfl))
      (pss_one (ps_set (i := 2) sc_Lchoose.nd rfl (.inl rfl) (pe_op op_fdiv (pe_op op_mul (pv 2) (pe_op op_sub (pv 0) (pv 3))) (pe_op op_add (pv 3) pe_int)))))
    (pss_one (ps_ret (pe_ifExp (pt_chain op_le op_le pe_int (pv 1) (pv 0)) (pv 2) pe_int)))), ?_⟩
  refine ⟨_, rfl, k, rfl, by omega, by omega, for_range (lo := 0) (n := k.toNat) (fun i σ H1 => H1 = H ∧ ∃ v : Option V, σ = [some (.int n), some (.int k), some (.int (ch n i)), v]) ⟨rfl, none, rfl⟩ ?_ ?_⟩
  · rintro i σ H1 hi ⟨rfl, v, rfl⟩
    refine ⟨_, rfl, _, rfl, _, rfl, _, _, rfl, rfl, _, _, rfl, rfl, .inr (by omega), _, rfl, _, _, rfl, rfl, _, _, rfl, rfl, ⟨by omega, by omega⟩, rfl, some (.int (0 + i)), ?_⟩
    have e : ch n (i + 1) = ch n i * (n - (0 + (i : Int))) / (0 + (i : Int) + 1) := by rw [Int.zero_add]; rfl
    rw [e]
    rfl
  · rintro σ H1 ⟨rfl, v, rfl⟩
    refine ⟨_, rfl, _, _, rfl, rfl, _, rfl, ?_⟩
    refine iteP (decide_eq_true h0) ?_
    refine ⟨_, rfl, _, _, rfl, rfl, _, rfl, ?_⟩
    exact iteP (decide_eq_true h1) ⟨_, rfl, q⟩
end
end K5
set_option Elab.async false
set_option linter.all false
set_option maxRecDepth 100000
set_option maxHeartbeats 4000000
/-! Rows in the heap; the dict that ways_of fills; max of a tuple. -/
namespace K5
open PySem PySem.Spec PyProof.Rows L2
/-- refs to tuples of ints -/
abbrev Rs (K : PySem.W.Frag) (H : Hp) : List V → List (List Int) → Prop := Paired fun v ns => ∃ b, v = .ref b ∧ SqT K H b (ns.map V.int)
theorem Rs.same {K : PySem.W.Frag} {H H' : Hp} {xs : List V} {rows : List (List Int)} (e : Same H H') (h : Rs K H xs rows) : Rs K H' xs rows :=
  Paired.mapP h fun v ns ⟨b, q, r⟩ => ⟨b, q, Same.tup e r⟩
theorem Rs.get {K : PySem.W.Frag} {H : Hp} : ∀ {xs : List V} {rows : List (List Int)} {i : Nat} {ns : List Int}, Rs K H xs rows → rows[i]? = some ns → ∃ b, xs[i]? = some (.ref b) ∧ SqT K H b (ns.map V.int)
  | _, _, _, _, .nil, e => by simp at e
  | _, _, 0, _, .cons r _, e => by
    simp at e
    subst e
    obtain ⟨b, q, r⟩ := r
    subst q
    exact ⟨b, rfl, r⟩
  | _, _, i + 1, ns, .cons _ t, e => by
    obtain ⟨b, h1, h2⟩ := Rs.get (i := i) (ns := ns) t (by simpa using e)
    exact ⟨b, by simpa using h1, h2⟩
theorem Rs.at {K : PySem.W.Frag} {H : Hp} : ∀ {xs : List V} {rows : List (List Int)} {i : Nat} {v : V}, Rs K H xs rows → xs[i]? = some v → ∃ b ns, v = .ref b ∧ rows[i]? = some ns ∧ SqT K H b (ns.map V.int)
  | _, _, _, _, .nil, e => by simp at e
  | _, _, 0, _, .cons r _, e => by
    simp at e
    subst e
    obtain ⟨b, q, r⟩ := r
    exact ⟨b, _, q, rfl, r⟩
  | _, _, i + 1, v, .cons _ t, e => by
    obtain ⟨b, ns, h0, h1, h2⟩ := Rs.at (i := i) (v := v) t (by simpa using e)
    exact ⟨b, ns, h0, by simpa using h1, h2⟩
theorem item_of {ns : List Int} {i : Nat} {y : V} (hi : (ns.map V.int)[i]? = some y) : ∃ z, ns[i]? = some z ∧ y = V.int z := by
  rw [List.getElem?_map] at hi
  cases e : ns[i]? with
  | none => rw [e] at hi; cases hi
  | some z => rw [e] at hi; exact ⟨z, rfl, (Option.some.inj hi).symm⟩
theorem of_item {ns : List Int} {i : Nat} {z : Int} (h : ns[i]? = some z) : (ns.map V.int)[i]? = some (.int z) := by rw [List.getElem?_map, h]; rfl
theorem take_more {α : Type} {l : List α} {i : Nat} {x : α} (h : l[i]? = some x) : l.take (i + 1) = l.take i ++ [x] := by
  rw [List.take_add_one, h]; rfl

/-! ### the dict of ways_of -/
abbrev kk (p : Int × Int) : List Key := [.inl p.1, .inl p.2]
def vi : Option V → Int
  | some (.int i) => i
  | _ => 0
def wst (d : List (List Key × V)) (p : Int × Int) : List (List Key × V) := putK d (kk p) (.int (vi (valV d (kk p)) + 1))
def wd (L : List (Int × Int)) : List (List Key × V) := L.foldl wst []
def cnt (L : List (Int × Int)) (k : List Key) : Nat := L.countP fun p => decide (k = kk p)
structure WOk (d : List (List Key × V)) (L : List (Int × Int)) : Prop where
  val : ∀ k, valV d k = if cnt L k = 0 then none else some (.int (cnt L k))
  nd : (d.map (·.1)).Nodup
  len : d.length ≤ L.length
theorem cnt_snoc (L : List (Int × Int)) (p : Int × Int) (k : List Key) : cnt (L ++ [p]) k = cnt L k + if k = kk p then 1 else 0 := by
  unfold cnt
  rw [List.countP_append, List.countP_singleton]
  congr 1
  by_cases e : k = kk p
  · rw [if_pos e, if_pos (decide_eq_true e)]
  · rw [if_neg e, if_neg (by rw [decide_eq_false e]; exact Bool.false_ne_true)]
theorem putK_keys {κ : Type} [DecidableEq κ] {d : List (κ × V)} {k : κ} {v x : V} (h : valV d k = some x) : (putK d k v).map (·.1) = d.map (·.1) := by
  unfold putK
  have q := valV_any k d
  rw [h] at q
  rw [show (d.any fun kv => decide (kv.1 = k)) = true from q]
  rw [if_pos rfl, List.map_map]
  apply List.map_congr_left
  intro a _
  show (if a.1 = k then (a.1, v) else a).1 = a.1
  split <;> rfl
theorem WOk.step {d : List (List Key × V)} {L : List (Int × Int)} (h : WOk d L) (p : Int × Int) : WOk (wst d p) (L ++ [p]) := by
  refine ⟨fun k => ?_, ?_, ?_⟩
  · unfold wst
    rw [valV_put, cnt_snoc]
    by_cases e : k = kk p
    · subst e
      rw [if_pos rfl, if_pos rfl, h.val]
      by_cases z : cnt L (kk p) = 0
      · rw [if_pos z, z]; rfl
      · rw [if_neg z, if_neg (by omega)]; rfl
    · rw [if_neg e, if_neg e, h.val]; rfl
  · unfold wst
    cases e : valV d (kk p) with
    | none => exact nd_putK _ h.nd e
    | some x => rw [putK_keys e]; exact h.nd
  · unfold wst
    have := length_putK d (kk p) (.int (vi (valV d (kk p)) + 1))
    have := h.len
    rw [List.length_append, List.length_singleton]
    omega
theorem wd_snoc (L : List (Int × Int)) (p : Int × Int) : wd (L ++ [p]) = wst (wd L) p := by unfold wd; rw [List.foldl_append]; rfl
theorem wd_ok (L : List (Int × Int)) : WOk (wd L) L := by
  have all : ∀ (M L : List (Int × Int)) (d : List (List Key × V)), WOk d L → WOk (M.foldl wst d) (L ++ M) := by
    intro M
    induction M with
    | nil => intro L d h; rw [List.append_nil]; exact h
    | cons p M ih =>
      intro L d h
      have := ih _ _ (h.step p)
      rw [List.append_assoc] at this
      exact this
  have h0 : WOk [] [] := ⟨fun k => rfl, List.nodup_nil, Nat.le_refl _⟩
  exact all L [] [] h0
theorem wd_mem (L : List (Int × Int)) (k : List Key) : k ∈ (wd L).map (·.1) ↔ cnt L k ≠ 0 := by
  have h := (wd_ok L).val k
  constructor
  · intro m z
    rw [if_pos z] at h
    exact valV_not h m
  · intro z
    rw [if_neg z] at h
    exact valV_in h
theorem wd_perm {L M : List (Int × Int)} (p : L.Perm M) : (wd L).length = (wd M).length ∧ ∀ q ∈ wd L, valV (wd M) q.1 = some q.2 ∧ ∃ i, q.2 = .int i := by
  have hc : ∀ k, cnt L k = cnt M k := fun k => p.countP_eq _
  refine ⟨?_, fun q hq => ?_⟩
  · have e : ((wd L).map (·.1)).Perm ((wd M).map (·.1)) := (List.perm_ext_iff_of_nodup (wd_ok L).nd (wd_ok M).nd).2 fun k => by rw [wd_mem, wd_mem, hc]
    have := e.length_eq
    rwa [List.length_map, List.length_map] at this
  · have hv : valV (wd L) q.1 = some q.2 := by
      have nd := (wd_ok L).nd
      generalize wd L = d at nd hq
      induction d with
      | nil => cases hq
      | cons a r ih =>
        rw [List.map_cons, List.nodup_cons] at nd
        rcases List.mem_cons.mp hq with e | hq
        · subst e; exact valV_pos rfl
        · have ne : ¬ a.1 = q.1 := fun e => nd.1 (by rw [e]; exact List.mem_map.mpr ⟨q, hq, rfl⟩)
          rw [valV_neg ne]
          exact ih nd.2 hq
    have h1 := (wd_ok L).val q.1
    have h2 := (wd_ok M).val q.1
    rw [← hc q.1] at h2
    rw [h2, ← h1, hv]
    refine ⟨rfl, ?_⟩
    rw [hv] at h1
    by_cases z : cnt L q.1 = 0
    · rw [if_pos z] at h1; cases h1
    · rw [if_neg z] at h1
      exact ⟨_, Option.some.inj h1⟩

/-! ### max of a tuple of ints -/
theorem max_tup {prog : Program} {w : World} {A : Around} {E : Value → Shared → Prop} {s : Shared} {l : Addr} {its : List Value} {ns : List Int} {Q : Value → Shared → Prop} (hh : A.handled = none) (hl : s.heap.IsTuple l its.toArray) (hi : Vals (ns.map V.int) its) (hne : 0 < ns.length)
    (h : ∀ h' tk M t', (∀ b o, s.heap.get? b = some o → h'.get? b = some o) → M ∈ ns → (∀ a, a ∈ ns → a ≤ M) → Q (.int M t') { s with heap := h', toks := tk }) : wpAny (model prog w) A (call (.builtin "max") [.ref l]) Q E s := by
  have hlen : ns.length = its.length := by have := hi.length; rwa [List.length_map] at this
  have hlt : l < s.heap.objs.size := by obtain ⟨_, e, _⟩ := hl; exact Heap.lt_size e
  have hval : ∀ (i : Nat) (v : Value), its.toArray[i]? = some v → ∃ t, v = .int (ns.getD i 0) t := fun i v e => by
    have hlt : i < ns.length := by
      rw [hlen]
      have := (Array.getElem?_eq_some_iff.mp e).1
      simpa using this
    obtain ⟨u, hu, t, r⟩ := hi.get (of_item (List.getElem?_eq_getElem hlt))
    have e' : its[i]? = some v := by simpa using e
    rw [e'] at hu
    cases hu
    exact ⟨t, by rw [List.getD_eq_getElem?_getD, List.getElem?_eq_getElem hlt]; exact r⟩
  refine call_max_walk (wpAny_pyIter_tuple hl ⟨_, _, _, _, _, _, _, rfl, Walks.tuple (A := A.in1) hh _ l (Nat.ne_of_lt hlt) its.toArray, ⟨⟨_, Heap.get?_push_size _ rfl, rfl, rfl⟩, hl.push _⟩, fun b hb => ?_, by simpa [← hlen] using hne, CmpOf.ints_gt (fun i => ns.getD i 0) hval, fun v h' tk hP hk => ?_⟩)
  · show b < (s.heap.push _).objs.size
    rw [Heap.size_push]
    rcases List.mem_cons.mp hb with rfl | hb
    · exact Nat.lt_succ_self _
    · rcases List.mem_cons.mp hb with rfl | hb
      · exact Nat.lt_succ_of_lt hlt
      · cases hb
  · obtain ⟨t, rfl⟩ := hval _ _ hP
    obtain ⟨h1, h2⟩ := argBest_gt (fun i => ns.getD i 0) (its.toArray.size - 1)
    have hs : its.toArray.size = ns.length := by simp [hlen]
    refine h h' tk _ t (fun b o e => hk b o (fun hm => ?_) (Heap.get?_push_of_some _ e)) ?_ fun a ha => ?_
    · rcases List.mem_cons.mp hm with e1 | hm
      · exact absurd (e1 ▸ Heap.lt_size e) (Nat.lt_irrefl _)
      · cases hm
    · exact PySem.getD_mem (by omega)
    · obtain ⟨j, hj, rfl⟩ := mem_getD ha
      exact h2 j (by omega)
def rMaxT (K : PySem.W.Frag) : List V → Hp → VK → Prop := fun vs H Q => ∃ (a : Addr) (ns : List Int), vs = [V.ref a] ∧ SqT K H a (ns.map V.int) ∧ 0 < ns.length ∧ ∀ m, m ∈ ns → (∀ y, y ∈ ns → y ≤ m) → Q (.int m) H
theorem cr_maxT {X : Cx} (hc : X.calm = true) : CallR X (.builtin "max") (rMaxT X.K) := by
  intro pins s σ H vs us Q I r h
  obtain ⟨a, ns, rfl, hs, hne, q⟩ := h
  obtain ⟨its, rv, hl, _⟩ := I.tuple hs
  rw [Vals.ref1 r]
  exact max_tup (I.ok.hd hc) hl rv hne fun h' tk m t' hk h1 h2 => ⟨.int _, H, I.kept hk, ⟨_, rfl⟩, q m h1 h2⟩

/-! ### ways_of -/
/-- two rows' pairs, counted -/
def spWays (K : PySem.W.Frag) : Sp := fun vs H Q _ => ∃ (r : Addr) (x y : Nat) (xs : List V) (rows : List (List Int)) (p q : List Int), vs = [.ref r, .int (x : Int), .int (y : Int)] ∧ SqT K H r xs ∧ Rs K H xs rows ∧ rows[x]? = some p ∧ rows[y]? = some q ∧ p.length = q.length ∧ p.length ≤ 1000 ∧
  ∀ (a : Addr) (H' : Hp), Same H H' → H a = none → H' a = some (.dT (wd (p.zip q))) → Q (.ref a) H'
section
variable {P : Program} {w : World} {K : PySem.W.Frag} {mg : Str → Option Value} {base : Heap}
theorem ok_ways_of (T : Txt w K mg) : FnOk P w K mg base CX0 1 T.a_ways_of T.d_ways_of p_ways_of (spWays K) := by
  refine T.F_ways_of.ok sc_ways_of (fun vs H Q E h => ?_) (fun cdv A outer s H vs Q E hr h => ?_)
  · obtain ⟨_, _, _, _, _, _, _, rfl, _⟩ := h
    rfl
  obtain ⟨r, x, y, xs, rows, p, q, rfl, hS, hR, hp, hq, hl, h1000, k⟩ := h
  have hu := hu_of hr
  have nd := sc_ways_of.nd
  obtain ⟨bp, hbp, sp⟩ := hR.get hp
  obtain ⟨bq, hbq, sq⟩ := hR.get hq
  refine ⟨_, pss_cons (ps_set (i := 3) nd rfl (.inl rfl) pe_dnewT)
    (pss_cons (ps_for PassesOwn.never rfl (RZ.pi_zipA (by rfl) T.z_zip (pa_cons (pe_ix ix_tup (pv 0) (pv 1) (fun _ _ => rfl)) (pa_cons (pe_ix ix_tup (pv 0) (pv 2) (fun _ _ => rfl)) pa_nil)))
      (pg_tup rfl (pgs_cons (pg_name (i := 4) nd rfl (.inl rfl)) (pgs_cons (pg_name (i := 5) nd rfl (.inl rfl)) pgs_nil)))
      (pss_one (ps_dput hu (pv 3) (pe_tup (pa_cons (pv 4) (pa_cons (pv 5) pa_nil))) (pe_op op_add (pe_dget2 hu (pv 3) (pe_tup (pa_cons (pv 4) (pa_cons (pv 5) pa_nil))) pe_int ⟨rfl, rfl, rfl, rfl⟩) pe_int) rfl)))
    (pss_one (ps_ret (pv 3)))), ?_⟩
  intro d hd
  have s0 : Same H (upd H d (.dT [])) := same_new hd _
  refine ⟨_, rfl, _, rfl, r, xs, _, _, rfl, rfl, Same.tup s0 hS, atI_nat hbp, _, rfl, _, rfl, r, xs, _, _, rfl, rfl, Same.tup s0 hS, atI_nat hbq, bp, bq, p.map V.int, q.map V.int, rfl, .inr ⟨Same.tup s0 sp, Same.tup s0 sq, ?_⟩⟩
  have hl' : (p.map V.int).length = (q.map V.int).length := by rw [List.length_map, List.length_map, hl]
  refine RZ.for_zipT hl' (fun i σ H1 => ∃ v4 v5 : Option V, σ = [some (.ref r), some (.int (x : Int)), some (.int (y : Int)), some (.ref d), v4, v5] ∧ (∀ b o, H b = some o → H1 b = some o) ∧ H1 d = some (.dT (wd ((p.zip q).take i)))) ⟨none, none, rfl, s0, upd_same⟩ (fun i σ H1 ⟨_, _, _, s1, _⟩ => ⟨Same.tup s1 sp, Same.tup s1 sq⟩) ?_ ?_
  · rintro i x1 y1 T1 σ H1 hx hy ⟨v4, v5, rfl, s1, hd1⟩ hT
    obtain ⟨a, ha, rfl⟩ := item_of hx
    obtain ⟨b, hb, rfl⟩ := item_of hy
    have nT : d ≠ T1 := ne_of_none hd1 hT
    have hz : (p.zip q)[i]? = some (a, b) := List.getElem?_zip_eq_some.mpr ⟨ha, hb⟩
    have ok := wd_ok ((p.zip q).take i)
    have hlen : (wd ((p.zip q).take i)).length ≤ 1000 := by
      have h1 := ok.len
      rw [List.length_take, List.length_zip] at h1
      omega
    refine ⟨T1, _, rfl, SqT.of upd_same, rfl, _, _, rfl, _, _, rfl, rfl, ?_⟩
    -- found.get((first, second), 0)
    refine ⟨_, rfl, d, rfl, .inr ⟨_, .inl (by rw [upd_ne nT]; exact hd1)⟩, _, rfl, _, rfl, fits (by show 2 ≤ 100000; decide), fun t ht => ?_⟩
    have ht1 : (upd H1 T1 (.tup [.int a, .int b])) t = none := ht
    have ntd : d ≠ t := by
      refine ne_of_none (o := .dT (wd ((p.zip q).take i))) ?_ ht1
      rw [upd_ne nT]; exact hd1
    refine ⟨_, DGet.t (k := kk (a, b)) (by rw [upd_ne ntd, upd_ne nT]; exact hd1) upd_same, ?_⟩
    have hv : ((valV (wd ((p.zip q).take i)) (kk (a, b))).getD (.int 0)) = .int (vi (valV (wd ((p.zip q).take i)) (kk (a, b)))) := by
      rw [ok.val]
      split <;> rfl
    rw [hv]
    refine ⟨_, _, rfl, rfl, _, rfl, _, rfl, _, rfl, fits (by show 2 ≤ 100000; decide), fun u hu1 => ?_⟩
    have nud : d ≠ u := by
      refine ne_of_none (o := .dT (wd ((p.zip q).take i))) ?_ hu1
      rw [upd_ne ntd, upd_ne nT]; exact hd1
    refine ⟨d, _, rfl, DPut.t (k := kk (a, b)) (by rw [upd_ne nud, upd_ne ntd, upd_ne nT]; exact hd1) upd_same (small1000 hlen), ?_⟩
    refine ⟨_, _, rfl, fun c o e => ?_, ?_⟩
    · have hcd : c ≠ d := ne_of_none e hd
      rw [upd_ne hcd]
      exact same_new hu1 _ _ _ (same_new ht1 _ _ _ (same_new hT _ _ _ (s1 c o e)))
    · rw [upd_same, take_more hz, wd_snoc]
      rfl
  · rintro σ H1 ⟨v4, v5, rfl, s1, hd1⟩
    refine ⟨_, rfl, k d H1 s1 hd ?_⟩
    rw [hd1, List.take_of_length_le (by rw [List.length_zip, List.length_map]; omega)]
end
end K5
set_option Elab.async false
set_option linter.all false
set_option maxRecDepth 100000
set_option maxHeartbeats 8000000
/-! Lists or tuples walked alike; checked_rows. -/
namespace K5
open PySem PySem.Spec PyProof.Rows L2
/-- the list or the tuple at a, walked by J -/
def Sq2 (K : PySem.W.Frag) (H : Hp) (a : Addr) (xs : List V) (J : It) : Prop := (J = Itl K a ∧ SqL K H a xs) ∨ (J = Itt K a ∧ SqT K H a xs)
theorem Sq2.same {K : PySem.W.Frag} {H H' : Hp} {a : Addr} {xs : List V} {J : It} (e : Same H H') (h : Sq2 K H a xs J) : Sq2 K H' a xs J := by
  rcases h with ⟨h1, h2⟩ | ⟨h1, h2⟩
  · exact .inl ⟨h1, Same.seq e h2⟩
  · exact .inr ⟨h1, Same.tup e h2⟩
theorem Sq2.of {K : PySem.W.Frag} {H : Hp} {a : Addr} {xs : List V} (h : SqL K H a xs ∨ SqT K H a xs) : ∃ J, Sq2 K H a xs J := by
  rcases h with h | h
  · exact ⟨_, .inl ⟨rfl, h⟩⟩
  · exact ⟨_, .inr ⟨rfl, h⟩⟩
theorem Sq2.or {K : PySem.W.Frag} {H : Hp} {a : Addr} {xs : List V} {J : It} (h : Sq2 K H a xs J) : SqL K H a xs ∨ SqT K H a xs := by
  rcases h with ⟨_, h⟩ | ⟨_, h⟩
  · exact .inl h
  · exact .inr h
def iSeq (K : PySem.W.Frag) (tl : TE) : TI := fun σ H R => tl σ H fun x H1 => ∃ a xs J, x = .ref a ∧ Sq2 K H1 a xs J ∧ R J H1
theorem pi_seq {X : Cx} {tg l : Expr} {tl : TE} (hl : PE X l tl) : PI X tg l (iSeq X.K tl) := by
  refine ⟨fun pins s σ H R I h => ?_⟩
  refine thn (hl.run pins s σ H _ I h) fun v s1 ⟨x, H1, I1, r1, a, xs, J, e, hq, q⟩ => ?_
  subst e
  cases r1
  have fin : ∀ (h' : Heap) (b : Addr), s1.heap.objs.size ≤ b → b ∈ [s1.heap.objs.size] → FpOk X pins H1 b := fun h' b hb _ => I1.fpOk hb (I1.hok.fresh hb)
  rcases hq with ⟨ej, hq⟩ | ⟨ej, hq⟩
  · subst ej
    obtain ⟨its, rv, p, hz⟩ := I1.list hq
    refine wpAny_pyIter_list p.isList ?_
    refine ⟨s1.heap.objs.size, [s1.heap.objs.size], _, _, H1, rfl, I1.kept (t' := s1.toks) fun b o z => Heap.get?_push_of_some _ z, turn_list a _, ⟨_, Heap.get?_push_size _ rfl, rfl, rfl⟩, fun b hb => ?_, q⟩
    rw [List.mem_singleton.mp hb]
    exact I1.fpOk (Nat.le_refl _) (I1.hok.fresh (Nat.le_refl _))
  · subst ej
    obtain ⟨its, rv, p, hz⟩ := I1.tuple hq
    refine wpAny_pyIter_tuple (show s1.heap.IsTuple a its.toArray from p) ?_
    refine ⟨s1.heap.objs.size, [s1.heap.objs.size], _, _, H1, rfl, I1.kept (t' := s1.toks) fun b o z => Heap.get?_push_of_some _ z, turn_tuple a _, ⟨_, Heap.get?_push_size _ rfl, rfl, rfl⟩, fun b hb => ?_, q⟩
    rw [List.mem_singleton.mp hb]
    exact I1.fpOk (Nat.le_refl _) (I1.hok.fresh (Nat.le_refl _))
/-- a comprehension over it -/
theorem lc_seq {K : PySem.W.Frag} {a : Addr} {xs : List V} {J : It} {g : TG} {tt : TT} {te : TE} {vs : List Nat} {σ : L2.St} {H1 : Hp} {D : Addr} {Qd : Hp → Prop} (Pv : Nat → Hp → Prop) (h0 : Pv 0 (upd H1 D (.lst []))) (hl : ∀ i H, i ≤ xs.length → Pv i H → Sq2 K H a xs J) (hJ : ∃ H, Sq2 K H a xs J)
    (hs : ∀ i x H, xs[i]? = some x → Pv i H → g x (wipe σ vs) H fun σ2 H2 => wipe σ2 vs = wipe σ vs ∧ tt σ2 H2 fun b H3 =>
      if b = true then te σ2 H3 fun y H4 => ∃ acc, H4 D = some (.lst acc) ∧ acc.length < sizeLine ∧ Pv (i + 1) (upd H4 D (.lst (acc ++ [y]))) else Pv (i + 1) H3) (hd : ∀ H, Pv xs.length H → Qd H) :
    ∃ W : Nat → Nat → Hp → Prop, (∃ m, W 0 m (upd H1 D (.lst []))) ∧ ∀ i m H, W i m H →
      (J.stop i H ∧ Qd H) ∨ (J.go i H ∧ ∃ Nx : Hp → Prop, (∀ H', Nx H' → ∃ m', m' < m ∧ W (i + 1) m' H') ∧ ∀ x H', J.yld i H x H' → g x (wipe σ vs) H' fun σ2 H2 => wipe σ2 vs = wipe σ vs ∧ tt σ2 H2 fun b H3 =>
        if b = true then te σ2 H3 fun y H4 => ∃ acc, H4 D = some (.lst acc) ∧ acc.length < sizeLine ∧ Nx (upd H4 D (.lst (acc ++ [y]))) else Nx H3) := by
  refine ⟨fun i m H => m = xs.length - i ∧ i ≤ xs.length ∧ Pv i H, ⟨xs.length, by simp, Nat.zero_le _, h0⟩, ?_⟩
  rintro i m H ⟨rfl, hi, p⟩
  have q := hl i H hi p
  by_cases hlt : i < xs.length
  · refine .inr ⟨?_, Pv (i + 1), fun H' p' => ⟨xs.length - (i + 1), by omega, rfl, hlt, p'⟩, fun x H' y => ?_⟩
    · rcases q with ⟨e, q⟩ | ⟨e, q⟩
      · subst e; exact ⟨xs, xs[i], q, by simp [hlt]⟩
      · subst e; exact ⟨xs, xs[i], q, by simp [hlt]⟩
    · rcases q with ⟨e, q⟩ | ⟨e, q⟩
      · subst e
        obtain ⟨e, y⟩ := y
        subst e
        exact hs i x _ (y xs q) p
      · subst e
        obtain ⟨e, y⟩ := y
        subst e
        exact hs i x _ (y xs q) p
  · have e : i = xs.length := by omega
    subst e
    refine .inl ⟨?_, hd H p⟩
    rcases q with ⟨e, q⟩ | ⟨e, q⟩
    · subst e; exact ⟨xs, q, Nat.le_refl _⟩
    · subst e; exact ⟨xs, q, Nat.le_refl _⟩
/-- for i in range(n), the turn's int plain -/
theorem for_n {n : Nat} {g : TG} {tb : TS} {D : Ends} {σ : L2.St} {H : Hp} (Pv : Nat → L2.St → Hp → Prop) (h0 : Pv 0 σ H)
    (hs : ∀ i σ H, i < n → Pv i σ H → g (.int (i : Int)) σ H fun σ2 H2 => tb { D with nx := Pv (i + 1), ct := Pv (i + 1), bk := D.nx } σ2 H2) (hd : ∀ σ H, Pv n σ H → D.nx σ H) :
    ∃ W : Nat → Nat → L2.St → Hp → Prop, (∃ m, W 0 m σ H) ∧ ∀ i m σ H, W i m σ H →
      ((Itr 0 n).stop i H ∧ D.nx σ H) ∨ ((Itr 0 n).go i H ∧ ∃ N : L2.St → Hp → Prop, (∀ σ' H', N σ' H' → ∃ m', m' < m ∧ W (i + 1) m' σ' H') ∧ ∀ x H', (Itr 0 n).yld i H x H' → g x σ H' fun σ2 H2 => tb { D with nx := N, ct := N, bk := D.nx } σ2 H2) :=
  for_range (lo := 0) Pv h0 (fun i σ H hi p => by rw [Int.zero_add]; exact hs i σ H hi p) hd

/-! ### readings by name, for the elements of comprehensions -/
def rLenN (K : PySem.W.Frag) : List V → Hp → VK → Prop := fun xs H Q => ∃ p ys, xs = [.ref p] ∧ (SqL K H p ys ∨ SqT K H p ys) ∧ Q (.int ys.length) H
theorem call_lenN {X : Cx} : CallR X (.builtin "len") (rLenN X.K) := call_len_seq
def rTupN (K : PySem.W.Frag) : List V → Hp → VK → Prop := fun xs H Q => ∃ p ys, xs = [.ref p] ∧ ((SqL K H p ys ∧ ∀ l, H l = none → Q (.ref l) (upd H l (.tup ys))) ∨ (SqT K H p ys ∧ Q (.ref p) H))
theorem call_tupN {X : Cx} : CallR X (.type "tuple") (rTupN X.K) := call_tuple_of

/-! ### lists of ints as data -/
abbrev pyInts (ns : List Int) : PyData := .list (ns.map .int)
theorem dpAll_ints (K : PySem.W.Frag) (H : Hp) : ∀ ns : List Int, DpAll K H (ns.map V.int) (ns.map .int)
  | [] => .nil
  | n :: ns => .cons (.int n) (dpAll_ints K H ns)
theorem eqvAll_refl_ints : ∀ ns : List Int, PyData.eqvAll (ns.map .int) (ns.map .int) = true
  | [] => by simp [PyData.eqvAll]
  | n :: ns => by simp [PyData.eqvAll, PyData.eqv, eqvAll_refl_ints ns]
theorem eqv_refl_ints (ns : List Int) : PyData.eqv (pyInts ns) (pyInts ns) = true := by simp [PyData.eqv, eqvAll_refl_ints]
theorem lay_ints : ∀ l : List Int, PyData.canLayAll0 (l.map .int) = true
  | [] => by simp [PyData.canLayAll0]
  | n :: l => by simp [PyData.canLayAll0, PyData.canLay0, lay_ints l]
theorem depth_ints : ∀ l : List Int, PyData.depthAll (l.map .int) ≤ 1
  | [] => by simp [PyData.depthAll]
  | n :: l => by
    have := depth_ints l
    simp only [List.map_cons, PyData.depthAll, PyData.depth]
    omega
theorem shaped_ints (ns : List Int) : SeqAt.shaped (pyInts ns) = true := by
  have h := depth_ints ns
  have e : (pyInts ns).depth = PyData.depthAll (ns.map .int) + 1 := by simp [PyData.depth]
  unfold SeqAt.shaped
  rw [Bool.and_eq_true]
  exact ⟨by simp [PyData.canLay0, lay_ints], decide_eq_true (by rw [e]; omega)⟩

/-! ### the kinds as a dict's keys -/
structure KOk (kvs : List (Key × V)) (ks L : List Int) : Prop where
  eq : kvs = ks.map fun k => ((Sum.inl k : Key), V.bl true)
  nd : ks.Nodup
  mem : ∀ z, z ∈ ks ↔ z ∈ L
  len : ks.length ≤ L.length
theorem KOk.nil : KOk [] [] [] := ⟨rfl, List.nodup_nil, fun z => Iff.rfl, Nat.le_refl _⟩
theorem KOk.put {kvs : List (Key × V)} {ks L : List Int} (h : KOk kvs ks L) (z : Int) : ∃ ks', KOk (putK kvs (.inl z) (.bl true)) ks' (L ++ [z]) := by
  have hany : (kvs.any fun kv => decide (kv.1 = Sum.inl z)) = decide (z ∈ ks) := by
    rw [h.eq, List.any_map]
    rw [Bool.eq_iff_iff, List.any_eq_true, decide_eq_true_eq]
    constructor
    · rintro ⟨k, hk, e⟩
      have e' : (Sum.inl k : Key) = Sum.inl z := of_decide_eq_true e
      rw [← Sum.inl.inj e']; exact hk
    · intro hz; exact ⟨z, hz, decide_eq_true rfl⟩
  by_cases hz : z ∈ ks
  · refine ⟨ks, ?_, h.nd, fun y => ?_, by rw [List.length_append]; exact Nat.le_add_right_of_le h.len⟩
    · unfold putK
      rw [hany, decide_eq_true hz, if_pos rfl, h.eq, List.map_map]
      apply List.map_congr_left
      intro k _
      show (if (Sum.inl k : Key) = Sum.inl z then ((Sum.inl k : Key), V.bl true) else _) = _
      split <;> rfl
    · rw [h.mem, List.mem_append, List.mem_singleton]
      constructor
      · exact .inl
      · rintro (q | q)
        · exact q
        · rw [q]; exact (h.mem z).1 hz
  · refine ⟨ks ++ [z], ?_, nd_snoc h.nd hz, fun y => ?_, ?_⟩
    · unfold putK
      rw [hany, decide_eq_false hz, if_neg Bool.false_ne_true, h.eq, List.map_append]
      rfl
    · rw [List.mem_append, List.mem_append, h.mem]
    · rw [List.length_append, List.length_append]
      exact Nat.add_le_add_right h.len _
theorem KOk.vals {kvs : List (Key × V)} {ks L : List Int} (h : KOk kvs ks L) : (kvs.map fun kv => kV kv.1) = ks.map V.int := by
  rw [h.eq, List.map_map]; rfl
/-- {kind: True for row in kept for kind in row}: the slots of row and kind are 9 and 7, kept stands in 2 -/
theorem read_kinds {K : PySem.W.Frag} {kp D : Addr} {xs : List V} {rows : List (List Int)} {v0 v1 v3 v4 v5 v6 v7 v8 v9 : Option V} {H : Hp} {Q : VK} (hS : SqT K H kp xs) (hR : Rs K H xs rows) (hsz : rows.flatten.length ≤ 10000) (hD : H D = none)
    (k : ∀ H' kvs ks, Same H H' → H' D = some (.dK kvs) → KOk kvs ks rows.flatten → Q (.ref D) H') :
    dcLoop (Itt K kp) (gName 9) (iTup K (tVar 9)) (gName 7) (tVar 7) (tC (.bl true)) [9, 7] [7] [v0, v1, some (.ref kp), v3, v4, v5, v6, v7, v8, v9] D Q H := by
  have lenR : xs.length = rows.length := hR.length
  refine ⟨fun i m H' => m = xs.length - i ∧ i ≤ xs.length ∧ Same H H' ∧ ∃ kvs ks, H' D = some (.dK kvs) ∧ KOk kvs ks (rows.take i).flatten, ⟨_, rfl, Nat.zero_le _, same_new hD _, [], [], upd_same, KOk.nil⟩, ?_⟩
  rintro i m H1 ⟨rfl, hi, s1, kvs, ks, hD1, ok⟩
  by_cases hlt : i < xs.length
  · refine .inr ⟨⟨xs, xs[i], Same.tup s1 hS, by simp [hlt]⟩, fun H' => Same H H' ∧ ∃ kvs ks, H' D = some (.dK kvs) ∧ KOk kvs ks (rows.take (i + 1)).flatten, fun H' ⟨s2, p⟩ => ⟨xs.length - (i + 1), by omega, rfl, hlt, s2, p⟩, fun x H' y => ?_⟩
    obtain ⟨e, y⟩ := y
    subst e
    obtain ⟨b, ns, rfl, hns, hT⟩ := hR.at (y xs (Same.tup s1 hS))
    refine ⟨rfl, _, rfl, b, rfl, ⟨_, Same.tup s1 hT⟩, ?_⟩
    have et : (rows.take (i + 1)).flatten = (rows.take i).flatten ++ ns := by rw [take_more hns, List.flatten_append]; simp
    refine ⟨fun j m H2 => m = ns.length - j ∧ j ≤ ns.length ∧ Same H H2 ∧ ∃ kvs ks, H2 D = some (.dK kvs) ∧ KOk kvs ks ((rows.take i).flatten ++ ns.take j), ⟨_, rfl, Nat.zero_le _, s1, kvs, ks, hD1, by rw [List.take_zero, List.append_nil]; exact ok⟩, ?_⟩
    rintro j m H2 ⟨rfl, hj, s2, kvs2, ks2, hD2, ok2⟩
    by_cases hjl : j < ns.length
    · refine .inr ⟨⟨_, .int ns[j], Same.tup s2 hT, of_item (List.getElem?_eq_getElem hjl)⟩, fun H' => Same H H' ∧ ∃ kvs ks, H' D = some (.dK kvs) ∧ KOk kvs ks ((rows.take i).flatten ++ ns.take (j + 1)), fun H' ⟨s3, p⟩ => ⟨ns.length - (j + 1), by omega, rfl, hjl, s3, p⟩, fun x H3 y => ?_⟩
      obtain ⟨e, y⟩ := y
      subst e
      obtain ⟨z, hz, rfl⟩ := item_of (y _ (Same.tup s2 hT))
      refine ⟨rfl, _, rfl, kvs2, .inl z, rfl, hD2, ?_, fun c o e => ?_, ?_⟩
      · have h1 := ok2.len
        have h2 : ((rows.take i).flatten ++ ns.take j).length ≤ rows.flatten.length := by
          have hsplit : rows.flatten = (rows.take i).flatten ++ (ns ++ (rows.drop (i + 1)).flatten) := by
            conv => lhs; rw [← List.take_append_drop (i + 1) rows, List.flatten_append, et, List.append_assoc]
          rw [hsplit, List.length_append, List.length_append, List.length_append, List.length_take]
          omega
        refine fitsL ?_
        rw [ok2.eq, List.length_map]
        omega
      · have hcd : c ≠ D := ne_of_none e hD
        rw [upd_ne hcd]; exact s2 c o e
      · obtain ⟨ks3, ok3⟩ := ok2.put z
        refine ⟨_, ks3, upd_same, ?_⟩
        rw [take_more hz, ← List.append_assoc]
        exact ok3
    · have e : j = ns.length := by omega
      subst e
      refine .inl ⟨⟨_, Same.tup s2 hT, by rw [List.length_map]; exact Nat.le_refl _⟩, s2, kvs2, ks2, hD2, ?_⟩
      rw [et]
      rw [List.take_length] at ok2
      exact ok2
  · have e : i = xs.length := by omega
    subst e
    refine .inl ⟨⟨xs, Same.tup s1 hS, Nat.le_refl _⟩, k H1 kvs ks s1 hD1 ?_⟩
    rw [lenR, List.take_length] at ok
    exact ok
end K5
set_option Elab.async false
set_option linter.all false
set_option maxRecDepth 100000
set_option maxHeartbeats 16000000
/-! checked_rows. -/
namespace K5
open PySem PySem.Spec PyProof.Rows L2
/-- the kind of two points; their rows in pairs -/
def cel (rows : List (List Int)) (x y : Nat) : Int := (rows.getD x []).getD y 0
def prs (rows : List (List Int)) (x y : Nat) : List (Int × Int) := (rows.getD x []).zip (rows.getD y [])
/-- 0 on the diagonal alone; the same both ways -/
def Dg (rows : List (List Int)) (x y : Nat) : Prop := (cel rows x y = 0 ↔ x = y) ∧ cel rows x y = cel rows y x
structure Square (rows : List (List Int)) (c : Nat) : Prop where
  len : rows.length = c
  pos : 1 ≤ c
  most : c ≤ 24
  each : ∀ r ∈ rows, r.length = c
  kinds : ∃ q : Nat, q ≤ 8 ∧ ∀ k : Int, k ∈ rows.flatten ↔ 0 ≤ k ∧ k < q
theorem Square.row {rows : List (List Int)} {c x : Nat} (h : Square rows c) (hx : x < c) : rows[x]? = some (rows.getD x []) ∧ (rows.getD x []).length = c := by
  have hl : x < rows.length := by rw [h.len]; exact hx
  have e : rows[x]? = some rows[x] := List.getElem?_eq_getElem hl
  have e2 : rows.getD x [] = rows[x] := by rw [List.getD_eq_getElem?_getD, e]; rfl
  rw [e2]
  exact ⟨e, h.each _ (List.getElem_mem hl)⟩
theorem Square.cell {rows : List (List Int)} {c x y : Nat} (h : Square rows c) (hx : x < c) (hy : y < c) : (rows.getD x [])[y]? = some (cel rows x y) := by
  have hl : y < (rows.getD x []).length := by rw [(h.row hx).2]; exact hy
  unfold cel
  rw [List.getD_eq_getElem?_getD (l := rows.getD x []), List.getElem?_eq_getElem hl]
  rfl
theorem flatten_len : ∀ {rows : List (List Int)} {c : Nat}, (∀ r ∈ rows, r.length = c) → rows.flatten.length = rows.length * c
  | [], _, _ => by simp
  | r :: rows, c, h => by
    rw [List.flatten_cons, List.length_append, h r List.mem_cons_self, flatten_len fun q hq => h q (List.mem_cons_of_mem _ hq), List.length_cons, Nat.add_mul, Nat.one_mul, Nat.add_comm]
/-- what ways holds when the pairs below m have been seen -/
def WaysAt (rows : List (List Int)) (c m : Nat) (wks : List (Key × V)) (H : Hp) : Prop :=
  wks.length ≤ m ∧ ∀ (key : Key) (d : V), valV wks key = some d → ∃ x y t, x < c ∧ y < c ∧ x * c + y < m ∧ key = .inl (cel rows x y) ∧ d = .ref t ∧ H t = some (.dT (wd (prs rows x y)))
/-- the table is as it must be at all pairs ahead of n; then it is whole, or broken at n -/
def spRows (K : PySem.W.Frag) (CI : Addr) : Sp := fun vs H Q E => ∃ (b : Addr) (xs : List V) (rows : List (List Int)) (c n : Nat), vs = [.ref b] ∧ (SqL K H b xs ∨ SqT K H b xs) ∧ Rs K H xs rows ∧ Square rows c ∧ n ≤ c * c ∧
  (∀ x y, x < c → y < c → x * c + y < n → Dg rows x y) ∧
  (∀ x y x' y', x < c → y < c → x' < c → y' < c → x * c + y < n → x' * c + y' < n → cel rows x y = cel rows x' y' → (prs rows x' y').Perm (prs rows x y)) ∧
  (∀ x y, x < c → y < c → x * c + y = n → ¬ Dg rows x y ∧ ∀ H', Same H H' → E (.ref CI) none H') ∧
  (n = c * c → ∀ p xs' H', Same H H' → SqT K H' p xs' → Rs K H' xs' rows → Q (.ref p) H')
theorem perm_range {ks : List Int} {q : Nat} (nd : ks.Nodup) (h : ∀ z : Int, z ∈ ks ↔ 0 ≤ z ∧ z < q) : ks.Perm ((List.range q).map fun i => ((i : Nat) : Int)) := by
  refine (List.perm_ext_iff_of_nodup nd ?_).2 fun z => ?_
  · exact List.Pairwise.map _ (fun a b (hab : a ≠ b) => fun e => hab (Int.ofNat.inj e)) List.nodup_range
  · rw [h, List.mem_map]
    constructor
    · rintro ⟨h0, h1⟩
      exact ⟨z.toNat, List.mem_range.mpr (by omega), by omega⟩
    · rintro ⟨i, hi, rfl⟩
      have := List.mem_range.mp hi
      omega
theorem range_of {ns ks : List Int} {q : Nat} (p : ns.Perm ks) (s : ns.Pairwise (· ≤ ·)) (nd : ks.Nodup) (h : ∀ z : Int, z ∈ ks ↔ 0 ≤ z ∧ z < q) : ns = (List.range q).map fun i => ((i : Nat) : Int) := by
  refine PySem.W.ksm_same (p.trans (perm_range nd h)) s ?_
  refine List.Pairwise.map _ (fun a b (hab : a < b) => (by omega : ((a : Nat) : Int) ≤ b)) List.pairwise_lt_range
theorem rgV_nat (q : Nat) : rgV 0 (q : Int) = ((List.range q).map fun i => ((i : Nat) : Int)).map V.int := by
  unfold rgV
  rw [List.map_map, Int.sub_zero, Int.toNat_natCast]
  apply List.map_congr_left
  intro i _
  show V.int (0 + (i : Int)) = V.int (i : Int)
  rw [Int.zero_add]
theorem yes {σ : L2.St} {H : Hp} {Q : Bool → Hp → Prop} (h : Q true H) : tYes σ H Q := h
theorem idx_lt {x y c : Nat} (hx : x < c) (hy : y < c) : x * c + y < c * c := by
  have h : (x + 1) * c ≤ c * c := Nat.mul_le_mul_right c hx
  rw [Nat.succ_mul] at h
  omega
theorem dgA (k : Int) (x y : Nat) : decide (V.bl (decide (V.int k = V.int 0)) = V.bl (decide (V.int (x : Int) = V.int (y : Int)))) = decide (k = 0 ↔ x = y) := by
  have e1 : (V.int k = V.int 0) ↔ k = 0 := by simp
  have e2 : (V.int (x : Int) = V.int (y : Int)) ↔ x = y := by rw [V.int.injEq]; omega
  rw [Bool.eq_iff_iff, decide_eq_true_eq, decide_eq_true_eq, V.bl.injEq, Bool.eq_iff_iff, decide_eq_true_eq, decide_eq_true_eq, e1, e2]
theorem dgB (k j : Int) : decide (V.int k = V.int j) = decide (k = j) := by simp
/-- what stands between two turns of the loops over pairs -/
structure Mid (K : PySem.W.Frag) (rows : List (List Int)) (xs : List V) (kp wv : Addr) (H0 : Hp) (m : Nat) (H : Hp) : Prop where
  same : Same H0 H
  kept : H kp = some (.tup xs)
  ways : ∃ wks, H wv = some (.dK wks) ∧ WaysAt rows xs.length m wks H
section
variable {P : Program} {w : World} {K : PySem.W.Frag} {mg : Str → Option Value} {base : Heap}
theorem ok_checked_rows (T : Txt w K mg) : FnOk P w K mg base (L2.CX P w) 2 T.a_checked_rows T.d_checked_rows p_checked_rows (spRows K T.CI) := by
  have FR := ok_require (P := P) (base := base) T
  have FW := ok_ways_of (P := P) (base := base) T
  refine T.F_checked_rows.okX sc_checked_rows (fun vs H Q E h => ?_) (fun cdv A outer s H vs Q E hr h => ?_)
  · obtain ⟨_, _, _, _, _, rfl, _⟩ := h
    rfl
  obtain ⟨b, xs, rows, c, n, rfl, hS, hR, sq, hn, hD, hW, hBad, hGood⟩ := h
  have hu := hu_of hr
  have nd := sc_checked_rows.nd
  have c24 := sq.most
  have c1 := sq.pos
  have lenX : xs.length = c := hR.length.trans sq.len
  obtain ⟨J, hJ⟩ := Sq2.of hS
  refine ⟨_, pss_cons (ps_set (i := 1) nd rfl (.inr rfl) (pe_callB call_len_seq (by rfl) T.z_len PySem.boot_len (pa_cons (pv 0) pa_nil)))
    (pss_cons (ps_expr (pe_call FR hr rfl T.m_require T.k_require T.b_require .nil (passes_call (takes_of rfl rfl rfl rfl) (fun _ _ _ _ e => e)) (pa_cons
      (pe_and (pe_chain op_le op_le pe_int (pv 1) (kint rfl T.c_MOST_LISTED)) (pe_one (pe_callB (cr_all rfl) (by rfl) T.z_all PyProof.Rows.boot_all (pa_cons
        (pe_lc (own := [("row", 9)]) (g := gName 9) (tt := tYes) (te := tOp rEq (tCB (rLenN K) (tCons (tVar 9) tNil)) (tVar 1)) rfl nd (pi_seq (pv 0)) (blkOk_by (N := n_checked_rows) (sc := defScope s_checked_rows) (by decide +kernel)) (fun _ _ _ _ _ => pg_name (i := 9) nd rfl (Or.inl rfl)) (fun _ _ _ _ _ => pts_nil)
          (fun _ _ _ _ _ => pe_cmpR op_eq (pe_callB call_lenN (by rfl) T.z_len PySem.boot_len (pa_cons (pv 9) pa_nil)) (pv 1) (nomark _))) pa_nil)))) pa_nil)))
    (pss_cons (ps_set (i := 2) nd rfl (.inl rfl) (pe_callTy call_tuple_of (by rfl) T.z_tuple PyProof.Rows.boot_tuple (pa_cons
        (pe_lc (own := [("row", 9)]) (g := gName 9) (tt := tYes) (te := tCB (rTupN K) (tCons (tVar 9) tNil)) rfl nd (pi_seq (pv 0)) (blkOk_by (N := n_checked_rows) (sc := defScope s_checked_rows) (by decide +kernel)) (fun _ _ _ _ _ => pg_name (i := 9) nd rfl (Or.inl rfl)) (fun _ _ _ _ _ => pts_nil)
          (fun _ _ _ _ _ => pe_callTy call_tupN (by rfl) T.z_tuple PyProof.Rows.boot_tuple (pa_cons (pv 9) pa_nil))) pa_nil)))
    (pss_cons (ps_set (i := 3) nd rfl (.inl rfl) (pe_callB cr_sorted (by rfl) T.z_sorted PyProof.Rows.boot_sorted (pa_cons (pe_callTy (call_list_dK rfl) (by rfl) T.z_list PyProof.Rows.boot_list (pa_cons
        (pe_dc2 (own := [("row", 9), ("kind", 7)]) (vs1 := [7]) (wi1 := iTup K (tVar 9)) (tk := tVar 7) (tv := tC (.bl true)) rfl nd (pi_tup (pv 2)) (blkOk_by (N := n_checked_rows) (sc := defScope s_checked_rows) (by decide +kernel)) (by decide) (fun _ _ _ _ _ => pg_name (i := 9) nd rfl (Or.inl rfl)) (fun _ _ _ _ _ => pi_tup (pv 9))
          (fun _ _ _ _ _ => pg_name (i := 7) nd rfl (Or.inl rfl)) (fun _ _ _ _ _ => pv 7) (fun _ _ _ _ _ => pe_bl)) pa_nil)) pa_nil)))
    (pss_cons (ps_expr (pe_call FR hr rfl T.m_require T.k_require T.b_require .nil (passes_call (takes_of rfl rfl rfl rfl) (fun _ _ _ _ e => e)) (pa_cons
      (pe_and (pe_cmpR (op_eqD hr.units) (pv 3) (pe_listRg rfl (by rfl) T.z_list (prg_1 (by rfl) T.z_range (pe_callB call_len_seq (by rfl) T.z_len PySem.boot_len (pa_cons (pv 3) pa_nil)))) (nomark _))
        (pe_one (pe_cmpR op_le (pe_callB call_len_seq (by rfl) T.z_len PySem.boot_len (pa_cons (pv 3) pa_nil)) (kint rfl T.c_MOST_LISTED_KINDS) (nomark _)))) pa_nil)))
    (pss_cons (ps_set (i := 4) nd rfl (.inl rfl) pe_dnewK)
    (pss_cons (ps_for (passes_of rfl) rfl (pi_range1 rfl T.z_range (pa_cons (pv 1) pa_nil)) (pg_name (i := 5) nd rfl (.inl rfl))
      (pss_one (ps_for (passes_of rfl) rfl (pi_range1 rfl T.z_range (pa_cons (pv 1) pa_nil)) (pg_name (i := 6) nd rfl (.inl rfl))
        (pss_cons (ps_set (i := 7) nd rfl (.inl rfl) (pe_ix ix_tup (pe_ix ix_tup (pv 2) (pv 5) (fun _ _ => rfl)) (pv 6) (fun _ _ => rfl)))
        (pss_cons (ps_expr (pe_call FR hr rfl T.m_require T.k_require T.b_require .nil (passes_call (takes_of rfl rfl rfl rfl) (fun _ _ _ _ e => e)) (pa_cons
          (pe_and (pe_cmpR op_eq (pe_cmpR op_eq (pv 7) pe_int (nomark _)) (pe_cmpR op_eq (pv 5) (pv 6) (nomark _)) (nomark _))
            (pe_one (pe_cmpR op_eq (pv 7) (pe_ix ix_tup (pe_ix ix_tup (pv 2) (pv 6) (fun _ _ => rfl)) (pv 5) (fun _ _ => rfl)) (nomark _)))) pa_nil)))
        (pss_cons (ps_set (i := 8) nd rfl (.inl rfl) (pe_call FW hr rfl T.m_ways_of T.k_ways_of T.b_ways_of .nil pass0 (pa_cons (pv 2) (pa_cons (pv 5) (pa_cons (pv 6) pa_nil)))))
        (pss_cons (ps_expr (pe_call FR hr rfl T.m_require T.k_require T.b_require .nil (passes_call (takes_of rfl rfl rfl rfl) (fun _ _ _ _ e => e)) (pa_cons
          (pe_cmpR (op_eq_dictT hu) (pe_dget2 hu (pv 4) (pv 7) (pv 8) ⟨rfl, rfl, rfl, rfl⟩) (pv 8) (nomark _)) pa_nil)))
        (pss_one (ps_dput hu (pv 4) (pv 7) (pv 8) rfl)))))))))
    (pss_one (ps_ret (pv 2))))))))), ?_⟩
  subst lenX
  have lenR : rows.length = xs.length := sq.len
  have rowLen : ∀ {i : Nat} {v : V}, xs[i]? = some v → ∃ (bb : Addr) (ns : List Int), v = .ref bb ∧ SqT K H bb (ns.map V.int) ∧ ns.length = xs.length := fun {i v} e => by
    obtain ⟨bb, ns, h0, h1, h2⟩ := hR.at e
    exact ⟨bb, ns, h0, h2, sq.each ns (List.mem_of_getElem? h1)⟩
  -- count = len(rows)
  refine ⟨_, rfl, b, xs, rfl, hS, ?_⟩
  -- require(1 <= count <= MOST_LISTED and all(..))
  refine ⟨_, rfl, _, _, rfl, rfl, _, rfl, iteP (decide_eq_true (by omega)) ?_⟩
  refine ⟨_, _, rfl, rfl, _, rfl, iteP (decide_eq_true (by omega)) ?_⟩
  refine ⟨_, rfl, b, xs, J, rfl, hJ, fun D hD0 => lc_seq (a := b) (xs := xs) (J := J) (fun i H' => Same H H' ∧ H' D = some (.lst ((List.replicate i true).map V.bl))) ⟨same_new hD0 _, upd_same⟩ (fun i H' _ ⟨s1, _⟩ => hJ.same s1) ⟨H, hJ⟩ ?_ ?_⟩
  · rintro i v H1 hi ⟨s1, hD1⟩
    obtain ⟨bb, ns, rfl, hT, hl⟩ := rowLen hi
    have hil : i < xs.length := (List.getElem?_eq_some_iff.mp hi).1
    refine ⟨rfl, yes (iteT ?_)⟩
    refine ⟨_, rfl, bb, _, rfl, .inr (Same.tup s1 hT), _, rfl, rfl, _, hD1, fitsL (by rw [List.length_map, List.length_replicate]; omega), ?_, ?_⟩
    · intro c o e
      rw [upd_ne (ne_of_none e hD0)]
      exact s1 c o e
    · rw [upd_same, List.length_map, hl, decide_eq_true rfl, List.replicate_succ', List.map_append]
      rfl
  rintro H1 ⟨s1, hD1⟩
  refine ⟨D, List.replicate xs.length true, rfl, SqL.of hD1, ?_⟩
  refine ⟨_, rfl, fun _ => ?_, fun z => ?_⟩
  rotate_left
  · rw [show (List.replicate xs.length true).all id = true by simp] at z
    cases z
  -- kept = tuple([tuple(row) for row in rows])
  refine ⟨_, rfl, b, xs, J, rfl, hJ.same s1, fun D2 hD2 => lc_seq (a := b) (xs := xs) (J := J) (fun i H' => Same H1 H' ∧ H' D2 = some (.lst (xs.take i))) ⟨same_new hD2 _, upd_same⟩ (fun i H' _ ⟨s2, _⟩ => (hJ.same s1).same s2) ⟨H, hJ⟩ ?_ ?_⟩
  · rintro i v H2 hi ⟨s2, hD3⟩
    obtain ⟨bb, ns, rfl, hT, hl⟩ := rowLen hi
    refine ⟨rfl, yes (iteT ?_)⟩
    refine ⟨_, rfl, bb, _, rfl, .inr ⟨Same.tup s2 (Same.tup s1 hT), _, hD3, fitsL (by rw [List.length_take]; omega), ?_, ?_⟩⟩
    · intro c o e
      rw [upd_ne (ne_of_none e hD2)]
      exact s2 c o e
    · rw [upd_same, take_more hi]
  rintro H2 ⟨s2, hD3⟩
  rw [List.take_length] at hD3
  refine ⟨D2, xs, rfl, .inl ⟨SqL.of hD3, fun kp hkp => ?_⟩⟩
  have s3 : Same H (upd H2 kp (.tup xs)) := s1.trans (s2.trans (same_new hkp _))
  -- kinds = sorted(list({..}))
  have fl : rows.flatten.length ≤ 10000 := by
    rw [flatten_len sq.each, lenR]
    have := Nat.mul_le_mul c24 c24
    omega
  refine ⟨_, rfl, kp, rfl, ⟨xs, SqT.of upd_same⟩, fun Dk hDk => read_kinds (v0 := some (.ref b)) (v1 := some (.int (xs.length : Int))) (v3 := none) (v4 := none) (v5 := none) (v6 := none) (v7 := none) (v8 := none) (v9 := none) (SqT.of upd_same) (hR.same s3) fl hDk fun H3 kvs ks s4 hDk3 ok => ?_⟩
  obtain ⟨q, hq8, hq⟩ := sq.kinds
  have memq : ∀ z : Int, z ∈ ks ↔ 0 ≤ z ∧ z < q := fun z => (ok.mem z).trans (hq z)
  have lenk : ks.length = q := by
    have h1 := perm_range ok.nd memq
    rw [h1.length_eq, List.length_map, List.length_range]
  refine ⟨Dk, kvs, rfl, hDk3, fun dl hdl => ⟨dl, ks, rfl, SqL.of (by rw [upd_same, ok.vals]), by omega, fun ns' sp hperm hsort hsp => ?_⟩⟩
  obtain rfl := range_of hperm hsort ok.nd memq
  have lenn : ((List.range q).map fun i => ((i : Nat) : Int)).length = q := by rw [List.length_map, List.length_range]
  generalize hns : ((List.range q).map fun i => ((i : Nat) : Int)) = ns' at hperm hsort hsp lenn ⊢
  generalize hH4 : upd (upd H3 dl (.lst (kvs.map fun kv => kV kv.1))) sp (.lst (ns'.map V.int)) = H4
  have hdl4 : H4 sp = some (.lst (ns'.map V.int)) := by rw [← hH4]; exact upd_same
  have s5 : Same (upd H2 kp (.tup xs)) H4 := by
    rw [← hH4]
    exact s4.trans ((same_new hdl _).trans (same_new hsp _))
  have s6 : Same H H4 := s3.trans s5
  have hkp4 : H4 kp = some (.tup xs) := s5 _ _ upd_same
  -- require(kinds == list(range(len(kinds))) and ..)
  refine ⟨_, rfl, _, rfl, sp, _, rfl, .inl (SqL.of hdl4), _, rfl, RgOk.of_le (by omega) (by rw [List.length_map]; omega) (by omega) (by omega), fun rl hrl => ?_⟩
  have erg : rgV 0 (((ns'.map V.int).length : Nat) : Int) = ns'.map V.int := by
    rw [List.length_map, lenn, rgV_nat, hns]
  refine ⟨pyInts ns', pyInts ns', .lst (SqL.of (by rw [upd_ne (ne_of_none hdl4 hrl)]; exact hdl4)) (dpAll_ints _ _ _), .lst (SqL.of (by rw [upd_same, erg])) (dpAll_ints _ _ _), shaped_ints _, shaped_ints _, _, rfl, iteP (eqv_refl_ints _) ?_⟩
  generalize hH5 : upd H4 rl (.lst (rgV 0 (((ns'.map V.int).length : Nat) : Int))) = H5
  have s7 : Same H4 H5 := by rw [← hH5]; exact same_new hrl _
  refine ⟨_, rfl, sp, _, rfl, .inl (SqL.of (s7 _ _ hdl4)), _, _, rfl, rfl, _, rfl, fun _ => ?_, fun z => ?_⟩
  rotate_left
  · have z' := of_decide_eq_false z
    rw [List.length_map, lenn] at z'
    omega
  -- ways = {}
  intro wv hwv
  have hHwv : H wv = none := (s6.trans s7).free hwv
  have mid0 : Mid K rows xs kp wv H 0 (upd H5 wv (.dK [])) := by
    refine ⟨s6.trans (s7.trans (same_new hwv _)), ?_, [], upd_same, Nat.le_refl _, fun key d e => ?_⟩
    · rw [upd_ne (ne_of_none (s7 _ _ hkp4) hwv)]
      exact s7 _ _ hkp4
    · rw [valV_nil] at e
      cases e
  -- the loops
  refine ⟨_, rfl, _, rfl, by omega, by omega, for_n (n := xs.length) (fun x σ H' => ∃ v5 v6 v7 v8 : Option V, σ = [some (.ref b), some (.int (xs.length : Int)), some (.ref kp), some (.ref sp), some (.ref wv), v5, v6, v7, v8, none] ∧ x * xs.length ≤ n ∧ Mid K rows xs kp wv H (x * xs.length) H')
    ⟨none, none, none, none, rfl, by omega, by rw [Nat.zero_mul]; exact mid0⟩ ?_ ?_⟩
  rotate_left
  · rintro σ H' ⟨v5, v6, v7, v8, rfl, hle, M⟩
    exact ⟨_, rfl, hGood (by omega) kp xs H' M.same (SqT.of M.kept) (hR.same M.same)⟩
  rintro x σ H6 hx ⟨v5, v6, v7, v8, rfl, hle, M6⟩
  refine ⟨_, rfl, _, rfl, by omega, by omega, for_n (n := xs.length) (fun y σ H' => ∃ v6 v7 v8 : Option V, σ = [some (.ref b), some (.int (xs.length : Int)), some (.ref kp), some (.ref sp), some (.ref wv), some (.int (x : Int)), v6, v7, v8, none] ∧ x * xs.length + y ≤ n ∧ Mid K rows xs kp wv H (x * xs.length + y) H')
    ⟨v6, v7, v8, rfl, hle, M6⟩ ?_ ?_⟩
  rotate_left
  · rintro σ H' ⟨v6, v7, v8, rfl, hle, M⟩
    exact ⟨some (.int (x : Int)), v6, v7, v8, rfl, by rw [Nat.succ_mul]; exact hle, by rw [Nat.succ_mul]; exact M⟩
  rintro y σ H7 hy ⟨v6, v7, v8, rfl, hle, M7⟩
  obtain ⟨s8, hkp7, wks, hwv7, hlen7, hway7⟩ := M7
  have hidx := idx_lt hx hy
  obtain ⟨erx, lrx⟩ := sq.row hx
  obtain ⟨ery, lry⟩ := sq.row hy
  have R7 := hR.same s8
  obtain ⟨bx, ebx, sbx⟩ := R7.get erx
  obtain ⟨by', eby, sby⟩ := R7.get ery
  have cxy := of_item (sq.cell hx hy)
  have cyx := of_item (sq.cell hy hx)
  -- kind = kept[x][y]
  refine ⟨_, rfl, _, rfl, kp, xs, _, _, rfl, rfl, SqT.of hkp7, atI_nat ebx, _, rfl, bx, _, _, _, rfl, rfl, sbx, atI_nat cxy, ?_⟩
  -- require((kind == 0) == (x == y) and kind == kept[y][x])
  refine ⟨_, rfl, rfl, _, rfl, _, rfl, rfl, rfl, _, rfl, ?_⟩
  by_cases hm : x * xs.length + y < n
  rotate_left
  · obtain ⟨bad, hE⟩ := hBad x y hx hy (by omega)
    by_cases d1 : (cel rows x y = 0 ↔ x = y)
    · refine iteP ((dgA _ _ _).trans (decide_eq_true d1)) ?_
      refine ⟨_, rfl, _, rfl, _, rfl, kp, xs, _, _, rfl, rfl, SqT.of hkp7, atI_nat eby, _, rfl, by', _, _, _, rfl, rfl, sby, atI_nat cyx, rfl, _, rfl, fun z => ?_, fun _ => hE H7 s8⟩
      exact absurd ⟨d1, of_decide_eq_true ((dgB _ _).symm.trans z)⟩ bad
    · refine iteQ ((dgA _ _ _).trans (decide_eq_false d1)) ?_
      exact ⟨false, rfl, fun z => Bool.noConfusion z, fun _ => hE H7 s8⟩
  obtain ⟨d1, d2⟩ := hD x y hx hy hm
  refine iteP ((dgA _ _ _).trans (decide_eq_true d1)) ?_
  refine ⟨_, rfl, _, rfl, _, rfl, kp, xs, _, _, rfl, rfl, SqT.of hkp7, atI_nat eby, _, rfl, by', _, _, _, rfl, rfl, sby, atI_nat cyx, rfl, _, rfl, fun _ => ?_, fun z => absurd d2 (of_decide_eq_false ((dgB _ _).symm.trans z))⟩
  -- told = ways_of(kept, x, y)
  refine ⟨_, rfl, _, rfl, _, rfl, kp, x, y, xs, rows, _, _, rfl, SqT.of hkp7, R7, erx, ery, by rw [lrx, lry], by omega, fun t H8 s9 ht7 ht8 => ?_⟩
  have hwv8 : H8 wv = some (.dK wks) := s9 _ _ hwv7
  have got : ∃ t' x' y', x' < xs.length ∧ y' < xs.length ∧ x' * xs.length + y' < n ∧ cel rows x y = cel rows x' y' ∧ (valV wks (Sum.inl (cel rows x y))).getD (.ref t) = .ref t' ∧ H8 t' = some (.dT (wd (prs rows x' y'))) := by
    cases hv : valV wks (Sum.inl (cel rows x y) : Key) with
    | none => exact ⟨t, x, y, hx, hy, hm, rfl, rfl, ht8⟩
    | some d =>
      obtain ⟨x', y', t', hx', hy', hm', ek, ed, ht'⟩ := hway7 _ _ hv
      exact ⟨t', x', y', hx', hy', by omega, Sum.inl.inj ek, ed, s9 _ _ ht'⟩
  obtain ⟨t', x', y', hx', hy', hm', ecel, eget, ht'⟩ := got
  obtain ⟨pl, pv'⟩ := wd_perm (hW x y x' y' hx hy hx' hy' hm hm' ecel)
  -- require(ways.get(kind, told) == told)
  refine ⟨_, rfl, wv, rfl, .inl ⟨wks, .inl hwv8⟩, _, rfl, _, rfl, _, DGet.k (k := Sum.inl (cel rows x y)) hwv8, _, rfl, t', t, _, _, eget, rfl, ht', ht8, pl, pv', true, rfl, fun _ => ?_, fun z => Bool.noConfusion z⟩
  -- ways[kind] = told
  have lw : wks.length < sizeLine := by
    refine fitsL ?_
    have := Nat.mul_le_mul c24 c24
    omega
  refine ⟨_, rfl, _, rfl, _, rfl, wv, _, rfl, DPut.k (k := Sum.inl (cel rows x y)) hwv8 lw, ?_⟩
  have ntw : t ≠ wv := ne_of ht8 hwv8 (fun z => nomatch z)
  refine ⟨some (.int (y : Int)), some (.int (cel rows x y)), some (.ref t), rfl, by omega, ?_, ?_, _, upd_same, ?_, fun key d e => ?_⟩
  · intro c o e
    rw [upd_ne (ne_of_none e hHwv)]
    exact s9 _ _ (s8 c o e)
  · rw [upd_ne (ne_of (s9 _ _ hkp7) hwv8 (fun z => nomatch z))]
    exact s9 _ _ hkp7
  · have := length_putK wks (Sum.inl (cel rows x y) : Key) (.ref t)
    omega
  · rw [valV_put] at e
    by_cases ek : key = Sum.inl (cel rows x y)
    · rw [if_pos ek] at e
      refine ⟨x, y, t, hx, hy, by omega, ek, (Option.some.inj e).symm, ?_⟩
      rw [upd_ne ntw]
      exact ht8
    · rw [if_neg ek] at e
      obtain ⟨x2, y2, t2, h1, h2, h3, h4, h5, h6⟩ := hway7 _ _ e
      refine ⟨x2, y2, t2, h1, h2, by omega, h4, h5, ?_⟩
      rw [upd_ne (ne_of (s9 _ _ h6) hwv8 (fun z => nomatch z))]
      exact s9 _ _ h6
end
end K5
set_option Elab.async false
set_option linter.all false
set_option maxRecDepth 100000
set_option maxHeartbeats 8000000
/-! Trees: what they are worth, how they lie in the heap. -/
namespace K5
open PySem PySem.Spec PyProof.Rows L2
inductive Tr where
  | words (n k : Int)
  | sets (n k : Int)
  | listed (rows : List (List Int))
  | prod (s t : Tr)
def mxL : List Int → Int
  | [] => 0
  | a :: l => if mxL l ≤ a then a else mxL l
theorem mxL_eq : ∀ {l : List Int} {m : Int}, m ∈ l → (∀ y ∈ l, y ≤ m) → (∀ y ∈ l, 0 ≤ y) → m = mxL l := by
  have le : ∀ (l : List Int), 0 ≤ mxL l ∧ (∀ y ∈ l, y ≤ mxL l) ∧ (∀ m : Int, 0 ≤ m → (∀ y ∈ l, y ≤ m) → mxL l ≤ m) ∨ ∃ y ∈ l, y < 0 := by
    intro l
    induction l with
    | nil => exact .inl ⟨Int.le_refl _, (fun y h => nomatch h), fun m h _ => h⟩
    | cons a l ih =>
      rcases ih with ⟨h0, h1, h2⟩ | ⟨y, hy, h⟩
      · by_cases ha : a < 0
        · exact .inr ⟨a, List.mem_cons_self, ha⟩
        · refine .inl ⟨?_, fun y hy => ?_, fun m hm hall => ?_⟩
          · unfold mxL; split <;> omega
          · unfold mxL
            rcases List.mem_cons.mp hy with e | hy
            · subst e; split <;> omega
            · have := h1 y hy; split <;> omega
          · have b1 := hall a List.mem_cons_self
            have b2 := h2 m hm fun y hy => hall y (List.mem_cons_of_mem _ hy)
            unfold mxL; split <;> omega
      · exact .inr ⟨y, List.mem_cons_of_mem _ hy, h⟩
  intro l m hm hall hpos
  rcases le l with ⟨h0, h1, h2⟩ | ⟨y, hy, h⟩
  · have a := h1 m hm
    have b := h2 m (hpos m hm) hall
    omega
  · have := hpos y hy
    omega
def Tr.ht : Tr → Nat
  | .prod s t => (if s.ht ≤ t.ht then t.ht else s.ht) + 1
  | _ => 1
def Tr.parts : Tr → Int
  | .prod s t => s.parts + t.parts + 1
  | _ => 1
def Tr.points : Tr → Int
  | .words n k => pw k n.toNat
  | .sets n k => ch n k.toNat
  | .listed rows => rows.length
  | .prod s t => s.points * t.points
def Tr.kinds : Tr → Int
  | .words n _ => n + 1
  | .sets _ k => k + 1
  | .listed rows => mxL (rows.getD 0 []) + 1
  | .prod s t => s.kinds * t.kinds
abbrev big : Int := 1000000000000000000000000000000000000000000000000000000000000
/-- a table that is a scheme -/
def Lsd (rows : List (List Int)) : Prop := ∃ c, Square rows c ∧ (∀ x y, x < c → y < c → Dg rows x y) ∧
  (∀ x y x' y', x < c → y < c → x' < c → y' < c → cel rows x y = cel rows x' y' → (prs rows x' y').Perm (prs rows x y))
def Tr.Ok : Tr → Prop
  | .words n k => 1 ≤ n ∧ n ≤ 40 ∧ 2 ≤ k ∧ k ≤ 31
  | .sets n k => 1 ≤ k ∧ k ≤ 20 ∧ 2 * k ≤ n ∧ n ≤ 80
  | .listed rows => Lsd rows
  | .prod s t => s.Ok ∧ t.Ok ∧ s.points * t.points ≤ big ∧ s.kinds * t.kinds ≤ 60 ∧ s.parts + t.parts < 8
theorem ipow_le {b : Int} (hb : 1 ≤ b) {i j : Nat} (h : i ≤ j) : b ^ i ≤ b ^ j := by
  induction h with
  | refl => exact Int.le_refl _
  | @step m _ ih =>
    have h0 : 0 ≤ b ^ m := Int.le_trans (Int.pow_nonneg (by omega : 0 ≤ b)) ih
    rw [Int.pow_succ]
    have e : b ^ m * 1 ≤ b ^ m * b := Int.mul_le_mul_of_nonneg_left hb h0
    rw [Int.mul_one] at e
    exact Int.le_trans ih e
theorem pw_le {b : Int} (h0 : 0 ≤ b) (h1 : b ≤ 31) : ∀ j : Nat, 0 ≤ pw b j ∧ pw b j ≤ 31 ^ j
  | 0 => by simp [pw]
  | j + 1 => by
    obtain ⟨a, c⟩ := pw_le h0 h1 j
    refine ⟨Int.mul_nonneg a h0, ?_⟩
    show pw b j * b ≤ 31 ^ (j + 1)
    rw [Int.pow_succ]
    exact Int.mul_le_mul c h1 h0 (Int.le_trans a c)
theorem ch_le {n : Int} (h1 : n ≤ 80) : ∀ j : Nat, (j : Int) ≤ n → 0 ≤ ch n j ∧ ch n j ≤ 80 ^ j
  | 0, _ => by simp [ch]
  | j + 1, h => by
    have hj : (j : Int) + 1 ≤ n := by omega
    obtain ⟨a, c⟩ := ch_le h1 j (by omega)
    have e1 : 0 ≤ ch n j * (n - j) := Int.mul_nonneg a (by omega)
    have e2 : ch n j * (n - j) ≤ 80 ^ j * 80 := Int.mul_le_mul c (by omega) (by omega) (Int.le_trans a c)
    show 0 ≤ ch n j * (n - j) / (j + 1) ∧ ch n j * (n - j) / (j + 1) ≤ 80 ^ (j + 1)
    rw [Int.pow_succ]
    refine ⟨Int.ediv_nonneg e1 (by omega), Int.le_trans ?_ e2⟩
    exact Int.ediv_le_self _ e1
theorem Lsd.row0 {rows : List (List Int)} (h : Lsd rows) : ∃ r, rows[0]? = some r ∧ rows.getD 0 [] = r ∧ 0 < r.length ∧ (∀ y ∈ r, 0 ≤ y) ∧ (∀ y ∈ r, y < 8) := by
  obtain ⟨c, sq, _, _⟩ := h
  have hp := sq.pos
  obtain ⟨e1, e2⟩ := sq.row (x := 0) (by omega)
  obtain ⟨q, hq, hk⟩ := sq.kinds
  refine ⟨_, e1, rfl, by omega, fun y hy => ?_, fun y hy => ?_⟩
  · exact ((hk y).1 (List.mem_flatten.mpr ⟨_, List.mem_of_getElem? e1, hy⟩)).1
  · have := ((hk y).1 (List.mem_flatten.mpr ⟨_, List.mem_of_getElem? e1, hy⟩)).2
    omega
theorem Tr.Ok.points_le : ∀ {T : Tr}, T.Ok → 0 ≤ T.points ∧ T.points ≤ big
  | .words n k, ⟨h1, h2, h3, h4⟩ => by
    obtain ⟨a, b⟩ := pw_le (b := k) (by omega) h4 n.toNat
    refine ⟨a, Int.le_trans b ?_⟩
    have e : (31 : Int) ^ n.toNat ≤ 31 ^ 40 := ipow_le (by omega) (by omega)
    exact Int.le_trans e (by decide)
  | .sets n k, ⟨h1, h2, h3, h4⟩ => by
    obtain ⟨a, b⟩ := ch_le (n := n) h4 k.toNat (by omega)
    refine ⟨a, Int.le_trans b ?_⟩
    have e : (80 : Int) ^ k.toNat ≤ 80 ^ 20 := ipow_le (by omega) (by omega)
    exact Int.le_trans e (by decide)
  | .listed rows, h => by
    obtain ⟨c, sq, _⟩ := h
    have := sq.len
    have := sq.most
    show (0 : Int) ≤ rows.length ∧ (rows.length : Int) ≤ big
    unfold big
    omega
  | .prod s t, ⟨hs, ht, hp, _, _⟩ => by
    obtain ⟨a, _⟩ := hs.points_le
    obtain ⟨b, _⟩ := ht.points_le
    exact ⟨Int.mul_nonneg a b, hp⟩
theorem Tr.Ok.kinds_le : ∀ {T : Tr}, T.Ok → 0 ≤ T.kinds ∧ T.kinds ≤ 60
  | .words n k, ⟨h1, h2, h3, h4⟩ => by show 0 ≤ n + 1 ∧ n + 1 ≤ 60; omega
  | .sets n k, ⟨h1, h2, h3, h4⟩ => by show 0 ≤ k + 1 ∧ k + 1 ≤ 60; omega
  | .listed rows, h => by
    obtain ⟨r, _, e, hl, h0, h8⟩ := Lsd.row0 h
    show 0 ≤ mxL (rows.getD 0 []) + 1 ∧ mxL (rows.getD 0 []) + 1 ≤ 60
    rw [e]
    have all : ∀ l : List Int, (∀ y ∈ l, 0 ≤ y) → (∀ y ∈ l, y < 8) → 0 ≤ mxL l ∧ mxL l < 8 := by
      intro l
      induction l with
      | nil => intro _ _; show (0 : Int) ≤ 0 ∧ (0 : Int) < 8; omega
      | cons a l ih =>
        intro p q
        obtain ⟨u, v⟩ := ih (fun y hy => p y (List.mem_cons_of_mem _ hy)) fun y hy => q y (List.mem_cons_of_mem _ hy)
        have := p a List.mem_cons_self
        have := q a List.mem_cons_self
        unfold mxL
        split <;> omega
    obtain ⟨u, v⟩ := all r h0 h8
    omega
  | .prod s t, ⟨hs, ht, _, hk, _⟩ => by
    obtain ⟨a, _⟩ := hs.kinds_le
    obtain ⟨b, _⟩ := ht.kinds_le
    exact ⟨Int.mul_nonneg a b, hk⟩
theorem Tr.parts_pos : ∀ T : Tr, 1 ≤ T.parts
  | .words _ _ => Int.le_refl _
  | .sets _ _ => Int.le_refl _
  | .listed _ => Int.le_refl _
  | .prod s t => by
    have := s.parts_pos
    have := t.parts_pos
    show 1 ≤ s.parts + t.parts + 1
    omega
theorem Tr.Ok.parts_le : ∀ {T : Tr}, T.Ok → T.parts ≤ 8
  | .words _ _, _ => by show (1 : Int) ≤ 8; decide
  | .sets _ _, _ => by show (1 : Int) ≤ 8; decide
  | .listed _, _ => by show (1 : Int) ≤ 8; decide
  | .prod s t, ⟨_, _, _, _, h⟩ => by show s.parts + t.parts + 1 ≤ 8; omega
theorem Tr.ht_parts : ∀ T : Tr, 2 * (T.ht : Int) ≤ T.parts + 1
  | .words _ _ => by show 2 * (1 : Int) ≤ 1 + 1; decide
  | .sets _ _ => by show 2 * (1 : Int) ≤ 1 + 1; decide
  | .listed _ => by show 2 * (1 : Int) ≤ 1 + 1; decide
  | .prod s t => by
    have a := s.ht_parts
    have b := t.ht_parts
    have := s.parts_pos
    have := t.parts_pos
    show 2 * (((if s.ht ≤ t.ht then t.ht else s.ht) + 1 : Nat) : Int) ≤ s.parts + t.parts + 1 + 1
    split <;> omega
theorem Tr.ht_pos (T : Tr) : 1 ≤ T.ht := by cases T <;> exact Nat.succ_le_succ (Nat.zero_le _)
theorem bits_big {i : Int} (h0 : 0 ≤ i) (h1 : i ≤ big) : i.natAbs < 2 ^ 200 := by
  have e : (i.natAbs : Int) = i := by omega
  have e2 : ((2 : Nat) ^ 200 : Nat) = 1606938044258990275541962092341162602522202993782792835301376 := by decide
  rw [e2]
  unfold big at h1
  omega

/-! ### in the heap -/
/-- as handed in: rows a list or a tuple -/
def TreeAt (K : PySem.W.Frag) (H : Hp) : Tr → V → Prop
  | .words n k, v => ∃ a, v = .ref a ∧ SqT K H a [.str "words", .int n, .int k]
  | .sets n k, v => ∃ a, v = .ref a ∧ SqT K H a [.str "sets", .int n, .int k]
  | .listed rows, v => ∃ a b xs, v = .ref a ∧ SqT K H a [.str "listed", .ref b] ∧ (SqL K H b xs ∨ SqT K H b xs) ∧ Rs K H xs rows
  | .prod s t, v => ∃ a x y, v = .ref a ∧ SqT K H a [.str "product", x, y] ∧ TreeAt K H s x ∧ TreeAt K H t y
/-- as handed back: tuples alone -/
def TreeT (K : PySem.W.Frag) (H : Hp) : Tr → V → Prop
  | .words n k, v => ∃ a, v = .ref a ∧ SqT K H a [.str "words", .int n, .int k]
  | .sets n k, v => ∃ a, v = .ref a ∧ SqT K H a [.str "sets", .int n, .int k]
  | .listed rows, v => ∃ a b xs, v = .ref a ∧ SqT K H a [.str "listed", .ref b] ∧ SqT K H b xs ∧ Rs K H xs rows
  | .prod s t, v => ∃ a x y, v = .ref a ∧ SqT K H a [.str "product", x, y] ∧ TreeT K H s x ∧ TreeT K H t y
theorem TreeT.at {K : PySem.W.Frag} {H : Hp} : ∀ {T : Tr} {v : V}, TreeT K H T v → TreeAt K H T v
  | .words _ _, _, h => h
  | .sets _ _, _, h => h
  | .listed _, _, ⟨a, b, xs, e, h1, h2, h3⟩ => ⟨a, b, xs, e, h1, .inr h2, h3⟩
  | .prod _ _, _, ⟨a, x, y, e, h1, h2, h3⟩ => ⟨a, x, y, e, h1, h2.at, h3.at⟩
theorem TreeT.same {K : PySem.W.Frag} {H H' : Hp} (e : Same H H') : ∀ {T : Tr} {v : V}, TreeT K H T v → TreeT K H' T v
  | .words _ _, _, ⟨a, h0, h1⟩ => ⟨a, h0, Same.tup e h1⟩
  | .sets _ _, _, ⟨a, h0, h1⟩ => ⟨a, h0, Same.tup e h1⟩
  | .listed _, _, ⟨a, b, xs, h0, h1, h2, h3⟩ => ⟨a, b, xs, h0, Same.tup e h1, Same.tup e h2, h3.same e⟩
  | .prod _ _, _, ⟨a, x, y, h0, h1, h2, h3⟩ => ⟨a, x, y, h0, Same.tup e h1, TreeT.same e h2, TreeT.same e h3⟩
theorem TreeAt.same {K : PySem.W.Frag} {H H' : Hp} (e : Same H H') : ∀ {T : Tr} {v : V}, TreeAt K H T v → TreeAt K H' T v
  | .words _ _, _, ⟨a, h0, h1⟩ => ⟨a, h0, Same.tup e h1⟩
  | .sets _ _, _, ⟨a, h0, h1⟩ => ⟨a, h0, Same.tup e h1⟩
  | .listed _, _, ⟨a, b, xs, h0, h1, h2, h3⟩ => ⟨a, b, xs, h0, Same.tup e h1, h2.elim (fun z => .inl (Same.seq e z)) (fun z => .inr (Same.tup e z)), h3.same e⟩
  | .prod _ _, _, ⟨a, x, y, h0, h1, h2, h3⟩ => ⟨a, x, y, h0, Same.tup e h1, TreeAt.same e h2, TreeAt.same e h3⟩
/-- what is no scheme: the law's four, and products that begin with such a one -/
def BadAt (K : PySem.W.Frag) (H : Hp) : Nat → V → Prop
  | 0, v => ∃ a, v = .ref a ∧ (SqT K H a [.str "words", .int 0, .int 2] ∨ SqT K H a [.str "sets", .int 3, .int 2] ∨
      (∃ b xs, SqT K H a [.str "listed", .ref b] ∧ SqT K H b xs ∧ Rs K H xs [[0, 1], [0, 0]]) ∨ ∃ x, SqT K H a [.str "product", x])
  | m + 1, v => ∃ a x y, v = .ref a ∧ SqT K H a [.str "product", x, y] ∧ BadAt K H m x
theorem BadAt.same {K : PySem.W.Frag} {H H' : Hp} (e : Same H H') : ∀ {m : Nat} {v : V}, BadAt K H m v → BadAt K H' m v
  | 0, _, ⟨a, h0, h⟩ => by
    refine ⟨a, h0, ?_⟩
    rcases h with h | h | ⟨b, xs, h1, h2, h3⟩ | ⟨x, h⟩
    · exact .inl (Same.tup e h)
    · exact .inr (.inl (Same.tup e h))
    · exact .inr (.inr (.inl ⟨b, xs, Same.tup e h1, Same.tup e h2, h3.same e⟩))
    · exact .inr (.inr (.inr ⟨x, Same.tup e h⟩))
  | m + 1, _, ⟨a, x, y, h0, h1, h2⟩ => ⟨a, x, y, h0, Same.tup e h1, BadAt.same e h2⟩
/-- the bad table: the pair (0, 1) breaks it -/
theorem bad_square : Square [[0, 1], [0, 0]] 2 := ⟨rfl, by decide, by decide, fun r hr => by
    rcases List.mem_cons.mp hr with e | hr
    · rw [e]; rfl
    · rw [List.mem_singleton.mp hr]; rfl, 2, by decide, fun k => by
    simp
    omega⟩
end K5
set_option Elab.async false
set_option linter.all false
set_option maxRecDepth 100000
set_option maxHeartbeats 16000000
/-! checked_part, checked. -/
namespace K5
open PySem PySem.Spec PyProof.Rows L2
/-- a tree of at most f levels: checked; or a bad one: refused -/
def spPart (K : PySem.W.Frag) (CI : Addr) (f : Nat) : Sp := fun vs H Q E => ∃ (v : V) (d : Int), vs = [v, .int d] ∧ 1 ≤ d ∧
  ((∃ T : Tr, TreeAt K H T v ∧ T.Ok ∧ T.ht ≤ f ∧ d + T.ht ≤ 9 ∧ ∀ p x H', Same H H' → SqT K H' p [x, .int T.parts, .int T.points, .int T.kinds] → TreeT K H' T x → Q (.ref p) H') ∨
   (∃ m : Nat, m < f ∧ d + m ≤ 8 ∧ BadAt K H m v ∧ ∀ H', Same H H' → E (.ref CI) none H'))
section
variable {P : Program} {w : World} {K : PySem.W.Frag} {mg : Str → Option Value} {base : Heap}
theorem kd_of {a : Addr} {es : Array DictEntry} {n : Nat} {x : Str} {i : Int} (D : KDict K w a es n) (h : ∃ t, PySem.W.nsIn K a x = some (some (.int i t))) : KDct K w a x (.int i) := by
  obtain ⟨t, e⟩ := h
  exact ⟨es, n, _, D.at_, D.lit, e, t, rfl⟩
theorem s_wp : decide (V.str "words" = V.str "product") = false := by decide +kernel
theorem s_wl : decide (V.str "words" = V.str "listed") = false := by decide +kernel
theorem s_sp : decide (V.str "sets" = V.str "product") = false := by decide +kernel
theorem s_sl : decide (V.str "sets" = V.str "listed") = false := by decide +kernel
theorem s_sw : decide (V.str "sets" = V.str "words") = false := by decide +kernel
theorem s_lp : decide (V.str "listed" = V.str "product") = false := by decide +kernel
theorem part_step (T : Txt w K mg) (f : Nat) (G : FnOk P w K mg base (L2.CX P w) (2 + f) T.a_checked_part T.d_checked_part p_checked_part (spPart K T.CI f)) :
    FnOk P w K mg base (L2.CX P w) (2 + f + 1) T.a_checked_part T.d_checked_part p_checked_part (spPart K T.CI (f + 1)) := by
  have FR := ok_require (P := P) (base := base) T
  have FW := ok_checked_rows (P := P) (base := base) T
  have FP := ok_power_of (P := P) (base := base) T
  have FC := ok_choose (P := P) (base := base) T
  refine T.F_checked_part.ok sc_checked_part (fun vs H Q E h => ?_) (fun cdv A outer s H vs Q E hr h => ?_)
  · obtain ⟨_, _, rfl, _⟩ := h
    rfl
  obtain ⟨v, d, rfl, hd, h⟩ := h
  have hr1 : Room 1 _ := hr.mono (by omega)
  have hr2 : Room 2 _ := hr.mono (by omega)
  have nd := sc_checked_part.nd
  refine ⟨_, pss_cons (ps_expr (pe_call FR hr1 rfl T.m_require T.k_require T.b_require .nil (passes_call (takes_of rfl rfl rfl rfl) (fun _ _ _ _ e => e)) (pa_cons
      (pe_and (pe_cmpR op_le (pv 1) (kint rfl T.c_MOST_PARTS) (nomark _)) (pe_and (pe_cmpR op_gt (pe_callB call_len_seq (by rfl) T.z_len PySem.boot_len (pa_cons (pv 0) pa_nil)) pe_int (nomark _))
        (pe_and (pe_cmpR (op_in_kd T.D_MEMBERS) (pe_ix ix_tup (pv 0) pe_int (fun _ _ => rfl)) (pe_glob (v := .ref T.a_MEMBERS) rfl T.m_MEMBERS rfl) (by with_unfolding_all rfl))
          (pe_one (pe_cmpR op_eq (pe_callB call_len_seq (by rfl) T.z_len PySem.boot_len (pa_cons (pv 0) pa_nil)) (pe_ix ix_kdict (pe_glob (v := .ref T.a_MEMBERS) rfl T.m_MEMBERS rfl) (pe_ix ix_tup (pv 0) pe_int (fun _ _ => rfl)) (fun _ _ => rfl)) (nomark _)))))) pa_nil)))
    (pss_cons (ps_if (pt_cmpR op_eq (pe_ix ix_tup (pv 0) pe_int (fun _ _ => rfl)) pe_str (nomark _))
      (pss_cons (ps_asg (pe_call G hr rfl T.m_checked_part T.k_checked_part T.b_checked_part .nil (passes_call (takes_of rfl rfl rfl rfl) (fun _ _ _ _ e => e)) (pa_cons (pe_ix ix_tup (pv 0) pe_int (fun _ _ => rfl)) (pa_cons (pe_op op_add (pv 1) pe_int) pa_nil)))
        (pg_tup rfl (pgs_cons (pg_name (i := 2) nd rfl (.inl rfl)) (pgs_cons (pg_name (i := 3) nd rfl (.inl rfl)) (pgs_cons (pg_name (i := 4) nd rfl (.inl rfl)) (pgs_cons (pg_name (i := 5) nd rfl (.inl rfl)) pgs_nil))))))
      (pss_cons (ps_asg (pe_call G hr rfl T.m_checked_part T.k_checked_part T.b_checked_part .nil (passes_call (takes_of rfl rfl rfl rfl) (fun _ _ _ _ e => e)) (pa_cons (pe_ix ix_tup (pv 0) pe_int (fun _ _ => rfl)) (pa_cons (pe_op op_add (pv 1) pe_int) pa_nil)))
        (pg_tup rfl (pgs_cons (pg_name (i := 6) nd rfl (.inl rfl)) (pgs_cons (pg_name (i := 7) nd rfl (.inl rfl)) (pgs_cons (pg_name (i := 8) nd rfl (.inl rfl)) (pgs_cons (pg_name (i := 9) nd rfl (.inl rfl)) pgs_nil))))))
      (pss_cons (ps_expr (pe_call FR hr1 rfl T.m_require T.k_require T.b_require .nil (passes_call (takes_of rfl rfl rfl rfl) (fun _ _ _ _ e => e)) (pa_cons
        (pe_and (pe_cmpR op_lt (pe_op op_add (pv 3) (pv 7)) (kint rfl T.c_MOST_PARTS) (nomark _)) (pe_and (pe_cmpR op_le (pe_op op_mulW (pv 4) (pv 8)) (kint rfl T.c_MOST_POINTS) (nomark _))
          (pe_one (pe_cmpR op_le (pe_op op_mul (pv 5) (pv 9)) (kint rfl T.c_MOST_KINDS) (nomark _))))) pa_nil)))
      (pss_one (ps_ret (pe_tup (pa_cons (pe_tup (pa_cons pe_str (pa_cons (pv 2) (pa_cons (pv 6) pa_nil)))) (pa_cons (pe_op op_add (pe_op op_add (pv 3) (pv 7)) pe_int) (pa_cons (pe_op op_mulW (pv 4) (pv 8)) (pa_cons (pe_op op_mul (pv 5) (pv 9)) pa_nil))))))))))
      pss_nil)
    (pss_cons (ps_if (pt_cmpR op_eq (pe_ix ix_tup (pv 0) pe_int (fun _ _ => rfl)) pe_str (nomark _))
      (pss_cons (ps_set (i := 10) nd rfl (.inl rfl) (pe_call FW hr2 rfl T.m_checked_rows T.k_checked_rows T.b_checked_rows .nil (passes_call (takes_of rfl rfl rfl rfl) (fun _ _ _ _ e => e)) (pa_cons (pe_ix ix_tup (pv 0) pe_int (fun _ _ => rfl)) pa_nil)))
      (pss_one (ps_ret (pe_tup (pa_cons (pe_tup (pa_cons pe_str (pa_cons (pv 10) pa_nil))) (pa_cons pe_int (pa_cons (pe_callB call_len_seq (by rfl) T.z_len PySem.boot_len (pa_cons (pv 10) pa_nil))
        (pa_cons (pe_op op_add (pe_callB (cr_maxT rfl) (by rfl) T.z_max PyProof.Rows.boot_max (pa_cons (pe_ix ix_tup (pv 10) pe_int (fun _ _ => rfl)) pa_nil)) pe_int) pa_nil))))))))
      pss_nil)
    (pss_cons (ps_asg (pv 0) (pg_tup rfl (pgs_cons (pg_name (i := 11) nd rfl (.inl rfl)) (pgs_cons (pg_name (i := 12) nd rfl (.inl rfl)) (pgs_cons (pg_name (i := 13) nd rfl (.inl rfl)) pgs_nil)))))
    (pss_cons (ps_if (pt_cmpR op_eq (pe_ix ix_tup (pv 0) pe_int (fun _ _ => rfl)) pe_str (nomark _))
      (pss_cons (ps_expr (pe_call FR hr1 rfl T.m_require T.k_require T.b_require .nil (passes_call (takes_of rfl rfl rfl rfl) (fun _ _ _ _ e => e)) (pa_cons
        (pe_and (pe_chain op_le op_le pe_int (pv 12) (kint rfl T.c_MOST_LENGTH)) (pe_one (pe_chain op_le op_le pe_int (pv 13) (kint rfl T.c_MOST_FIGURES)))) pa_nil)))
      (pss_one (ps_set (i := 4) nd rfl (.inl rfl) (pe_call FP hr1 rfl T.m_power_of T.k_power_of T.b_power_of .nil pass0 (pa_cons (pv 13) (pa_cons (pv 12) pa_nil))))))
      (pss_cons (ps_expr (pe_call FR hr1 rfl T.m_require T.k_require T.b_require .nil (passes_call (takes_of rfl rfl rfl rfl) (fun _ _ _ _ e => e)) (pa_cons
        (pe_and (pe_cmpR op_le pe_int (pv 13) (nomark _)) (pe_one (pe_chain op_le op_le (pe_op op_mul pe_int (pv 13)) (pv 12) (kint rfl T.c_MOST_MEMBERS)))) pa_nil)))
      (pss_one (ps_set (i := 4) nd rfl (.inl rfl) (pe_call FC hr1 rfl T.m_choose T.k_choose T.b_choose .nil pass0 (pa_cons (pv 12) (pa_cons (pv 13) pa_nil)))))))
    (pss_cons (ps_expr (pe_call FR hr1 rfl T.m_require T.k_require T.b_require .nil (passes_call (takes_of rfl rfl rfl rfl) (fun _ _ _ _ e => e)) (pa_cons (pe_cmpR op_le (pv 4) (kint rfl T.c_MOST_POINTS) (nomark _)) pa_nil)))
    (pss_one (ps_ret (pe_tup (pa_cons (pe_tup (pa_cons (pe_ix ix_tup (pv 0) pe_int (fun _ _ => rfl)) (pa_cons (pv 12) (pa_cons (pv 13) pa_nil)))) (pa_cons pe_int (pa_cons (pv 4)
      (pa_cons (pe_op op_add (pe_ifExp (pt_cmpR op_eq (pe_ix ix_tup (pv 0) pe_int (fun _ _ => rfl)) pe_str (nomark _)) (pv 12) (pv 13)) pe_int) pa_nil)))))))))))), ?_⟩
  have words3 := kd_of T.D_MEMBERS T.v_MEMBERS_words
  have sets3 := kd_of T.D_MEMBERS T.v_MEMBERS_sets
  have listed2 := kd_of T.D_MEMBERS T.v_MEMBERS_listed
  have product3 := kd_of T.D_MEMBERS T.v_MEMBERS_product
  obtain ⟨tw, ew⟩ := T.v_MEMBERS_words
  obtain ⟨ts, es⟩ := T.v_MEMBERS_sets
  obtain ⟨tl, el⟩ := T.v_MEMBERS_listed
  obtain ⟨tp, ep⟩ := T.v_MEMBERS_product
  rcases h with ⟨Tr0, hT, ok, hf, h9, k⟩ | ⟨m, hm, h8, hB, kE⟩
  · cases Tr0 with
    | words n q =>
      obtain ⟨a, rfl, hS⟩ := hT
      have h9' : d + 1 ≤ 9 := h9
      obtain ⟨b1, b2, b3, b4⟩ := ok
      refine ⟨_, rfl, _, _, rfl, rfl, _, rfl, iteP (decide_eq_true (by omega)) ?_⟩
      refine ⟨_, rfl, a, _, rfl, .inr hS, _, _, rfl, rfl, _, rfl, iteP rfl ?_⟩
      refine ⟨_, rfl, a, _, _, _, rfl, rfl, hS, rfl, _, _, rfl, rfl, ew, _, rfl, iteP rfl ?_⟩
      refine ⟨_, rfl, a, _, rfl, .inr hS, _, rfl, a, _, _, _, rfl, rfl, hS, rfl, _, _, _, rfl, rfl, words3, rfl, ?_⟩
      refine ⟨_, rfl, fun _ => ?_, fun z => (of_decide_eq_false z rfl).elim⟩
      refine ⟨_, rfl, a, _, _, _, rfl, rfl, hS, rfl, rfl, _, rfl, iteQ s_wp ?_⟩
      refine ⟨_, rfl, a, _, _, _, rfl, rfl, hS, rfl, rfl, _, rfl, iteQ s_wl ?_⟩
      refine ⟨_, rfl, a, _, rfl, hS, rfl, _, _, rfl, _, _, rfl, _, _, rfl, rfl, ?_⟩
      refine ⟨_, rfl, a, _, _, _, rfl, rfl, hS, rfl, rfl, _, rfl, iteP (decide_eq_true rfl) ?_⟩
      refine ⟨_, rfl, _, _, rfl, rfl, _, rfl, iteP (decide_eq_true (by omega)) ⟨_, _, rfl, rfl, _, rfl, iteP (decide_eq_true (by omega)) ?_⟩⟩
      refine ⟨_, rfl, _, _, rfl, rfl, _, rfl, iteP (decide_eq_true (by omega)) ⟨_, _, rfl, rfl, _, rfl, fun _ => ?_, fun z => absurd (of_decide_eq_false z) (by omega)⟩⟩
      refine ⟨_, rfl, _, rfl, q, n, rfl, by omega, by omega, by omega, by omega, ?_⟩
      have hp := (Tr.Ok.points_le (T := .words n q) ⟨b1, b2, b3, b4⟩).2
      refine ⟨_, rfl, _, _, rfl, rfl, _, rfl, fun _ => ?_, fun z => absurd hp (of_decide_eq_false z)⟩
      refine ⟨_, rfl, a, _, _, _, rfl, rfl, hS, rfl, _, rfl, _, rfl, fits (by show 3 ≤ 100000; decide), fun p hpn => ?_⟩
      have s1 := same_new hpn (.tup [.str "words", .int n, .int q])
      refine ⟨_, rfl, _, rfl, a, _, _, _, rfl, rfl, Same.tup s1 hS, rfl, rfl, _, rfl, iteP (decide_eq_true rfl) ?_⟩
      refine ⟨_, rfl, _, _, rfl, rfl, fits (by show 4 ≤ 100000; decide), fun r hrn => ?_⟩
      have s2 := same_new hrn (.tup [.ref p, .int 1, .int (pw q n.toNat), .int (n + 1)])
      exact k r (.ref p) _ (s1.trans s2) (SqT.of upd_same) ⟨p, rfl, SqT.of (s2 _ _ upd_same)⟩
    | sets n q =>
      obtain ⟨a, rfl, hS⟩ := hT
      have h9' : d + 1 ≤ 9 := h9
      obtain ⟨b1, b2, b3, b4⟩ := ok
      refine ⟨_, rfl, _, _, rfl, rfl, _, rfl, iteP (decide_eq_true (by omega)) ?_⟩
      refine ⟨_, rfl, a, _, rfl, .inr hS, _, _, rfl, rfl, _, rfl, iteP rfl ?_⟩
      refine ⟨_, rfl, a, _, _, _, rfl, rfl, hS, rfl, _, _, rfl, rfl, es, _, rfl, iteP rfl ?_⟩
      refine ⟨_, rfl, a, _, rfl, .inr hS, _, rfl, a, _, _, _, rfl, rfl, hS, rfl, _, _, _, rfl, rfl, sets3, rfl, ?_⟩
      refine ⟨_, rfl, fun _ => ?_, fun z => (of_decide_eq_false z rfl).elim⟩
      refine ⟨_, rfl, a, _, _, _, rfl, rfl, hS, rfl, rfl, _, rfl, iteQ s_sp ?_⟩
      refine ⟨_, rfl, a, _, _, _, rfl, rfl, hS, rfl, rfl, _, rfl, iteQ s_sl ?_⟩
      refine ⟨_, rfl, a, _, rfl, hS, rfl, _, _, rfl, _, _, rfl, _, _, rfl, rfl, ?_⟩
      refine ⟨_, rfl, a, _, _, _, rfl, rfl, hS, rfl, rfl, _, rfl, iteQ s_sw ?_⟩
      refine ⟨_, rfl, _, _, rfl, rfl, _, rfl, iteP (decide_eq_true (by omega)) ?_⟩
      refine ⟨_, rfl, _, _, rfl, rfl, .inl (by omega), _, rfl, _, _, rfl, rfl, _, rfl, iteP (decide_eq_true (by omega)) ⟨_, _, rfl, rfl, _, rfl, fun _ => ?_, fun z => absurd (of_decide_eq_false z) (by omega)⟩⟩
      refine ⟨_, rfl, _, rfl, n, q, rfl, by omega, by omega, by omega, ?_⟩
      have hp := (Tr.Ok.points_le (T := .sets n q) ⟨b1, b2, b3, b4⟩).2
      refine ⟨_, rfl, _, _, rfl, rfl, _, rfl, fun _ => ?_, fun z => absurd hp (of_decide_eq_false z)⟩
      refine ⟨_, rfl, a, _, _, _, rfl, rfl, hS, rfl, _, rfl, _, rfl, fits (by show 3 ≤ 100000; decide), fun p hpn => ?_⟩
      have s1 := same_new hpn (.tup [.str "sets", .int n, .int q])
      refine ⟨_, rfl, _, rfl, a, _, _, _, rfl, rfl, Same.tup s1 hS, rfl, rfl, _, rfl, iteQ s_sw ?_⟩
      refine ⟨_, rfl, _, _, rfl, rfl, fits (by show 4 ≤ 100000; decide), fun r hrn => ?_⟩
      have s2 := same_new hrn (.tup [.ref p, .int 1, .int (ch n q.toNat), .int (q + 1)])
      exact k r (.ref p) _ (s1.trans s2) (SqT.of upd_same) ⟨p, rfl, SqT.of (s2 _ _ upd_same)⟩
    | listed rows =>
      obtain ⟨a, b, xs, rfl, hS, hrow, hR⟩ := hT
      have h9' : d + 1 ≤ 9 := h9
      obtain ⟨r0, er0, ed0, pos0, nn0, _⟩ := Lsd.row0 ok
      obtain ⟨c, sq, hD, hW⟩ := ok
      refine ⟨_, rfl, _, _, rfl, rfl, _, rfl, iteP (decide_eq_true (by omega)) ?_⟩
      refine ⟨_, rfl, a, _, rfl, .inr hS, _, _, rfl, rfl, _, rfl, iteP rfl ?_⟩
      refine ⟨_, rfl, a, _, _, _, rfl, rfl, hS, rfl, _, _, rfl, rfl, el, _, rfl, iteP rfl ?_⟩
      refine ⟨_, rfl, a, _, rfl, .inr hS, _, rfl, a, _, _, _, rfl, rfl, hS, rfl, _, _, _, rfl, rfl, listed2, rfl, ?_⟩
      refine ⟨_, rfl, fun _ => ?_, fun z => (of_decide_eq_false z rfl).elim⟩
      refine ⟨_, rfl, a, _, _, _, rfl, rfl, hS, rfl, rfl, _, rfl, iteQ s_lp ?_⟩
      refine ⟨_, rfl, a, _, _, _, rfl, rfl, hS, rfl, rfl, _, rfl, iteP (decide_eq_true rfl) ?_⟩
      refine ⟨_, rfl, a, _, _, _, rfl, rfl, hS, rfl, b, xs, rows, c, c * c, rfl, hrow, hR, sq, Nat.le_refl _, fun x y hx hy _ => hD x y hx hy, fun x y x' y' hx hy hx' hy' _ _ e => hW x y x' y' hx hy hx' hy' e,
        fun x y hx hy e => absurd e (Nat.ne_of_lt (idx_lt hx hy)), fun _ p xs' H1 s1 hp1 hR1 => ?_⟩
      refine ⟨_, rfl, fits (by show 2 ≤ 100000; decide), fun q hqn => ?_⟩
      have s2 := same_new hqn (.tup [.str "listed", .ref p])
      obtain ⟨b0, eb0, sb0⟩ := hR1.get er0
      refine ⟨_, rfl, p, _, rfl, .inr (Same.tup s2 hp1), _, rfl, p, _, _, _, rfl, rfl, Same.tup s2 hp1, atI_nat eb0, b0, r0, rfl, Same.tup s2 sb0, pos0, fun mx hmx hall => ?_⟩
      refine ⟨_, _, rfl, rfl, fits (by show 4 ≤ 100000; decide), fun r hrn => ?_⟩
      have s3 := same_new hrn (.tup [.ref q, .int 1, .int (xs'.length : Int), .int (mx + 1)])
      have e1 : (xs'.length : Int) = (rows.length : Int) := by rw [hR1.length]
      have e2 : mx = mxL (rows.getD 0 []) := by rw [ed0]; exact mxL_eq hmx hall nn0
      refine k r (.ref q) _ (s1.trans (s2.trans s3)) (SqT.of ?_) ⟨q, p, xs', rfl, SqT.of (s3 _ _ upd_same), Same.tup s3 (Same.tup s2 hp1), (hR1.same s2).same s3⟩
      rw [upd_same, e1, e2]
      rfl
    | prod u t =>
      obtain ⟨a, x, y, rfl, hS, hx, hy⟩ := hT
      have hh : u.ht + 1 ≤ (Tr.prod u t).ht ∧ t.ht + 1 ≤ (Tr.prod u t).ht := by
        show u.ht + 1 ≤ (if u.ht ≤ t.ht then t.ht else u.ht) + 1 ∧ t.ht + 1 ≤ (if u.ht ≤ t.ht then t.ht else u.ht) + 1
        split <;> omega
      have hup := u.ht_pos
      obtain ⟨ou, ot, opt, okd, opa⟩ := ok
      have pu := ou.points_le
      have pt := ot.points_le
      have ku := ou.kinds_le
      have kt := ot.kinds_le
      refine ⟨_, rfl, _, _, rfl, rfl, _, rfl, iteP (decide_eq_true (by omega)) ?_⟩
      refine ⟨_, rfl, a, _, rfl, .inr hS, _, _, rfl, rfl, _, rfl, iteP rfl ?_⟩
      refine ⟨_, rfl, a, _, _, _, rfl, rfl, hS, rfl, _, _, rfl, rfl, ep, _, rfl, iteP rfl ?_⟩
      refine ⟨_, rfl, a, _, rfl, .inr hS, _, rfl, a, _, _, _, rfl, rfl, hS, rfl, _, _, _, rfl, rfl, product3, rfl, ?_⟩
      refine ⟨_, rfl, fun _ => ?_, fun z => (of_decide_eq_false z rfl).elim⟩
      refine ⟨_, rfl, a, _, _, _, rfl, rfl, hS, rfl, rfl, _, rfl, iteP (decide_eq_true rfl) ?_⟩
      refine ⟨_, rfl, a, _, _, _, rfl, rfl, hS, rfl, _, rfl, _, _, rfl, rfl, x, d + 1, rfl, by omega, .inl ⟨u, hx, ou, by omega, by omega, fun p1 x1 H1 s1 hp1 ht1 => ?_⟩⟩
      refine ⟨p1, _, rfl, hp1, rfl, _, _, rfl, _, _, rfl, _, _, rfl, _, _, rfl, rfl, ?_⟩
      refine ⟨_, rfl, a, _, _, _, rfl, rfl, Same.tup s1 hS, rfl, _, rfl, _, _, rfl, rfl, y, d + 1, rfl, by omega, .inl ⟨t, hy.same s1, ot, by omega, by omega, fun p2 x2 H2 s2 hp2 ht2 => ?_⟩⟩
      refine ⟨p2, _, rfl, hp2, rfl, _, _, rfl, _, _, rfl, _, _, rfl, _, _, rfl, rfl, ?_⟩
      have cw : CMulW u.points t.points := wide_mul (bits_big pu.1 pu.2) (bits_big pt.1 pt.2) (by decide) (by decide) (by decide)
      refine ⟨_, rfl, _, rfl, _, _, rfl, rfl, _, _, rfl, rfl, _, rfl, iteP (decide_eq_true opa) ?_⟩
      refine ⟨_, rfl, _, rfl, _, _, rfl, rfl, cw, _, _, rfl, rfl, _, rfl, iteP (decide_eq_true opt) ?_⟩
      refine ⟨_, rfl, _, rfl, _, _, rfl, rfl, .inl (by omega), _, _, rfl, rfl, _, rfl, fun _ => ?_, fun z => absurd okd (of_decide_eq_false z)⟩
      refine ⟨_, rfl, _, rfl, fits (by show 3 ≤ 100000; decide), fun q hqn => ?_⟩
      have s3 := same_new hqn (.tup [.str "product", x1, x2])
      refine ⟨_, rfl, _, rfl, _, _, rfl, rfl, _, _, rfl, rfl, _, rfl, _, rfl, _, _, rfl, rfl, cw, _, rfl, _, rfl, _, _, rfl, rfl, .inl (by omega), fits (by show 4 ≤ 100000; decide), fun r hrn => ?_⟩
      have s4 := same_new hrn (.tup [.ref q, .int (u.parts + t.parts + 1), .int (u.points * t.points), .int (u.kinds * t.kinds)])
      exact k r (.ref q) _ (s1.trans (s2.trans (s3.trans s4))) (SqT.of upd_same) ⟨q, x1, x2, rfl, SqT.of (s4 _ _ upd_same), TreeT.same s4 (TreeT.same s3 (TreeT.same s2 ht1)), TreeT.same s4 (TreeT.same s3 ht2)⟩
  · cases m with
    | zero =>
      obtain ⟨a, rfl, hB⟩ := hB
      rcases hB with hS | hS | ⟨b, xs, hS, hb, hR⟩ | ⟨x, hS⟩
      · refine ⟨_, rfl, _, _, rfl, rfl, _, rfl, iteP (decide_eq_true (by omega)) ?_⟩
        refine ⟨_, rfl, a, _, rfl, .inr hS, _, _, rfl, rfl, _, rfl, iteP rfl ?_⟩
        refine ⟨_, rfl, a, _, _, _, rfl, rfl, hS, rfl, _, _, rfl, rfl, ew, _, rfl, iteP rfl ?_⟩
        refine ⟨_, rfl, a, _, rfl, .inr hS, _, rfl, a, _, _, _, rfl, rfl, hS, rfl, _, _, _, rfl, rfl, words3, rfl, ?_⟩
        refine ⟨_, rfl, fun _ => ?_, fun z => (of_decide_eq_false z rfl).elim⟩
        refine ⟨_, rfl, a, _, _, _, rfl, rfl, hS, rfl, rfl, _, rfl, iteQ s_wp ?_⟩
        refine ⟨_, rfl, a, _, _, _, rfl, rfl, hS, rfl, rfl, _, rfl, iteQ s_wl ?_⟩
        refine ⟨_, rfl, a, _, rfl, hS, rfl, _, _, rfl, _, _, rfl, _, _, rfl, rfl, ?_⟩
        refine ⟨_, rfl, a, _, _, _, rfl, rfl, hS, rfl, rfl, _, rfl, iteP (decide_eq_true rfl) ?_⟩
        exact ⟨_, rfl, _, _, rfl, rfl, _, rfl, iteQ rfl ⟨_, rfl, iteQ rfl ⟨false, rfl, (fun z => Bool.noConfusion z), fun _ => kE H (Same.refl H)⟩⟩⟩
      · refine ⟨_, rfl, _, _, rfl, rfl, _, rfl, iteP (decide_eq_true (by omega)) ?_⟩
        refine ⟨_, rfl, a, _, rfl, .inr hS, _, _, rfl, rfl, _, rfl, iteP rfl ?_⟩
        refine ⟨_, rfl, a, _, _, _, rfl, rfl, hS, rfl, _, _, rfl, rfl, es, _, rfl, iteP rfl ?_⟩
        refine ⟨_, rfl, a, _, rfl, .inr hS, _, rfl, a, _, _, _, rfl, rfl, hS, rfl, _, _, _, rfl, rfl, sets3, rfl, ?_⟩
        refine ⟨_, rfl, fun _ => ?_, fun z => (of_decide_eq_false z rfl).elim⟩
        refine ⟨_, rfl, a, _, _, _, rfl, rfl, hS, rfl, rfl, _, rfl, iteQ s_sp ?_⟩
        refine ⟨_, rfl, a, _, _, _, rfl, rfl, hS, rfl, rfl, _, rfl, iteQ s_sl ?_⟩
        refine ⟨_, rfl, a, _, rfl, hS, rfl, _, _, rfl, _, _, rfl, _, _, rfl, rfl, ?_⟩
        refine ⟨_, rfl, a, _, _, _, rfl, rfl, hS, rfl, rfl, _, rfl, iteQ s_sw ?_⟩
        refine ⟨_, rfl, _, _, rfl, rfl, _, rfl, iteP rfl ?_⟩
        exact ⟨_, rfl, _, _, rfl, rfl, .inl (by omega), _, rfl, _, _, rfl, rfl, _, rfl, iteQ rfl ⟨false, rfl, (fun z => Bool.noConfusion z), fun _ => kE H (Same.refl H)⟩⟩
      · refine ⟨_, rfl, _, _, rfl, rfl, _, rfl, iteP (decide_eq_true (by omega)) ?_⟩
        refine ⟨_, rfl, a, _, rfl, .inr hS, _, _, rfl, rfl, _, rfl, iteP rfl ?_⟩
        refine ⟨_, rfl, a, _, _, _, rfl, rfl, hS, rfl, _, _, rfl, rfl, el, _, rfl, iteP rfl ?_⟩
        refine ⟨_, rfl, a, _, rfl, .inr hS, _, rfl, a, _, _, _, rfl, rfl, hS, rfl, _, _, _, rfl, rfl, listed2, rfl, ?_⟩
        refine ⟨_, rfl, fun _ => ?_, fun z => (of_decide_eq_false z rfl).elim⟩
        refine ⟨_, rfl, a, _, _, _, rfl, rfl, hS, rfl, rfl, _, rfl, iteQ s_lp ?_⟩
        refine ⟨_, rfl, a, _, _, _, rfl, rfl, hS, rfl, rfl, _, rfl, iteP (decide_eq_true rfl) ?_⟩
        refine ⟨_, rfl, a, _, _, _, rfl, rfl, hS, rfl, b, xs, [[0, 1], [0, 0]], 2, 1, rfl, .inr hb, hR, bad_square, by decide, fun x y hx hy h1 => ?_, fun x y x' y' hx hy hx' hy' h1 h2 _ => ?_, fun x y hx hy h1 => ?_, fun e => absurd e (by decide)⟩
        · have e1 : x = 0 := by omega
          have e2 : y = 0 := by omega
          subst e1 e2
          exact ⟨by decide, rfl⟩
        · have e1 : x = 0 := by omega
          have e2 : y = 0 := by omega
          have e3 : x' = 0 := by omega
          have e4 : y' = 0 := by omega
          subst e1 e2 e3 e4
          exact List.Perm.refl _
        · have e1 : x = 0 := by omega
          have e2 : y = 1 := by omega
          subst e1 e2
          exact ⟨fun q => absurd q.2 (by decide), kE⟩
      · refine ⟨_, rfl, _, _, rfl, rfl, _, rfl, iteP (decide_eq_true (by omega)) ?_⟩
        refine ⟨_, rfl, a, _, rfl, .inr hS, _, _, rfl, rfl, _, rfl, iteP rfl ?_⟩
        refine ⟨_, rfl, a, _, _, _, rfl, rfl, hS, rfl, _, _, rfl, rfl, ep, _, rfl, iteP rfl ?_⟩
        refine ⟨_, rfl, a, _, rfl, .inr hS, _, rfl, a, _, _, _, rfl, rfl, hS, rfl, _, _, _, rfl, rfl, product3, rfl, ?_⟩
        refine ⟨_, rfl, fun z => ?_, fun _ => kE H (Same.refl H)⟩
        have q : V.int 2 = V.int 3 := of_decide_eq_true z
        exact absurd (V.int.inj q) (by decide)
    | succ m =>
      obtain ⟨a, x, y, rfl, hS, hB⟩ := hB
      refine ⟨_, rfl, _, _, rfl, rfl, _, rfl, iteP (decide_eq_true (by omega)) ?_⟩
      refine ⟨_, rfl, a, _, rfl, .inr hS, _, _, rfl, rfl, _, rfl, iteP rfl ?_⟩
      refine ⟨_, rfl, a, _, _, _, rfl, rfl, hS, rfl, _, _, rfl, rfl, ep, _, rfl, iteP rfl ?_⟩
      refine ⟨_, rfl, a, _, rfl, .inr hS, _, rfl, a, _, _, _, rfl, rfl, hS, rfl, _, _, _, rfl, rfl, product3, rfl, ?_⟩
      refine ⟨_, rfl, fun _ => ?_, fun z => (of_decide_eq_false z rfl).elim⟩
      refine ⟨_, rfl, a, _, _, _, rfl, rfl, hS, rfl, rfl, _, rfl, iteP (decide_eq_true rfl) ?_⟩
      exact ⟨_, rfl, a, _, _, _, rfl, rfl, hS, rfl, _, rfl, _, _, rfl, rfl, x, d + 1, rfl, by omega, .inr ⟨m, by omega, by omega, hB, kE⟩⟩
theorem part_all (T : Txt w K mg) : ∀ f : Nat, FnOk P w K mg base (L2.CX P w) (2 + f) T.a_checked_part T.d_checked_part p_checked_part (spPart K T.CI f)
  | 0 => by
    have no : ∀ vs H Q E, ¬ spPart K T.CI 0 vs H Q E := fun vs H Q E h => by
      obtain ⟨v, d, _, _, ⟨t, _, _, hf, _⟩ | ⟨m, hm, _⟩⟩ := h
      · have := t.ht_pos
        omega
      · omega
    exact ⟨fun vs H Q E h => absurd h (no vs H Q E), fun A outer s H args us vs Q E _ _ _ _ h => absurd h (no vs H Q E)⟩
  | f + 1 => part_step T f (part_all T f)
/-- a tree that is a scheme comes back as tuples; a bad one is refused -/
def spChecked (K : PySem.W.Frag) (CI : Addr) : Sp := fun vs H Q E => ∃ v : V, vs = [v] ∧
  ((∃ T : Tr, TreeAt K H T v ∧ T.Ok ∧ ∀ x H', Same H H' → TreeT K H' T x → Q x H') ∨ (∃ m : Nat, m < 5 ∧ BadAt K H m v ∧ ∀ H', Same H H' → E (.ref CI) none H'))
theorem ok_checked (T : Txt w K mg) : FnOk P w K mg base (L2.CX P w) 12 T.a_checked T.d_checked p_checked (spChecked K T.CI) := by
  have G := part_all (P := P) (base := base) T 8
  obtain ⟨ds, vd, bd⟩ := T.bd_checked_part
  refine FnOk.mono (j := 11) (T.F_checked.okX sc_checked (fun vs H Q E h => ?_) (fun cdv A outer s H vs Q E hr h => ?_)) (by decide)
  · obtain ⟨_, rfl, _⟩ := h
    rfl
  obtain ⟨v, rfl, h⟩ := h
  refine ⟨_, pss_one (ps_ret (pe_ix ix_tup (pe_call G hr rfl T.m_checked_part T.k_checked_part bd vd (passes_call (takes_of rfl rfl rfl rfl) (fun _ _ _ _ e => e)) (pa_cons (pv 0) pa_nil)) pe_int (fun _ _ => rfl))), ?_⟩
  rcases h with ⟨t, hT, ok, k⟩ | ⟨m, hm, hB, kE⟩
  · have h1 := t.ht_parts
    have h2 := ok.parts_le
    exact ⟨_, rfl, v, 1, rfl, by decide, .inl ⟨t, hT, ok, by omega, by omega, fun p x H' s1 hp ht => ⟨p, _, _, _, rfl, rfl, hp, rfl, k x H' s1 ht⟩⟩⟩
  · exact ⟨_, rfl, v, 1, rfl, by decide, .inr ⟨m, by omega, by omega, hB, kE⟩⟩
end
end K5
set_option Elab.async false
set_option linter.all false
set_option maxRecDepth 100000
set_option maxHeartbeats 4000000
/-! Texts: a tree's lines, their words. Plain. -/
namespace K5
open PySem PySem.Spec PyProof.Rows L2 TL
abbrev num (i : Int) : Str := toString i
abbrev hd (w : Str) (ns : List Int) : List Str := w :: ns.map num
abbrev gl (ws : List Str) : Str := Txt.join " " ws
def Tr.lw : Tr → List (List Str)
  | .words n k => [hd "words" [n, k]]
  | .sets n k => [hd "sets" [n, k]]
  | .listed rows => hd "listed" [(rows.length : Int)] :: rows.map (hd "row")
  | .prod s t => hd "product" [] :: (s.lw ++ t.lw)
def Tr.lines (T : Tr) : List Str := T.lw.map gl
def Tr.text (T : Tr) : Str := Txt.join "\n" ("scheme" :: T.lines)
abbrev N80 (n : Int) : Prop := 0 ≤ n ∧ n ≤ 80
def figs : List Nat := tl "0123456789"
/-- what a short number's text is -/
structure NumOk (n : Int) : Prop where
  len1 : 1 ≤ (num n).length
  len3 : (num n).length ≤ 2
  fig : ∀ c ∈ tl (num n), c ∈ figs
  back : PySem.intText? (num n) = some n
  lead : num n = "0" ∨ ∃ c, (num n).cps.toList[0]? = some c ∧ c ≠ 48
def numT (n : Int) : Bool :=
  decide (1 ≤ (num n).length) && decide ((num n).length ≤ 2) && (tl (num n)).all (fun c => figs.contains c) && decide (PySem.intText? (num n) = some n) &&
    (decide (num n = "0") || ((num n).cps.toList[0]? != none && (num n).cps.toList[0]? != some 48))
theorem num_all : (List.range 81).all (fun n => numT (n : Int)) = true := by decide +kernel
theorem num_ok {n : Int} (h : N80 n) : NumOk n := by
  have e : numT ((n.toNat : Nat) : Int) = true := List.all_eq_true.mp num_all _ (List.mem_range.mpr (by omega))
  have e2 : ((n.toNat : Nat) : Int) = n := by omega
  rw [e2] at e
  unfold numT at e
  simp only [Bool.and_eq_true, Bool.or_eq_true, decide_eq_true_eq, List.all_eq_true] at e
  obtain ⟨⟨⟨⟨a, b⟩, c⟩, d⟩, f⟩ := e
  refine ⟨a, b, fun x hx => by simpa using c x hx, d, ?_⟩
  rcases f with f | ⟨f, g⟩
  · exact .inl f
  · right
    cases q : (num n).cps.toList[0]? with
    | none => rw [q] at f; simp at f
    | some c =>
      rw [q] at g
      refine ⟨c, rfl, fun z => ?_⟩
      rw [z] at g
      simp at g
/-- the words that lines begin with -/
def WD (w : Str) : Prop := w = "words" ∨ w = "sets" ∨ w = "listed" ∨ w = "row" ∨ w = "product"
structure Ln (ws : List Str) : Prop where
  ex : ∃ w ns, ws = hd w ns ∧ WD w ∧ ns.length ≤ 24 ∧ ∀ n ∈ ns, N80 n
theorem wd_fact {w : Str} (h : WD w) : w.length ≤ 7 ∧ 32 ∉ tl w ∧ 10 ∉ tl w := by
  rcases h with h | h | h | h | h <;> subst h <;> decide +kernel
theorem figs_fact : 32 ∉ figs ∧ 10 ∉ figs := by decide +kernel
theorem Ln.word {ws : List Str} (h : Ln ws) : ∀ x ∈ ws, x.length ≤ 7 ∧ 32 ∉ tl x ∧ 10 ∉ tl x := by
  obtain ⟨w, ns, rfl, hw, hl, hn⟩ := h.ex
  intro x hx
  rcases List.mem_cons.mp hx with e | hx
  · rw [e]; exact wd_fact hw
  · obtain ⟨n, hn', e⟩ := List.mem_map.mp hx
    have q := num_ok (hn n hn')
    rw [← e]
    refine ⟨?_, fun z => figs_fact.1 (q.fig _ z), fun z => figs_fact.2 (q.fig _ z)⟩
    have := q.len3
    omega
theorem Ln.size {ws : List Str} (h : Ln ws) : ws.length ≤ 25 ∧ 0 < ws.length := by
  obtain ⟨w, ns, rfl, hw, hl, hn⟩ := h.ex
  simp
  omega
theorem sum_le {ys : List Str} {k : Nat} (h : ∀ y ∈ ys, y.length ≤ k) : (ys.map (·.length)).sum ≤ ys.length * k := by
  induction ys with
  | nil => simp
  | cons y ys ih =>
    have a := h y List.mem_cons_self
    have b := ih fun z hz => h z (List.mem_cons_of_mem _ hz)
    rw [List.map_cons, List.sum_cons, List.length_cons, Nat.succ_mul]
    omega
theorem join_len (y : Str) : ∀ parts : List Str, (Txt.join y parts).length ≤ (parts.map (·.length)).sum + parts.length * y.length := by
  intro parts
  rw [join_eq]
  induction parts with
  | nil => exact Nat.zero_le _
  | cons p ps ih =>
    cases ps with
    | nil =>
      show p.length ≤ _
      simp
    | cons q r =>
      show (p ++ y ++ Str.join y (q :: r)).length ≤ _
      rw [Str.length_append, Str.length_append, List.map_cons, List.sum_cons, List.length_cons, Nat.succ_mul]
      omega
theorem mem_joinL {S : List Nat} {c : Nat} : ∀ {ps : List (List Nat)}, c ∈ joinL S ps → c ∈ S ∨ ∃ p ∈ ps, c ∈ p
  | [], h => nomatch h
  | [p], h => .inr ⟨p, List.mem_cons_self, h⟩
  | p :: q :: r, h => by
    have h' : c ∈ p ++ (S ++ joinL S (q :: r)) := h
    rcases List.mem_append.mp h' with h1 | h1
    · exact .inr ⟨p, List.mem_cons_self, h1⟩
    · rcases List.mem_append.mp h1 with h2 | h2
      · exact .inl h2
      · rcases mem_joinL h2 with h3 | ⟨z, hz, h3⟩
        · exact .inl h3
        · exact .inr ⟨z, List.mem_cons_of_mem _ hz, h3⟩
theorem Ln.line {ws : List Str} (h : Ln ws) : (gl ws).length ≤ 200 ∧ 10 ∉ tl (gl ws) ∧ Txt.split (gl ws) " " = ws := by
  refine ⟨?_, fun z => ?_, ?_⟩
  · have a := join_len " " ws
    have b := sum_le fun y hy => (h.word y hy).1
    have c := h.size.1
    have d : (" " : Str).length = 1 := by decide +kernel
    rw [d] at a
    show (Txt.join " " ws).length ≤ 200
    omega
  · have z' : 10 ∈ tl (Txt.join " " ws) := z
    rw [join_eq, tl_join] at z'
    rcases mem_joinL z' with e | ⟨p, hp, e⟩
    · revert e; decide +kernel
    · obtain ⟨x, hx, rfl⟩ := List.mem_map.mp hp
      exact (h.word x hx).2.2 e
  · refine split_join (s := 32) (S := []) (by decide +kernel) (by decide +kernel) (List.ne_nil_of_length_pos h.size.2) fun p hp => (h.word p hp).2.1
theorem Lsd.row {rows : List (List Int)} (h : Lsd rows) : rows.length ≤ 24 ∧ 1 ≤ rows.length ∧ ∀ r ∈ rows, r.length = rows.length ∧ ∀ y ∈ r, 0 ≤ y ∧ y < 8 := by
  obtain ⟨c, sq, _, _⟩ := h
  have a := sq.len
  have b := sq.most
  have d := sq.pos
  obtain ⟨q, hq, hk⟩ := sq.kinds
  refine ⟨by omega, by omega, fun r hr => ⟨by rw [sq.each r hr, a], fun y hy => ?_⟩⟩
  have := (hk y).1 (List.mem_flatten.mpr ⟨r, hr, hy⟩)
  omega
theorem Tr.Ok.ln : ∀ {T : Tr}, T.Ok → ∀ ws ∈ T.lw, Ln ws
  | .words n k, ⟨h1, h2, h3, h4⟩, ws, hw => by
    rw [List.mem_singleton.mp hw]
    refine ⟨_, [n, k], rfl, .inl rfl, (by show 2 ≤ 24; decide), fun x hx => ?_⟩
    simp at hx
    rcases hx with e | e <;> subst e <;> (unfold N80; omega)
  | .sets n k, ⟨h1, h2, h3, h4⟩, ws, hw => by
    rw [List.mem_singleton.mp hw]
    refine ⟨_, [n, k], rfl, .inr (.inl rfl), (by show 2 ≤ 24; decide), fun x hx => ?_⟩
    simp at hx
    rcases hx with e | e <;> subst e <;> (unfold N80; omega)
  | .listed rows, h, ws, hw => by
    obtain ⟨a, b, c⟩ := Lsd.row h
    rcases List.mem_cons.mp hw with e | hw
    · rw [e]
      refine ⟨_, [(rows.length : Int)], rfl, .inr (.inr (.inl rfl)), (by show 1 ≤ 24; decide), fun x hx => ?_⟩
      rw [List.mem_singleton.mp hx]
      unfold N80
      omega
    · obtain ⟨r, hr, e⟩ := List.mem_map.mp hw
      rw [← e]
      obtain ⟨l, v⟩ := c r hr
      refine ⟨_, r, rfl, .inr (.inr (.inr (.inl rfl))), by omega, fun x hx => ?_⟩
      have := v x hx
      unfold N80
      omega
  | .prod s t, ⟨hs, ht, _⟩, ws, hw => by
    rcases List.mem_cons.mp hw with e | hw
    · rw [e]
      exact ⟨_, [], rfl, .inr (.inr (.inr (.inr rfl))), Nat.zero_le _, fun x hx => nomatch hx⟩
    · rcases List.mem_append.mp hw with hw | hw
      · exact hs.ln ws hw
      · exact ht.ln ws hw
theorem Tr.Ok.lw_len : ∀ {T : Tr}, T.Ok → (T.lw.length : Int) ≤ 25 * T.parts
  | .words n k, _ => by show (1 : Int) ≤ 25 * 1; decide
  | .sets n k, _ => by show (1 : Int) ≤ 25 * 1; decide
  | .listed rows, h => by
    obtain ⟨a, _, _⟩ := Lsd.row h
    show (((rows.map (hd "row")).length + 1 : Nat) : Int) ≤ 25 * 1
    rw [List.length_map]
    omega
  | .prod s t, ⟨hs, ht, _⟩ => by
    have a := hs.lw_len
    have b := ht.lw_len
    show (((s.lw ++ t.lw).length + 1 : Nat) : Int) ≤ 25 * (s.parts + t.parts + 1)
    rw [List.length_append]
    omega
theorem Tr.Ok.lw200 {T : Tr} (h : T.Ok) : T.lw.length ≤ 200 := by
  have a := h.lw_len
  have b := h.parts_le
  omega
theorem Tr.lw_pos : ∀ T : Tr, 0 < T.lw.length
  | .words _ _ => Nat.succ_pos _
  | .sets _ _ => Nat.succ_pos _
  | .listed _ => Nat.succ_pos _
  | .prod _ _ => Nat.succ_pos _
theorem Tr.Ok.line_len {T : Tr} (h : T.Ok) : ∀ y ∈ T.lines, y.length ≤ 200 ∧ 10 ∉ tl y := by
  intro y hy
  obtain ⟨ws, hw, e⟩ := List.mem_map.mp hy
  rw [← e]
  exact ⟨(h.ln ws hw).line.1, (h.ln ws hw).line.2.1⟩
theorem scheme_fact : ("scheme" : Str).length ≤ 200 ∧ 10 ∉ tl ("scheme" : Str) := by decide +kernel
theorem Tr.Ok.all_len {T : Tr} (h : T.Ok) : ∀ y ∈ ("scheme" : Str) :: T.lines, y.length ≤ 200 ∧ 10 ∉ tl y := by
  intro y hy
  rcases List.mem_cons.mp hy with e | hy
  · rw [e]; exact scheme_fact
  · exact h.line_len y hy
theorem Tr.Ok.text_sum {T : Tr} (h : T.Ok) : ((("scheme" : Str) :: T.lines).map (·.length)).sum + (("scheme" : Str) :: T.lines).length * ("\n" : Str).length ≤ 50000 := by
  have a := sum_le fun y hy => (h.all_len y hy).1
  have b := h.lw200
  have c : (("scheme" : Str) :: T.lines).length = T.lw.length + 1 := by rw [List.length_cons]; unfold Tr.lines; rw [List.length_map]
  have d : ("\n" : Str).length = 1 := by decide +kernel
  rw [d]
  rw [c] at a ⊢
  omega
theorem Tr.Ok.text_len {T : Tr} (h : T.Ok) : T.text.length ≤ 50000 := Nat.le_trans (join_len _ _) h.text_sum
theorem Tr.Ok.split_text {T : Tr} (h : T.Ok) : Txt.split T.text "\n" = (("scheme" : Str) :: T.lines) :=
  split_join (s := 10) (S := []) (by decide +kernel) (by decide +kernel) (by simp) fun p hp => (h.all_len p hp).2
theorem scheme_split : Txt.split ("scheme" : Str) " " = [("scheme" : Str)] := by
  have := split_join (y := " ") (s := 32) (S := []) (parts := [("scheme" : Str)]) (by decide +kernel) (by decide +kernel) (by simp) (by decide +kernel)
  exact this
/-- the lines' words, the first line's too -/
theorem Tr.Ok.split_lines {T : Tr} (h : T.Ok) : (("scheme" : Str) :: T.lines).map (fun l => Txt.split l " ") = [("scheme" : Str)] :: T.lw := by
  rw [List.map_cons, scheme_split]
  unfold Tr.lines
  rw [List.map_map]
  congr 1
  conv => rhs; rw [← List.map_id T.lw]
  exact List.map_congr_left fun ws hw => (h.ln ws hw).line.2.2
/-! ### the law's way to write a line -/
theorem gl_cons (w x : Str) (ws : List Str) : gl (w :: x :: ws) = w ++ " " ++ gl (x :: ws) := by
  show Txt.join " " (w :: x :: ws) = w ++ " " ++ Txt.join " " (x :: ws)
  rw [join_eq, join_eq]
  rfl
theorem gl_one (w : Str) : gl [w] = w := by
  show Txt.join " " [w] = w
  rw [join_eq]
  rfl
end K5
set_option Elab.async false
set_option linter.all false
set_option maxRecDepth 100000
set_option maxHeartbeats 16000000
/-! line_of, lines_of, format_scheme. -/
namespace K5
open PySem PySem.Spec PyProof.Rows L2
structure Lg (w : Str) (ns : List Int) : Prop where
  wd : WD w
  len : ns.length ≤ 24
  n80 : ∀ n ∈ ns, N80 n
theorem Lg.ln {w : Str} {ns : List Int} (h : Lg w ns) : Ln (hd w ns) := ⟨⟨w, ns, rfl, h.wd, h.len, h.n80⟩⟩
theorem n80_log {n : Int} (h : N80 n) : n.natAbs.log2 < 1920 := by
  have : n.natAbs ≤ 80 := by omega
  rcases Nat.eq_zero_or_pos n.natAbs with z | z
  · rw [z]; decide
  · have := (Nat.log2_lt (k := 1920) (n := n.natAbs) (by omega)).2 (Nat.lt_of_le_of_lt this (by decide))
    exact this
theorem words_sum {ws : List Str} (h : Ln ws) : (ws.map (·.length)).sum + ws.length * (" " : Str).length ≤ 16777216 := by
  have b := sum_le fun y hy => (h.word y hy).1
  have c := h.size.1
  have d : (" " : Str).length = 1 := by decide +kernel
  rw [d]
  omega
def spLine (K : PySem.W.Frag) : Sp := fun vs H Q _ => ∃ (w : Str) (a : Addr) (ns : List Int), vs = [.str w, .ref a] ∧ (SqL K H a (ns.map V.int) ∨ SqT K H a (ns.map V.int)) ∧ Lg w ns ∧ ∀ H', Same H H' → Q (.str (gl (hd w ns))) H'
def rStrN : List V → Hp → VK → Prop := fun xs H Q => ∃ i, xs = [.int i] ∧ i.natAbs.log2 < 1920 ∧ Q (.str (num i)) H
theorem call_strN {X : Cx} : CallR X (.type "str") rStrN := call_str_int
section
variable {P : Program} {w : World} {K : PySem.W.Frag} {mg : Str → Option Value} {base : Heap}
theorem ok_line_of (T : Txt w K mg) : FnOk P w K mg base CX0 1 T.a_line_of T.d_line_of p_line_of (spLine K) := by
  refine T.F_line_of.ok sc_line_of (fun vs H Q E h => ?_) (fun cdv A outer s H vs Q E hr h => ?_)
  · obtain ⟨_, _, _, rfl, _⟩ := h
    rfl
  obtain ⟨wo, a, ns, rfl, hS, lg, k⟩ := h
  have nd := sc_line_of.nd
  obtain ⟨J, hJ⟩ := Sq2.of hS
  refine ⟨_, pss_one (ps_ret (pe_join pe_str (pe_op op_cat (pe_lst (pa_cons (pv 0) pa_nil))
    (pe_lc (own := [("number", 2)]) (g := gName 2) (tt := tYes) (te := tCB rStrN (tCons (tVar 2) tNil)) rfl nd (pi_seq (pv 1)) (blkOk_by (N := n_line_of) (sc := defScope s_line_of) (by decide +kernel)) (fun _ _ _ _ _ => pg_name (i := 2) nd rfl (Or.inl rfl)) (fun _ _ _ _ _ => pts_nil)
      (fun _ _ _ _ _ => pe_callTy call_strN (by rfl) T.z_str PyProof.Rows.boot_str (pa_cons (pv 2) pa_nil)))))), ?_⟩
  refine ⟨⟨_, rfl⟩, _, rfl, fits (by show 1 ≤ 100000; decide), fun l hl => ?_⟩
  have s0 := same_new hl (.lst [.str wo])
  refine ⟨_, rfl, a, ns.map V.int, J, rfl, hJ.same s0, fun D hD => lc_seq (a := a) (xs := ns.map V.int) (J := J) (fun i H' => Same (upd H l (.lst [.str wo])) H' ∧ H' D = some (.lst (((ns.take i).map num).map V.str))) ⟨same_new hD _, upd_same⟩ (fun i H' _ ⟨s1, _⟩ => (hJ.same s0).same s1) ⟨H, hJ⟩ ?_ ?_⟩
  · rintro i v H1 hi ⟨s1, hD1⟩
    obtain ⟨z, hz, rfl⟩ := item_of hi
    have hil : i < ns.length := (List.getElem?_eq_some_iff.mp hz).1
    have hz80 := lg.n80 z (List.mem_of_getElem? hz)
    refine ⟨rfl, yes (iteT ?_)⟩
    have ll := lg.len
    refine ⟨_, rfl, z, rfl, n80_log hz80, _, hD1, fitsL (by rw [List.length_map, List.length_map, List.length_take]; omega), ?_, ?_⟩
    · intro c o e
      rw [upd_ne (ne_of_none e hD)]
      exact s1 c o e
    · rw [upd_same, take_more hz, List.map_append, List.map_append]
      rfl
  rintro H1 ⟨s1, hD1⟩
  have ll := lg.len
  rw [List.length_map, List.take_length] at hD1
  refine ⟨l, D, _, _, rfl, rfl, s1 _ _ upd_same, hD1, fits (by rw [List.length_map, List.length_map]; show 1 + ns.length ≤ 100000; omega), fun p hp => ?_⟩
  have s2 := same_new hp (.lst ([V.str wo] ++ (ns.map num).map V.str))
  refine ⟨_, p, hd wo ns, rfl, rfl, .inl (SqL.of upd_same), words_sum lg.ln, k _ (s0.trans (s1.trans s2))⟩
/-- a tree's lines in a new list -/
def spLines (K : PySem.W.Frag) (f : Nat) : Sp := fun vs H Q _ => ∃ (v : V) (T : Tr), vs = [v] ∧ TreeT K H T v ∧ T.Ok ∧ T.ht ≤ f ∧ ∀ a H', Same H H' → H' a = some (.lst (T.lines.map V.str)) → Q (.ref a) H'
theorem lines_step (T : Txt w K mg) (f : Nat) (G : FnOk P w K mg base CX0 (1 + f) T.a_lines_of T.d_lines_of p_lines_of (spLines K f)) :
    FnOk P w K mg base CX0 (1 + f + 1) T.a_lines_of T.d_lines_of p_lines_of (spLines K (f + 1)) := by
  have FL := ok_line_of (P := P) (base := base) T
  refine T.F_lines_of.ok sc_lines_of (fun vs H Q E h => ?_) (fun cdv A outer s H vs Q E hr h => ?_)
  · obtain ⟨_, _, rfl, _⟩ := h
    rfl
  obtain ⟨v, t, rfl, hT, ok, hf, k⟩ := h
  have hr1 : Room 1 _ := hr.mono (by omega)
  have nd := sc_lines_of.nd
  refine ⟨_, pss_cons (ps_if (pt_cmpR op_eq (pe_ix ix_tup (pv 0) pe_int (fun _ _ => rfl)) pe_str (nomark _))
      (pss_one (ps_ret (pe_op op_cat (pe_op op_cat (pe_lst (pa_cons (pe_ix ix_tup (pv 0) pe_int (fun _ _ => rfl)) pa_nil))
        (pe_call G hr rfl T.m_lines_of T.k_lines_of T.b_lines_of .nil pass0 (pa_cons (pe_ix ix_tup (pv 0) pe_int (fun _ _ => rfl)) pa_nil)))
        (pe_call G hr rfl T.m_lines_of T.k_lines_of T.b_lines_of .nil pass0 (pa_cons (pe_ix ix_tup (pv 0) pe_int (fun _ _ => rfl)) pa_nil))))) pss_nil)
    (pss_cons (ps_if (pt_cmpR op_eq (pe_ix ix_tup (pv 0) pe_int (fun _ _ => rfl)) pe_str (nomark _))
      (pss_one (ps_ret (pe_op op_cat (pe_lst (pa_cons (pe_call FL hr1 rfl T.m_line_of T.k_line_of T.b_line_of .nil pass0 (pa_cons (pe_ix ix_tup (pv 0) pe_int (fun _ _ => rfl)) (pa_cons (pe_lst (pa_cons (pe_callB call_len_seq (by rfl) T.z_len PySem.boot_len (pa_cons (pe_ix ix_tup (pv 0) pe_int (fun _ _ => rfl)) pa_nil)) pa_nil)) pa_nil))) pa_nil))
        (pe_lc (own := [("row", 1)]) (g := gName 1) (tt := tYes) (te := tCall (spLine K) [] E0 (tCons (tC (.str "row")) (tCons (tVar 1) tNil))) rfl nd (pi_tup (pe_ix ix_tup (pv 0) pe_int (fun _ _ => rfl))) (blkOk_by (N := n_lines_of) (sc := defScope s_lines_of) (by decide +kernel)) (fun _ _ _ _ _ => pg_name (i := 1) nd rfl (Or.inl rfl)) (fun _ _ _ _ _ => pts_nil)
          (fun _ _ _ _ _ => pe_call FL hr1 rfl T.m_line_of T.k_line_of T.b_line_of .nil pass0 (pa_cons pe_str (pa_cons (pv 1) pa_nil))))))) pss_nil)
    (pss_one (ps_ret (pe_lst (pa_cons (pe_call FL hr1 rfl T.m_line_of T.k_line_of T.b_line_of .nil pass0 (pa_cons (pe_ix ix_tup (pv 0) pe_int (fun _ _ => rfl)) (pa_cons (pe_slice sl_tup (pv 0) (po_some pe_int) po_none) pa_nil))) pa_nil))))), ?_⟩
  cases t with
  | words n q =>
    obtain ⟨a, rfl, hS⟩ := hT
    obtain ⟨b1, b2, b3, b4⟩ := ok
    refine ⟨_, rfl, a, _, _, _, rfl, rfl, hS, rfl, rfl, _, rfl, iteQ s_wp ?_⟩
    refine ⟨_, rfl, a, _, _, _, rfl, rfl, hS, rfl, rfl, _, rfl, iteQ s_wl ?_⟩
    refine ⟨_, rfl, a, _, _, _, rfl, rfl, hS, rfl, _, rfl, _, rfl, a, _, rfl, hS, (fun z => absurd z.1 (show ¬ (HT.sIx 3 0 (some 1) = 0) by decide)), fun p hp => ?_⟩
    have s1 := same_new hp (.tup [.int n, .int q])
    refine ⟨"words", p, [n, q], rfl, .inr (SqT.of upd_same), ⟨.inl rfl, by show 2 ≤ 24; decide, fun x hx => ?_⟩, fun H1 s2 => ⟨fits (by show 1 ≤ 100000; decide), fun l hl => ?_⟩⟩
    · simp at hx
      rcases hx with e | e <;> subst e <;> (unfold N80; omega)
    · exact k l _ (s1.trans (s2.trans (same_new hl _))) upd_same
  | sets n q =>
    obtain ⟨a, rfl, hS⟩ := hT
    obtain ⟨b1, b2, b3, b4⟩ := ok
    refine ⟨_, rfl, a, _, _, _, rfl, rfl, hS, rfl, rfl, _, rfl, iteQ s_sp ?_⟩
    refine ⟨_, rfl, a, _, _, _, rfl, rfl, hS, rfl, rfl, _, rfl, iteQ s_sl ?_⟩
    refine ⟨_, rfl, a, _, _, _, rfl, rfl, hS, rfl, _, rfl, _, rfl, a, _, rfl, hS, (fun z => absurd z.1 (show ¬ (HT.sIx 3 0 (some 1) = 0) by decide)), fun p hp => ?_⟩
    have s1 := same_new hp (.tup [.int n, .int q])
    refine ⟨"sets", p, [n, q], rfl, .inr (SqT.of upd_same), ⟨.inr (.inl rfl), by show 2 ≤ 24; decide, fun x hx => ?_⟩, fun H1 s2 => ⟨fits (by show 1 ≤ 100000; decide), fun l hl => ?_⟩⟩
    · simp at hx
      rcases hx with e | e <;> subst e <;> (unfold N80; omega)
    · exact k l _ (s1.trans (s2.trans (same_new hl _))) upd_same
  | listed rows =>
    obtain ⟨a, b, xs, rfl, hS, hrow, hR⟩ := hT
    obtain ⟨c1, c2, c3⟩ := Lsd.row ok
    have lenR : xs.length = rows.length := hR.length
    refine ⟨_, rfl, a, _, _, _, rfl, rfl, hS, rfl, rfl, _, rfl, iteQ s_lp ?_⟩
    refine ⟨_, rfl, a, _, _, _, rfl, rfl, hS, rfl, rfl, _, rfl, iteP (decide_eq_true rfl) ?_⟩
    refine ⟨_, rfl, a, _, _, _, rfl, rfl, hS, rfl, _, rfl, a, _, _, _, rfl, rfl, hS, rfl, b, xs, rfl, .inr hrow, fits (by show 1 ≤ 100000; decide), fun l hl => ?_⟩
    have s1 := same_new hl (.lst [V.int (xs.length : Int)])
    refine ⟨"listed", l, [(rows.length : Int)], rfl, .inl (SqL.of (by rw [upd_same, lenR]; rfl)), ⟨.inr (.inr (.inl rfl)), by show 1 ≤ 24; decide, fun x hx => ?_⟩, fun H1 s2 => ⟨fits (by show 1 ≤ 100000; decide), fun m hm => ?_⟩⟩
    · rw [List.mem_singleton.mp hx]
      unfold N80
      omega
    have s3 := s1.trans (s2.trans (same_new hm (.lst [V.str (gl (hd "listed" [(rows.length : Int)]))])))
    generalize hH2 : upd H1 m (.lst [V.str (gl (hd "listed" [(rows.length : Int)]))]) = H2 at s3
    have hm2 : H2 m = some (.lst [V.str (gl (hd "listed" [(rows.length : Int)]))]) := by rw [← hH2]; exact upd_same
    refine ⟨_, rfl, a, _, _, _, rfl, rfl, Same.tup s3 hS, rfl, b, rfl, ⟨xs, Same.tup s3 hrow⟩, fun D hD => lc_seq (a := b) (xs := xs) (J := Itt K b) (fun i H' => Same H2 H' ∧ H' D = some (.lst (((rows.take i).map fun r => gl (hd "row" r)).map V.str))) ⟨same_new hD _, upd_same⟩ (fun i H' _ ⟨s4, _⟩ => .inr ⟨rfl, Same.tup s4 (Same.tup s3 hrow)⟩) ⟨H, .inr ⟨rfl, hrow⟩⟩ ?_ ?_⟩
    · rintro i v H3 hi ⟨s4, hD3⟩
      obtain ⟨bb, ns, rfl, hns, hTb⟩ := hR.at hi
      have hil : i < rows.length := (List.getElem?_eq_some_iff.mp hns).1
      obtain ⟨d1, d2⟩ := c3 ns (List.mem_of_getElem? hns)
      refine ⟨rfl, yes (iteT ?_)⟩
      refine ⟨_, rfl, "row", bb, ns, rfl, .inr (Same.tup s4 (Same.tup s3 hTb)), ⟨.inr (.inr (.inr (.inl rfl))), by omega, fun y hy => ?_⟩, fun H4 s5 => ?_⟩
      · have := d2 y hy
        unfold N80
        omega
      refine ⟨_, s5 _ _ hD3, fitsL (by rw [List.length_map, List.length_map, List.length_take]; omega), ?_, ?_⟩
      · intro c o e
        rw [upd_ne (ne_of_none e hD)]
        exact s5 _ _ (s4 c o e)
      · rw [upd_same, take_more hns, List.map_append, List.map_append]
        rfl
    rintro H3 ⟨s4, hD3⟩
    rw [lenR, List.take_length] at hD3
    refine ⟨m, D, _, _, rfl, rfl, s4 _ _ hm2, hD3, fits (by rw [List.length_map, List.length_map]; show 1 + rows.length ≤ 100000; omega), fun p hp => ?_⟩
    refine k p _ (s3.trans (s4.trans (same_new hp _))) ?_
    rw [upd_same]
    show some (HO.lst (V.str (gl (hd "listed" [(rows.length : Int)])) :: (rows.map fun r => gl (hd "row" r)).map V.str)) = _
    unfold Tr.lines Tr.lw
    rw [List.map_cons, List.map_cons, List.map_map (f := hd "row")]
    rfl
  | prod s t =>
    obtain ⟨a, x, y, rfl, hS, hx, hy⟩ := hT
    obtain ⟨os, ot, _⟩ := ok
    have hh : s.ht + 1 ≤ (Tr.prod s t).ht ∧ t.ht + 1 ≤ (Tr.prod s t).ht := by
      show s.ht + 1 ≤ (if s.ht ≤ t.ht then t.ht else s.ht) + 1 ∧ t.ht + 1 ≤ (if s.ht ≤ t.ht then t.ht else s.ht) + 1
      split <;> omega
    have l1 := os.lw200
    have l2 := ot.lw200
    refine ⟨_, rfl, a, _, _, _, rfl, rfl, hS, rfl, rfl, _, rfl, iteP (decide_eq_true rfl) ?_⟩
    refine ⟨_, rfl, a, _, _, _, rfl, rfl, hS, rfl, fits (by show 1 ≤ 100000; decide), fun l hl => ?_⟩
    have s1 := same_new hl (.lst [V.str "product"])
    refine ⟨_, rfl, a, _, _, _, rfl, rfl, Same.tup s1 hS, rfl, x, s, rfl, TreeT.same s1 hx, os, by omega, fun b H1 s2 hb => ?_⟩
    refine ⟨l, b, _, _, rfl, rfl, s2 _ _ upd_same, hb, fits (by unfold Tr.lines; rw [List.length_map, List.length_map]; show 1 + s.lw.length ≤ 100000; omega), fun p hp => ?_⟩
    have s3 := same_new hp (.lst ([V.str "product"] ++ s.lines.map V.str))
    refine ⟨_, rfl, a, _, _, _, rfl, rfl, Same.tup s3 (Same.tup s2 (Same.tup s1 hS)), rfl, y, t, rfl, TreeT.same s3 (TreeT.same s2 (TreeT.same s1 hy)), ot, by omega, fun c H2 s4 hc => ?_⟩
    refine ⟨p, c, _, _, rfl, rfl, s4 _ _ upd_same, hc, fits (by unfold Tr.lines; rw [List.length_append, List.length_map, List.length_map, List.length_map, List.length_map]; show 1 + s.lw.length + t.lw.length ≤ 100000; omega), fun r hrn => ?_⟩
    refine k r _ (s1.trans (s2.trans (s3.trans (s4.trans (same_new hrn _))))) ?_
    rw [upd_same]
    unfold Tr.lines
    show some (HO.lst ([V.str "product"] ++ (s.lw.map gl).map V.str ++ (t.lw.map gl).map V.str)) = some (HO.lst (V.str (gl ["product"]) :: ((s.lw ++ t.lw).map gl).map V.str))
    rw [gl_one, List.map_append, List.map_append]
    rfl
theorem lines_all (T : Txt w K mg) : ∀ f : Nat, FnOk P w K mg base CX0 (1 + f) T.a_lines_of T.d_lines_of p_lines_of (spLines K f)
  | 0 => by
    have no : ∀ vs H Q E, ¬ spLines K 0 vs H Q E := fun vs H Q E h => by
      obtain ⟨v, t, _, _, _, hf, _⟩ := h
      have := t.ht_pos
      omega
    exact ⟨fun vs H Q E h => absurd h (no vs H Q E), fun A outer s H args us vs Q E _ _ _ _ h => absurd h (no vs H Q E)⟩
  | f + 1 => lines_step T f (lines_all T f)
/-- a tree that is a scheme: its text; a bad one: refused -/
def spFormat (K : PySem.W.Frag) (CI : Addr) : Sp := fun vs H Q E => ∃ v : V, vs = [v] ∧
  ((∃ T : Tr, TreeAt K H T v ∧ T.Ok ∧ ∀ H', Same H H' → Q (.str T.text) H') ∨ (∃ m : Nat, m < 5 ∧ BadAt K H m v ∧ ∀ H', Same H H' → E (.ref CI) none H'))
theorem ok_format_scheme (T : Txt w K mg) : FnOk P w K mg base (L2.CX P w) 13 T.a_format_scheme T.d_format_scheme p_format_scheme (spFormat K T.CI) := by
  have FC := ok_checked (P := P) (base := base) T
  have FL := lines_all (P := P) (base := base) T 8
  refine T.F_format_scheme.okX sc_format_scheme (fun vs H Q E h => ?_) (fun cdv A outer s H vs Q E hr h => ?_)
  · obtain ⟨_, rfl, _⟩ := h
    rfl
  obtain ⟨v, rfl, h⟩ := h
  refine ⟨_, pss_one (ps_ret (pe_join pe_str (pe_op op_cat (pe_lst (pa_cons pe_str pa_nil)) (pe_call FL (hr.mono (by decide)) rfl T.m_lines_of T.k_lines_of T.b_lines_of .nil pass0 (pa_cons
      (pe_call FC hr rfl T.m_checked T.k_checked T.b_checked .nil (passes_call (takes_of rfl rfl rfl rfl) (fun _ _ _ _ e => e)) (pa_cons (pv 0) pa_nil)) pa_nil))))), ?_⟩
  refine ⟨⟨_, rfl⟩, fits (by show 1 ≤ 100000; decide), fun l hl => ?_⟩
  have s1 := same_new hl (.lst [V.str "scheme"])
  rcases h with ⟨t, hT, ok, k⟩ | ⟨m, hm, hB, kE⟩
  · have h1 := t.ht_parts
    have h2 := ok.parts_le
    have l1 := ok.lw200
    refine ⟨_, rfl, v, rfl, .inl ⟨t, hT.same s1, ok, fun x H1 s2 ht => ⟨x, t, rfl, ht, ok, by omega, fun b H2 s3 hb => ?_⟩⟩⟩
    refine ⟨l, b, _, _, rfl, rfl, s3 _ _ (s2 _ _ upd_same), hb, fits (by unfold Tr.lines; rw [List.length_map, List.length_map]; show 1 + t.lw.length ≤ 100000; omega), fun p hp => ?_⟩
    refine ⟨_, p, ("scheme" : Str) :: t.lines, rfl, rfl, .inl (SqL.of upd_same), Nat.le_trans ok.text_sum (by decide), k _ (s1.trans (s2.trans (s3.trans (same_new hp _))))⟩
  · exact ⟨_, rfl, v, rfl, .inr ⟨m, hm, hB.same s1, fun H1 s2 => kE H1 (s1.trans s2)⟩⟩
end
end K5
set_option Elab.async false
set_option linter.all false
set_option maxRecDepth 100000
set_option maxHeartbeats 16000000
/-! The reader's small defs: is_number, are_numbers, is_head, is_row, numbers_of. -/
namespace K5
open PySem PySem.Spec PyProof.Rows L2
/-- a comprehension over a text -/
theorem lc_str {x : Str} {g : TG} {tt : TT} {te : TE} {vs : List Nat} {σ : L2.St} {H1 : Hp} {D : Addr} {Qd : Hp → Prop} (Pv : Nat → Hp → Prop) (h0 : Pv 0 (upd H1 D (.lst [])))
    (hs : ∀ (i : Nat) (c : Nat) H, x.cps[i]? = some c → Pv i H → g (.str ⟨#[c]⟩) (wipe σ vs) H fun σ2 H2 => wipe σ2 vs = wipe σ vs ∧ tt σ2 H2 fun b H3 =>
      if b = true then te σ2 H3 fun y H4 => ∃ acc, H4 D = some (.lst acc) ∧ acc.length < sizeLine ∧ Pv (i + 1) (upd H4 D (.lst (acc ++ [y]))) else Pv (i + 1) H3) (hd : ∀ H, Pv x.cps.size H → Qd H) :
    ∃ W : Nat → Nat → Hp → Prop, (∃ m, W 0 m (upd H1 D (.lst []))) ∧ ∀ i m H, W i m H →
      ((Its x).stop i H ∧ Qd H) ∨ ((Its x).go i H ∧ ∃ Nx : Hp → Prop, (∀ H', Nx H' → ∃ m', m' < m ∧ W (i + 1) m' H') ∧ ∀ v H', (Its x).yld i H v H' → g v (wipe σ vs) H' fun σ2 H2 => wipe σ2 vs = wipe σ vs ∧ tt σ2 H2 fun b H3 =>
        if b = true then te σ2 H3 fun y H4 => ∃ acc, H4 D = some (.lst acc) ∧ acc.length < sizeLine ∧ Nx (upd H4 D (.lst (acc ++ [y]))) else Nx H3) := by
  refine ⟨fun i m H => m = x.cps.size - i ∧ i ≤ x.cps.size ∧ Pv i H, ⟨x.cps.size, by simp, Nat.zero_le _, h0⟩, ?_⟩
  rintro i m H ⟨rfl, hi, p⟩
  by_cases hlt : i < x.cps.size
  · refine .inr ⟨hlt, Pv (i + 1), fun H' p' => ⟨x.cps.size - (i + 1), by omega, rfl, hlt, p'⟩, ?_⟩
    rintro v H' ⟨rfl, c, hc, rfl⟩
    exact hs i c _ hc p
  · have e : i = x.cps.size := by omega
    subst e
    exact .inl ⟨Nat.le_refl _, hd H p⟩
abbrev Sts (ws : List Str) : List V := ws.map V.str
/-- a list of texts -/
abbrev WL (K : PySem.W.Frag) (H : Hp) (a : Addr) (ws : List Str) : Prop := SqL K H a (Sts ws)
def spNum : Sp := fun vs H Q _ => ∃ n, vs = [.str (num n)] ∧ N80 n ∧ ∀ H', Same H H' → Q (.bl true) H'
def spNums (K : PySem.W.Frag) : Sp := fun vs H Q _ => ∃ (a : Addr) (ns : List Int), vs = [.ref a] ∧ WL K H a (ns.map num) ∧ ns.length ≤ 24 ∧ (∀ n ∈ ns, N80 n) ∧ ∀ H', Same H H' → Q (.bl true) H'
theorem cut1 (x : V) (xs : List V) : cutV (x :: xs) (some 1) none = xs := by
  unfold cutV
  have e : HT.sIx (x :: xs).length 0 (some 1) = 1 := by
    show (if (1 : Int) < 0 then ((1 : Int) + ((x :: xs).length : Int)).toNat else min (1 : Int).toNat (x :: xs).length) = 1
    rw [if_neg (by decide), List.length_cons]
    show min 1 (xs.length + 1) = 1
    omega
  rw [e, HT.sIx_none, List.drop_one, List.tail_cons, List.length_cons, Nat.add_sub_cancel, List.take_length]
/-- the heads that the reader asks for -/
def Hd (w : Str) (k : Nat) : Prop := (w = "words" ∧ k = 2) ∨ (w = "sets" ∧ k = 2) ∨ (w = "listed" ∧ k = 1) ∨ (w = "product" ∧ k = 0)
def spHead (K : PySem.W.Frag) : Sp := fun vs H Q _ => ∃ (a : Addr) (w : Str) (ns : List Int), vs = [.ref a] ∧ WL K H a (hd w ns) ∧ Hd w ns.length ∧ (∀ n ∈ ns, N80 n) ∧ ∀ H', Same H H' → Q (.bl true) H'
def spRow (K : PySem.W.Frag) : Sp := fun vs H Q _ => ∃ (a : Addr) (w : Str) (ns : List Int) (b : Bool), vs = [.ref a] ∧ WL K H a (hd w ns) ∧ Lg w ns ∧ ((b = true ∧ w = "row" ∧ ns ≠ []) ∨ (b = false ∧ w ≠ "row")) ∧ ∀ H', Same H H' → Q (.bl b) H'
def spNumsOf (K : PySem.W.Frag) : Sp := fun vs H Q _ => ∃ (a : Addr) (w : Str) (ns : List Int), vs = [.ref a] ∧ WL K H a (hd w ns) ∧ ns.length ≤ 24 ∧ (∀ n ∈ ns, N80 n) ∧ ∀ p H', Same H H' → H p = none → H' p = some (.tup (ns.map V.int)) → Q (.ref p) H'
def rIntN : List V → Hp → VK → Prop := fun xs H Q => ∃ a n, xs = [.str a] ∧ PySem.intText? a = some n ∧ a.length ≤ 640 ∧ Q (.int n) H
theorem call_intN {X : Cx} : CallR X (.type "int") rIntN := call_int_str
section
variable {P : Program} {w : World} {K : PySem.W.Frag} {mg : Str → Option Value} {base : Heap}
theorem ok_is_number (T : Txt w K mg) : FnOk P w K mg base CX0 1 T.a_is_number T.d_is_number p_is_number spNum := by
  refine T.F_is_number.ok sc_is_number (fun vs H Q E h => ?_) (fun cdv A outer s H vs Q E hr h => ?_)
  · obtain ⟨_, rfl, _⟩ := h
    rfl
  obtain ⟨n, rfl, h80, k⟩ := h
  have nd := sc_is_number.nd
  have q := num_ok h80
  refine ⟨_, pss_cons (ps_if (PW.pt (pw_or (pt_not (pt_chain op_le op_le pe_int (pe_callB call_len_str (by rfl) T.z_len PySem.boot_len (pa_cons (pv 0) pa_nil)) (kint rfl T.c_MOST_DIGITS)))
      (pw_or1 (pt_not (pt_val (pe_callB (cr_all rfl) (by rfl) T.z_all PyProof.Rows.boot_all (pa_cons
        (pe_lc (own := [("char", 1)]) (g := gName 1) (tt := tYes) rfl nd (pi_str (pv 0)) (blkOk_by (N := n_is_number) (sc := defScope s_is_number) (by decide +kernel)) (fun _ _ _ _ _ => pg_name (i := 1) nd rfl (Or.inl rfl)) (fun _ _ _ _ _ => pts_nil)
          (fun _ _ _ _ _ => pe_cmpR op_in_sign (pv 1) (kstr rfl T.c_DIGITS) (by with_unfolding_all rfl))) pa_nil)))))))
      (pss_one (ps_ret pe_bl)) pss_nil)
    (pss_one (ps_ret (pe_or (pe_cmpR op_eq (pv 0) pe_str (nomark _)) (pe_one (pe_cmpR op_ne (pe_ix ix_str (pv 0) pe_int (fun _ _ => rfl)) pe_str (nomark _)))))), ?_⟩
  have l1 := q.len1
  have l2 := q.len3
  refine ⟨_, rfl, _, rfl, fits (by omega), _, _, rfl, rfl, _, rfl, ?_⟩
  refine iteP (decide_eq_true (by omega)) ⟨_, _, rfl, rfl, _, rfl, ?_⟩
  refine iteQ (by rw [decide_eq_true (by omega)]; rfl) ?_
  refine ⟨_, rfl, num n, rfl, fun D hD => lc_str (x := num n) (fun i H' => Same H H' ∧ H' D = some (.lst ((List.replicate i true).map V.bl))) ⟨same_new hD _, upd_same⟩ ?_ ?_⟩
  · rintro i c H1 hi ⟨s1, hD1⟩
    have hil : i < (num n).cps.size := (Array.getElem?_eq_some_iff.mp hi).1
    have hc : c ∈ TL.tl (num n) := by
      have : (num n).cps.toList[i]? = some c := by rw [Array.getElem?_toList]; exact hi
      exact List.mem_of_getElem? this
    have hl : i ≤ 2 := by
      have : (num n).cps.size = (num n).length := rfl
      omega
    refine ⟨rfl, yes (iteT ?_)⟩
    refine ⟨_, rfl, c, _, rfl, rfl, _, hD1, fitsL (by rw [List.length_map, List.length_replicate]; omega), ?_, ?_⟩
    · intro b o e
      rw [upd_ne (ne_of_none e hD)]
      exact s1 b o e
    · have hf : decide (c ∈ (Str.ofString "0123456789").cps.toList) = true := decide_eq_true (q.fig c hc)
      rw [upd_same, hf, List.replicate_succ', List.map_append]
      rfl
  rintro H1 ⟨s1, hD1⟩
  refine ⟨D, _, rfl, SqL.of hD1, _, rfl, ?_⟩
  refine iteQ (by rw [show (List.replicate _ true).all id = true by simp]; rfl) ?_
  rcases q.lead with e | ⟨c, hc, e⟩
  · refine ⟨_, rfl, rfl, _, rfl, iteP (decide_eq_true (by rw [e])) ?_⟩
    exact k H1 s1
  · refine ⟨_, rfl, rfl, _, rfl, ?_⟩
    have ne : num n ≠ "0" := fun z => by
      rw [z] at hc
      have : c = 48 := (Option.some.inj hc).symm
      exact e this
    refine iteQ (decide_eq_false fun z => ne (V.str.inj z)) ?_
    refine ⟨_, rfl, _, _, _, rfl, rfl, fits (by omega), atI_nat (j := 0) hc, rfl, ?_⟩
    have ne2 : (⟨#[c]⟩ : Str) ≠ "0" := fun z => by
      have : TL.tl (⟨#[c]⟩ : Str) = TL.tl ("0" : Str) := by rw [z]
      have h2 : TL.tl ("0" : Str) = [48] := by decide +kernel
      rw [h2] at this
      exact e (List.cons.inj this).1
    rw [decide_eq_false fun z => ne2 (V.str.inj z)]
    exact k H1 s1
theorem ok_are_numbers (T : Txt w K mg) : FnOk P w K mg base CX0 2 T.a_are_numbers T.d_are_numbers p_are_numbers (spNums K) := by
  have FN := ok_is_number (P := P) (base := base) T
  refine T.F_are_numbers.ok sc_are_numbers (fun vs H Q E h => ?_) (fun cdv A outer s H vs Q E hr h => ?_)
  · obtain ⟨_, _, rfl, _⟩ := h
    rfl
  obtain ⟨a, ns, rfl, hS, hl, h80, k⟩ := h
  have nd := sc_are_numbers.nd
  refine ⟨_, pss_one (ps_ret (pe_callB (cr_all rfl) (by rfl) T.z_all PyProof.Rows.boot_all (pa_cons
        (pe_lc (own := [("word", 1)]) (g := gName 1) (tt := tYes) (te := tCall spNum [] E0 (tCons (tVar 1) tNil)) rfl nd (pi_list (pv 0)) (blkOk_by (N := n_are_numbers) (sc := defScope s_are_numbers) (by decide +kernel)) (fun _ _ _ _ _ => pg_name (i := 1) nd rfl (Or.inl rfl)) (fun _ _ _ _ _ => pts_nil)
          (fun _ _ _ _ _ => pe_call FN hr rfl T.m_is_number T.k_is_number T.b_is_number .nil pass0 (pa_cons (pv 1) pa_nil))) pa_nil))), ?_⟩
  refine ⟨_, rfl, a, rfl, ⟨_, hS⟩, fun D hD => lc_seq (a := a) (xs := Sts (ns.map num)) (J := Itl K a) (fun i H' => Same H H' ∧ H' D = some (.lst ((List.replicate i true).map V.bl))) ⟨same_new hD _, upd_same⟩ (fun i H' _ ⟨s1, _⟩ => .inl ⟨rfl, Same.seq s1 hS⟩) ⟨H, .inl ⟨rfl, hS⟩⟩ ?_ ?_⟩
  · rintro i v H1 hi ⟨s1, hD1⟩
    have hil : i < ns.length := by
      have := (List.getElem?_eq_some_iff.mp hi).1
      rwa [List.length_map, List.length_map] at this
    have hv : v = .str (num ns[i]) := by
      rw [List.getElem?_map, List.getElem?_map, List.getElem?_eq_getElem hil] at hi
      exact (Option.some.inj hi).symm
    subst hv
    refine ⟨rfl, yes (iteT ?_)⟩
    refine ⟨_, rfl, ns[i], rfl, h80 _ (List.getElem_mem hil), fun H2 s2 => ⟨_, s2 _ _ hD1, fitsL (by rw [List.length_map, List.length_replicate]; omega), ?_, ?_⟩⟩
    · intro b o e
      rw [upd_ne (ne_of_none e hD)]
      exact s2 _ _ (s1 b o e)
    · rw [upd_same, List.replicate_succ', List.map_append]
      rfl
  rintro H1 ⟨s1, hD1⟩
  refine ⟨D, _, rfl, SqL.of hD1, ?_⟩
  rw [show (List.replicate _ true).all id = true by simp]
  exact k H1 s1
theorem ok_is_head (T : Txt w K mg) : FnOk P w K mg base CX0 3 T.a_is_head T.d_is_head p_is_head (spHead K) := by
  have FN := ok_are_numbers (P := P) (base := base) T
  refine T.F_is_head.ok sc_is_head (fun vs H Q E h => ?_) (fun cdv A outer s H vs Q E hr h => ?_)
  · obtain ⟨_, _, _, rfl, _⟩ := h
    rfl
  obtain ⟨a, wo, ns, rfl, hS, hh, h80, k⟩ := h
  have nd := sc_is_head.nd
  refine ⟨_, pss_one (ps_ret (pe_and (pe_cmpR (op_in_kd T.D_NUMBERS) (pe_ix ix_list (pv 0) pe_int (fun _ _ => rfl)) (pe_glob (v := .ref T.a_NUMBERS) rfl T.m_NUMBERS rfl) (by with_unfolding_all rfl))
    (pe_and (pe_cmpR op_eq (pe_callB call_len_seq (by rfl) T.z_len PySem.boot_len (pa_cons (pv 0) pa_nil)) (pe_op op_add (pe_ix ix_kdict (pe_glob (v := .ref T.a_NUMBERS) rfl T.m_NUMBERS rfl) (pe_ix ix_list (pv 0) pe_int (fun _ _ => rfl)) (fun _ _ => rfl)) pe_int) (nomark _))
      (pe_one (pe_call FN hr rfl T.m_are_numbers T.k_are_numbers T.b_are_numbers .nil pass0 (pa_cons (pe_slice sl_list (pv 0) (po_some pe_int) po_none) pa_nil)))))), ?_⟩
  have dW := kd_of T.D_NUMBERS T.v_NUMBERS_words
  have dS := kd_of T.D_NUMBERS T.v_NUMBERS_sets
  have dL := kd_of T.D_NUMBERS T.v_NUMBERS_listed
  have dP := kd_of T.D_NUMBERS T.v_NUMBERS_product
  have key : ∃ (u : Value), PySem.W.nsIn K T.a_NUMBERS wo = some (some u) ∧ KDct K w T.a_NUMBERS wo (.int (ns.length : Int)) := by
    rcases hh with ⟨e1, e2⟩ | ⟨e1, e2⟩ | ⟨e1, e2⟩ | ⟨e1, e2⟩ <;> subst e1 <;> rw [e2]
    · obtain ⟨t, e⟩ := T.v_NUMBERS_words; exact ⟨_, e, dW⟩
    · obtain ⟨t, e⟩ := T.v_NUMBERS_sets; exact ⟨_, e, dS⟩
    · obtain ⟨t, e⟩ := T.v_NUMBERS_listed; exact ⟨_, e, dL⟩
    · obtain ⟨t, e⟩ := T.v_NUMBERS_product; exact ⟨_, e, dP⟩
  obtain ⟨u, hu, hk⟩ := key
  have hl : ns.length ≤ 24 := by
    rcases hh with ⟨e1, e2⟩ | ⟨e1, e2⟩ | ⟨e1, e2⟩ | ⟨e1, e2⟩ <;> omega
  refine ⟨_, rfl, a, _, _, _, rfl, rfl, hS, at_of (j := 0) rfl rfl, wo, _, rfl, rfl, hu, _, rfl, iteP rfl ?_⟩
  refine ⟨_, rfl, a, _, rfl, .inl hS, _, rfl, a, _, _, _, rfl, rfl, hS, at_of (j := 0) rfl rfl, _, _, _, rfl, rfl, hk, _, _, rfl, rfl, rfl, _, rfl, iteP (decide_eq_true ?_) ?_⟩
  · show V.int (((ns.map num).map V.str).length + 1 : Nat) = V.int ((ns.length : Int) + 1)
    rw [List.length_map, List.length_map]
    rfl
  · refine ⟨_, rfl, _, rfl, a, _, rfl, hS, fun p hp => ⟨p, ns, rfl, SqL.of (by rw [upd_same]; exact congrArg (fun z => some (HO.lst z)) (cut1 _ _)), hl, h80, fun H1 s1 => k H1 ((same_new hp _).trans s1)⟩⟩
theorem ok_is_row (T : Txt w K mg) : FnOk P w K mg base CX0 3 T.a_is_row T.d_is_row p_is_row (spRow K) := by
  have FN := ok_are_numbers (P := P) (base := base) T
  refine T.F_is_row.ok sc_is_row (fun vs H Q E h => ?_) (fun cdv A outer s H vs Q E hr h => ?_)
  · obtain ⟨_, _, _, _, rfl, _⟩ := h
    rfl
  obtain ⟨a, wo, ns, b, rfl, hS, lg, hb, k⟩ := h
  have nd := sc_is_row.nd
  refine ⟨_, pss_one (ps_ret (pe_and (pe_cmpR op_gt (pe_callB call_len_seq (by rfl) T.z_len PySem.boot_len (pa_cons (pv 0) pa_nil)) pe_int (nomark _))
    (pe_and (pe_cmpR op_eq (pe_ix ix_list (pv 0) pe_int (fun _ _ => rfl)) pe_str (nomark _))
      (pe_one (pe_call FN hr rfl T.m_are_numbers T.k_are_numbers T.b_are_numbers .nil pass0 (pa_cons (pe_slice sl_list (pv 0) (po_some pe_int) po_none) pa_nil)))))), ?_⟩
  refine ⟨_, rfl, a, _, rfl, .inl hS, _, _, rfl, rfl, _, rfl, ?_⟩
  have len : (Sts (hd wo ns)).length = ns.length + 1 := by
    show ((ns.map num).map V.str).length + 1 = _
    rw [List.length_map, List.length_map]
  rw [len]
  rcases hb with ⟨e, e1, e2⟩ | ⟨e, e1⟩
  · subst e e1
    have : 0 < ns.length := List.length_pos_iff.mpr e2
    refine iteP (decide_eq_true (by omega)) ?_
    refine ⟨_, rfl, a, _, _, _, rfl, rfl, hS, at_of (j := 0) rfl rfl, rfl, _, rfl, iteP (decide_eq_true rfl) ?_⟩
    refine ⟨_, rfl, _, rfl, a, _, rfl, hS, fun p hp => ⟨p, ns, rfl, SqL.of (by rw [upd_same]; exact congrArg (fun z => some (HO.lst z)) (cut1 _ _)), lg.len, lg.n80, fun H1 s1 => k H1 ((same_new hp _).trans s1)⟩⟩
  · subst e
    by_cases hn : 0 < ns.length
    · refine iteP (decide_eq_true (by omega)) ?_
      have nw : decide (V.str wo = V.str "row") = false := decide_eq_false fun z => e1 (V.str.inj z)
      refine ⟨_, rfl, a, _, _, _, rfl, rfl, hS, at_of (j := 0) rfl rfl, rfl, _, rfl, iteQ nw ?_⟩
      exact k H (Same.refl H)
    · have nw : decide ((1 : Int) < ((ns.length + 1 : Nat) : Int)) = false := decide_eq_false (by omega)
      refine iteQ nw ?_
      exact k H (Same.refl H)
theorem ok_numbers_of (T : Txt w K mg) : FnOk P w K mg base CX0 1 T.a_numbers_of T.d_numbers_of p_numbers_of (spNumsOf K) := by
  refine T.F_numbers_of.ok sc_numbers_of (fun vs H Q E h => ?_) (fun cdv A outer s H vs Q E hr h => ?_)
  · obtain ⟨_, _, _, rfl, _⟩ := h
    rfl
  obtain ⟨a, wo, ns, rfl, hS, hl, h80, k⟩ := h
  have nd := sc_numbers_of.nd
  refine ⟨_, pss_one (ps_ret (pe_callTy call_tuple_of (by rfl) T.z_tuple PyProof.Rows.boot_tuple (pa_cons
        (pe_lc (own := [("word", 1)]) (g := gName 1) (tt := tYes) (te := tCB rIntN (tCons (tVar 1) tNil)) rfl nd (pi_list (pe_slice sl_list (pv 0) (po_some pe_int) po_none)) (blkOk_by (N := n_numbers_of) (sc := defScope s_numbers_of) (by decide +kernel)) (fun _ _ _ _ _ => pg_name (i := 1) nd rfl (Or.inl rfl)) (fun _ _ _ _ _ => pts_nil)
          (fun _ _ _ _ _ => pe_callTy call_intN (by rfl) T.z_int PyProof.Rows.boot_int (pa_cons (pv 1) pa_nil))) pa_nil))), ?_⟩
  refine ⟨_, rfl, _, rfl, a, _, rfl, hS, fun c hc => ?_⟩
  have s0 := same_new hc (.lst (cutV (Sts (hd wo ns)) (some 1) none))
  have hcut : (upd H c (.lst (cutV (Sts (hd wo ns)) (some 1) none))) c = some (.lst (Sts (ns.map num))) := by
    rw [upd_same]
    exact congrArg (fun z => some (HO.lst z)) (cut1 _ _)
  generalize upd H c (.lst (cutV (Sts (hd wo ns)) (some 1) none)) = H0 at s0 hcut
  refine ⟨c, rfl, ⟨_, SqL.of hcut⟩, fun D hD => lc_seq (a := c) (xs := Sts (ns.map num)) (J := Itl K c) (fun i H' => Same H0 H' ∧ H' D = some (.lst ((ns.take i).map V.int))) ⟨same_new hD _, upd_same⟩ (fun i H' _ ⟨s1, _⟩ => .inl ⟨rfl, Same.seq s1 (SqL.of hcut)⟩) ⟨H0, .inl ⟨rfl, SqL.of hcut⟩⟩ ?_ ?_⟩
  · rintro i v H1 hi ⟨s1, hD1⟩
    have hil : i < ns.length := by
      have := (List.getElem?_eq_some_iff.mp hi).1
      rwa [List.length_map, List.length_map] at this
    have hv : v = .str (num ns[i]) := by
      rw [List.getElem?_map, List.getElem?_map, List.getElem?_eq_getElem hil] at hi
      exact (Option.some.inj hi).symm
    subst hv
    have q := num_ok (h80 _ (List.getElem_mem hil))
    have l2 := q.len3
    refine ⟨rfl, yes (iteT ?_)⟩
    refine ⟨_, rfl, num ns[i], ns[i], rfl, q.back, by omega, _, hD1, fitsL (by rw [List.length_map, List.length_take]; omega), ?_, ?_⟩
    · intro b o e
      rw [upd_ne (ne_of_none e hD)]
      exact s1 b o e
    · rw [upd_same, take_more (List.getElem?_eq_getElem hil), List.map_append]
      rfl
  rintro H1 ⟨s1, hD1⟩
  rw [List.length_map, List.length_map, List.take_length] at hD1
  refine ⟨D, _, rfl, .inl ⟨SqL.of hD1, fun p hp => k p _ (s0.trans (s1.trans (same_new hp _))) ((s0.trans s1).free hp) upd_same⟩⟩
end
end K5
set_option Elab.async false
set_option linter.all false
set_option maxRecDepth 100000
set_option maxHeartbeats 16000000
/-! Hidden addresses; rows_from; joined. -/
namespace K5
open PySem PySem.Spec PyProof.Rows L2
/-- the heap without the addresses in S -/
def hide (S : List Addr) (H : Hp) : Hp := fun a => if a ∈ S then none else H a
theorem hide_in {S : List Addr} {H : Hp} {a : Addr} {o : HO} : hide S H a = some o ↔ a ∉ S ∧ H a = some o := by
  unfold hide
  by_cases h : a ∈ S
  · rw [if_pos h]; exact ⟨(fun z => nomatch z), fun z => absurd h z.1⟩
  · rw [if_neg h]; exact ⟨fun z => ⟨h, z⟩, fun z => z.2⟩
theorem hide_same (S : List Addr) (H : Hp) : Same (hide S H) H := fun b o e => (hide_in.mp e).2
theorem hide_upd {S : List Addr} {H : Hp} {f : Addr} {o : HO} (h : f ∈ S) : Same (hide S H) (hide S (upd H f o)) := fun b u e => by
  obtain ⟨n, e⟩ := hide_in.mp e
  exact hide_in.mpr ⟨n, by rw [upd_ne (fun z => n (by rw [z]; exact h))]; exact e⟩
theorem hide_step {S : List Addr} {H H' : Hp} (h : Same H H') : Same (hide S H) (hide S H') := fun b o e => by
  obtain ⟨n, e⟩ := hide_in.mp e
  exact hide_in.mpr ⟨n, h _ _ e⟩
theorem hide_cons {S : List Addr} {H : Hp} {f : Addr} (h : H f = none) : Same (hide S H) (hide (f :: S) H) := fun b o e => by
  obtain ⟨n, e⟩ := hide_in.mp e
  refine hide_in.mpr ⟨fun z => ?_, e⟩
  rcases List.mem_cons.mp z with z | z
  · exact ne_of_none e h z
  · exact n z
theorem hide_sub {S S' : List Addr} {H : Hp} (h : ∀ a ∈ S', a ∈ S) : Same (hide S H) (hide S' H) := fun b o e => by
  obtain ⟨n, e⟩ := hide_in.mp e
  exact hide_in.mpr ⟨fun z => n (h _ z), e⟩
theorem hide_one {H0 H : Hp} {f : Addr} (s : Same H0 H) (h : H0 f = none) : Same H0 (hide [f] H) := fun b o e =>
  hide_in.mpr ⟨fun z => ne_of_none e h (List.mem_singleton.mp z), s _ _ e⟩
/-- what is new in the second heap -/
def fresh (H H' : Hp) : Hp := fun a => if (H a).isSome = true then none else H' a
theorem fresh_in {H H' : Hp} {a : Addr} {o : HO} : fresh H H' a = some o ↔ H a = none ∧ H' a = some o := by
  unfold fresh
  cases h : H a with
  | some x => simp
  | none => simp
theorem fresh_step {H h h' : Hp} (e : Same h h') : Same (fresh H h) (fresh H h') := fun b o z => by
  obtain ⟨n, z⟩ := fresh_in.mp z
  exact fresh_in.mpr ⟨n, e _ _ z⟩
theorem fresh_hide {S : List Addr} {H H' : Hp} (h : ∀ a ∈ S, ∃ o, H a = some o) : Same (fresh H H') (hide S H') := fun b o z => by
  obtain ⟨n, z⟩ := fresh_in.mp z
  refine hide_in.mpr ⟨fun y => ?_, z⟩
  obtain ⟨o, e⟩ := h b y
  rw [n] at e
  cases e
theorem snoc {α β : Type} {F : α → β → Prop} {l : List α} {m : List β} (h : Paired F l m) {x : α} {y : β} (r : F x y) : Paired F (l ++ [x]) (m ++ [y]) := by
  induction h with
  | nil => exact .cons r .nil
  | cons r' _ ih => exact .cons r' ih
/-- refs to lists of texts -/
abbrev Lns (K : PySem.W.Frag) (H : Hp) : List V → List (List Str) → Prop := Paired fun v ws => ∃ b, v = .ref b ∧ WL K H b ws
theorem Lns.same {K : PySem.W.Frag} {H H' : Hp} {xs : List V} {Ls : List (List Str)} (e : Same H H') (h : Lns K H xs Ls) : Lns K H' xs Ls :=
  Paired.mapP h fun v ws ⟨b, q, r⟩ => ⟨b, q, Same.seq e r⟩
theorem Lns.get {K : PySem.W.Frag} {H : Hp} : ∀ {xs : List V} {Ls : List (List Str)} {i : Nat} {ws : List Str}, Lns K H xs Ls → Ls[i]? = some ws → ∃ b, xs[i]? = some (.ref b) ∧ WL K H b ws
  | _, _, _, _, .nil, e => by simp at e
  | _, _, 0, _, .cons r _, e => by
    simp at e
    subst e
    obtain ⟨b, q, r⟩ := r
    subst q
    exact ⟨b, rfl, r⟩
  | _, _, i + 1, ws, .cons _ t, e => by
    obtain ⟨b, h1, h2⟩ := Lns.get (i := i) (ws := ws) t (by simpa using e)
    exact ⟨b, by simpa using h1, h2⟩
theorem WL.len {ns : List Int} {w : Str} : (Sts (hd w ns)).length = ns.length + 1 := by
  show ((ns.map num).map V.str).length + 1 = _
  rw [List.length_map, List.length_map]
theorem drop_at {α : Type} {L A R : List α} {k i : Nat} (h : L.drop k = A ++ R) : (A ++ R)[i]? = L[k + i]? := by rw [← h, List.getElem?_drop]
def spRowsFrom (K : PySem.W.Frag) : Sp := fun vs H Q _ => ∃ (p : Addr) (xs : List V) (Ls : List (List Str)) (k : Nat) (rows : List (List Int)) (rest : List (List Str)), vs = [.ref p, .int (k : Int)] ∧ SqL K H p xs ∧ Lns K H xs Ls ∧
  Ls.drop k = rows.map (hd "row") ++ rest ∧ rows.length ≤ 24 ∧ (∀ r ∈ rows, Lg "row" r ∧ r ≠ []) ∧ (∀ ws, rest[0]? = some ws → ∃ w ns, ws = hd w ns ∧ Lg w ns ∧ w ≠ "row") ∧
  ∀ b ys H', Same H H' → H b = none → H' b = some (.lst ys) → Rs K (fresh H H') ys rows → Q (.ref b) H'
section
variable {P : Program} {w : World} {K : PySem.W.Frag} {mg : Str → Option Value} {base : Heap}
theorem ok_rows_from (T : Txt w K mg) : FnOk P w K mg base CX0 4 T.a_rows_from T.d_rows_from p_rows_from (spRowsFrom K) := by
  have FI := ok_is_row (P := P) (base := base) T
  have FN := ok_numbers_of (P := P) (base := base) T
  refine T.F_rows_from.ok sc_rows_from (fun vs H Q E h => ?_) (fun cdv A outer s H vs Q E hr h => ?_)
  · obtain ⟨_, _, _, _, _, _, rfl, _⟩ := h
    rfl
  obtain ⟨p, xs, Ls, k, rows, rest, rfl, hS, hL, hd0, h24, hrow, hrest, kont⟩ := h
  have nd := sc_rows_from.nd
  have hr1 : Room 1 _ := hr.mono (by omega)
  have lenX : xs.length = Ls.length := hL.length
  refine ⟨_, pss_cons (ps_set (i := 2) nd rfl (.inl rfl) (pe_lst pa_nil))
    (pss_cons (ps_while PassesOwn.never (PW.pt (pw_and (pt_cmpR op_lt (pv 1) (pe_callB call_len_seq (by rfl) T.z_len PySem.boot_len (pa_cons (pv 0) pa_nil)) (nomark _))
        (pw_and1 (pt_val (pe_call FI hr rfl T.m_is_row T.k_is_row T.b_is_row .nil pass0 (pa_cons (pe_ix ix_list (pv 0) (pv 1) (fun _ _ => rfl)) pa_nil))))))
      (pss_cons (ps_expr (pe_bm PySem.F.plainAttrs_list PySem.F.slot_list_append PySem.F.type_list_append mt_append (pv 2) (pa_cons
          (pe_call FN hr1 rfl T.m_numbers_of T.k_numbers_of T.b_numbers_of .nil pass0 (pa_cons (pe_ix ix_list (pv 0) (pv 1) (fun _ _ => rfl)) pa_nil)) pa_nil)))
        (pss_one (ps_aug (i := 1) nd rfl (.inl rfl) pe_int iop_add))))
    (pss_one (ps_ret (pv 2)))), ?_⟩
  refine ⟨fits (by show 0 ≤ 100000; decide), fun b hb => ?_⟩
  refine ⟨fun m σ H' => ∃ i, i ≤ rows.length ∧ m = rows.length - i ∧ ∃ ys, σ = [some (.ref p), some (.int ((k + i : Nat) : Int)), some (.ref b)] ∧ Same H (hide [b] H') ∧ H' b = some (.lst ys) ∧ Rs K (fresh H (hide [b] H')) ys (rows.take i),
    ⟨_, 0, Nat.zero_le _, rfl, [], rfl, hide_one (same_new hb _) hb, upd_same, .nil⟩, ?_⟩
  rintro m σ H1 ⟨i, hi, rfl, ys, rfl, s1, hb1, hR⟩
  have sH : Same H H1 := s1.trans (hide_same _ _)
  have lenY : ys.length = i := by rw [hR.length, List.length_take]; omega
  refine ⟨_, rfl, _, rfl, p, xs, rfl, .inl (Same.seq sH hS), _, _, rfl, rfl, _, rfl, ?_⟩
  by_cases hlt : i < rows.length
  · -- a row
    have e1 : Ls[k + i]? = some (hd "row" rows[i]) := by
      rw [← drop_at hd0, List.getElem?_append_left (by rw [List.length_map]; exact hlt), List.getElem?_map, List.getElem?_eq_getElem hlt]
      rfl
    obtain ⟨c, ec, hc⟩ := hL.get e1
    have hk : k + i < xs.length := by rw [lenX]; exact (List.getElem?_eq_some_iff.mp e1).1
    obtain ⟨lg, nn⟩ := hrow _ (List.getElem_mem hlt)
    refine iteP (decide_eq_true (by omega)) ?_
    refine ⟨_, rfl, _, rfl, p, xs, _, _, rfl, rfl, Same.seq sH hS, atI_nat ec, c, "row", rows[i], true, rfl, Same.seq sH hc, lg, .inl ⟨rfl, rfl, nn⟩, fun H2 s2 => ⟨_, rfl, iteT ?_⟩⟩
    have sH2 := sH.trans s2
    refine ⟨fun σ' H' => ∃ ys, σ' = [some (.ref p), some (.int ((k + (i + 1) : Nat) : Int)), some (.ref b)] ∧ Same H (hide [b] H') ∧ H' b = some (.lst ys) ∧ Rs K (fresh H (hide [b] H')) ys (rows.take (i + 1)),
      fun σ' H' ⟨ys', q⟩ => ⟨rows.length - (i + 1), by omega, i + 1, hlt, rfl, ys', q⟩, ?_⟩
    refine ⟨_, rfl, .inl ⟨rfl, _, SqL.of (s2 _ _ hb1)⟩, _, rfl, _, rfl, p, xs, _, _, rfl, rfl, Same.seq sH2 hS, atI_nat ec, c, "row", rows[i], rfl, Same.seq sH2 hc, lg.len, lg.n80, fun q H3 s3 hqn hq => ?_⟩
    refine ⟨b, ys, _, rfl, rfl, s3 _ _ (s2 _ _ hb1), fitsL (by omega), ?_⟩
    have nbq : q ≠ b := ne_of hq (s3 _ _ (s2 _ _ hb1)) (fun z => nomatch z)
    have st : Same (hide [b] H1) (hide [b] (upd H3 b (.lst (ys ++ [.ref q])))) := (hide_step (s2.trans s3)).trans (hide_upd List.mem_cons_self)
    refine ⟨_, rfl, _, _, rfl, rfl, ys ++ [.ref q], ?_, s1.trans st, upd_same, ?_⟩
    · show [some (V.ref p), some (V.int (((k + i : Nat) : Int) + 1)), some (V.ref b)] = _
      have e : ((k + i : Nat) : Int) + 1 = ((k + (i + 1) : Nat) : Int) := by omega
      rw [e]
    · rw [take_more (List.getElem?_eq_getElem hlt)]
      refine snoc (hR.same (fresh_step st)) ⟨q, rfl, SqT.of ?_⟩
      refine fresh_in.mpr ⟨sH2.free hqn, hide_in.mpr ⟨fun z => nbq (List.mem_singleton.mp z), ?_⟩⟩
      rw [upd_ne nbq]
      exact hq
  · have ei : i = rows.length := by omega
    subst ei
    rw [List.take_length] at hR
    by_cases hk : k + rows.length < xs.length
    · refine iteP (decide_eq_true (by omega)) ?_
      have hlen : k + rows.length < Ls.length := by rw [← lenX]; exact hk
      have e1 : rest[0]? = some (Ls[k + rows.length]'hlen) := by
        have := drop_at (i := rows.length) hd0
        rw [List.getElem?_append_right (by rw [List.length_map]; exact Nat.le_refl _), List.length_map, Nat.sub_self, List.getElem?_eq_getElem hlen] at this
        exact this
      obtain ⟨w', ns, ew, lg, nw⟩ := hrest _ e1
      obtain ⟨c, ec, hc⟩ := hL.get (List.getElem?_eq_getElem hlen)
      rw [ew] at hc
      refine ⟨_, rfl, _, rfl, p, xs, _, _, rfl, rfl, Same.seq sH hS, atI_nat ec, c, w', ns, false, rfl, Same.seq sH hc, lg, .inr ⟨rfl, nw⟩, fun H2 s2 => ⟨_, rfl, iteF ?_⟩⟩
      exact ⟨_, rfl, kont b ys H2 (sH.trans s2) hb (s2 _ _ hb1) (hR.same (fresh_step ((hide_same _ _).trans s2)))⟩
    · refine iteQ (decide_eq_false (by omega)) (iteF ?_)
      exact ⟨_, rfl, kont b ys H1 sH hb hb1 (hR.same (fresh_step (hide_same _ _)))⟩
end

/-! ### the frames that wait -/
def Fin : List (Option Tr) → List Tr → Tr → Prop
  | [], ts, T => ts = [T]
  | none :: fs, s :: t :: r, T => Fin fs (.prod s t :: r) T
  | some s :: fs, t :: r, T => Fin fs (.prod s t :: r) T
  | _, _, _ => False
def Frs (K : PySem.W.Frag) (Hh H : Hp) : List Addr → List (Option Tr) → Prop
  | [], [] => True
  | f :: ad, none :: fs => H f = some (.lst []) ∧ Frs K Hh H ad fs
  | f :: ad, some s :: fs => (∃ v, H f = some (.lst [v]) ∧ TreeAt K Hh s v) ∧ Frs K Hh H ad fs
  | _, _ => False
theorem Frs.len {K : PySem.W.Frag} {Hh H : Hp} : ∀ {ad : List Addr} {fs : List (Option Tr)}, Frs K Hh H ad fs → ad.length = fs.length
  | [], [], _ => rfl
  | f :: ad, none :: fs, h => congrArg (· + 1) (Frs.len h.2)
  | f :: ad, some s :: fs, h => congrArg (· + 1) (Frs.len h.2)
  | [], none :: _, h => h.elim
  | [], some _ :: _, h => h.elim
  | _ :: _, [], h => h.elim
theorem Frs.same {K : PySem.W.Frag} {Hh Hh' H H' : Hp} (e : Same Hh Hh') : ∀ {ad : List Addr} {fs : List (Option Tr)}, (∀ f ∈ ad, ∀ o, H f = some o → H' f = some o) → Frs K Hh H ad fs → Frs K Hh' H' ad fs
  | [], [], _, _ => trivial
  | f :: ad, none :: fs, q, h => ⟨q f List.mem_cons_self _ h.1, Frs.same e (fun g hg => q g (List.mem_cons_of_mem _ hg)) h.2⟩
  | f :: ad, some s :: fs, q, h => by
    obtain ⟨⟨v, h1, h2⟩, h3⟩ := h
    exact ⟨⟨v, q f List.mem_cons_self _ h1, TreeAt.same e h2⟩, Frs.same e (fun g hg => q g (List.mem_cons_of_mem _ hg)) h3⟩
  | [], none :: _, _, h => h.elim
  | [], some _ :: _, _, h => h.elim
  | _ :: _, [], _, h => h.elim
/-- waiting at W: its frames, and what holds apart from them -/
def Wt (K : PySem.W.Frag) (W : Addr) (H : Hp) (fs : List (Option Tr)) (P : Hp → Prop) : Prop := ∃ ad : List Addr, (W :: ad).Nodup ∧ H W = some (.lst (ad.reverse.map V.ref)) ∧ Frs K (hide (W :: ad) H) H ad fs ∧ P (hide (W :: ad) H)
theorem Frs.has {K : PySem.W.Frag} {Hh H : Hp} : ∀ {ad : List Addr} {fs : List (Option Tr)}, Frs K Hh H ad fs → ∀ g ∈ ad, ∃ o, H g = some o
  | [], _, _, g, hg => nomatch hg
  | f :: ad, none :: fs, h, g, hg => by
    rcases List.mem_cons.mp hg with e | hg
    · rw [e]; exact ⟨_, h.1⟩
    · exact Frs.has h.2 g hg
  | f :: ad, some s :: fs, h, g, hg => by
    rcases List.mem_cons.mp hg with e | hg
    · rw [e]; obtain ⟨v, e, _⟩ := h.1; exact ⟨_, e⟩
    · exact Frs.has h.2 g hg
  | _ :: _, [], h, _, _ => h.elim
/-- a step that keeps all that there was -/
theorem Wt.grow {K : PySem.W.Frag} {W : Addr} {H H' : Hp} {fs : List (Option Tr)} {P P' : Hp → Prop} (e : Same H H') (hP : ∀ S, (∀ a ∈ S, ∃ o, H a = some o) → Same (hide S H) (hide S H') → P (hide S H) → P' (hide S H')) (h : Wt K W H fs P) : Wt K W H' fs P' := by
  obtain ⟨ad, nd, hW, hF, p⟩ := h
  refine ⟨ad, nd, e _ _ hW, Frs.same (hide_step e) (fun f _ o z => e _ _ z) hF, hP _ (fun a ha => ?_) (hide_step e) p⟩
  rcases List.mem_cons.mp ha with z | z
  · rw [z]; exact ⟨_, hW⟩
  · exact hF.has a z
theorem Wt.at {K : PySem.W.Frag} {W : Addr} {H : Hp} {fs : List (Option Tr)} {P : Hp → Prop} (h : Wt K W H fs P) : ∃ xs, H W = some (.lst xs) ∧ xs.length = fs.length := by
  obtain ⟨ad, nd, hW, hF, p⟩ := h
  exact ⟨_, hW, by rw [List.length_map, List.length_reverse, hF.len]⟩
theorem Wt.stay {K : PySem.W.Frag} {W : Addr} {H H1 : Hp} {fs : List (Option Tr)} (h : Wt K W H fs (fun h => Same H1 h)) : Same H1 H := by
  obtain ⟨ad, nd, hW, hF, p⟩ := h
  exact p.trans (hide_same _ _)
/-- a new frame -/
theorem Wt.push {K : PySem.W.Frag} {W f : Addr} {H : Hp} {xs : List V} {fs : List (Option Tr)} {H1 : Hp} (hf : H f = none) (hx : H W = some (.lst xs)) (h : Wt K W H fs (fun h => Same H1 h)) :
    Wt K W (upd (upd H f (.lst [])) W (.lst (xs ++ [.ref f]))) (none :: fs) (fun h => Same H1 h) := by
  obtain ⟨ad, nd, hW, hF, p⟩ := h
  have nW : W ≠ f := ne_of_none hW hf
  have nf : f ∉ ad := fun z => by
    obtain ⟨o, e⟩ := hF.has f z
    rw [hf] at e
    cases e
  have nWad := (List.nodup_cons.mp nd).1
  have exs : xs = ad.reverse.map V.ref := by
    rw [hx] at hW
    injection hW with e
    injection e
  have keep : ∀ b o, b ≠ W → H b = some o → (upd (upd H f (.lst [])) W (.lst (xs ++ [.ref f]))) b = some o := fun b o n e => by rw [upd_ne n, upd_ne (ne_of_none e hf)]; exact e
  have st : Same (hide (W :: ad) H) (hide (W :: f :: ad) (upd (upd H f (.lst [])) W (.lst (xs ++ [.ref f])))) := fun b o e => by
    obtain ⟨n, e⟩ := hide_in.mp e
    refine hide_in.mpr ⟨fun z => ?_, keep b o (fun z => n (by rw [z]; exact List.mem_cons_self)) e⟩
    rcases List.mem_cons.mp z with z | z
    · exact n (by rw [z]; exact List.mem_cons_self)
    · rcases List.mem_cons.mp z with z | z
      · exact ne_of_none e hf z
      · exact n (List.mem_cons_of_mem _ z)
  refine ⟨f :: ad, List.nodup_cons.mpr ⟨fun z => ?_, List.nodup_cons.mpr ⟨nf, (List.nodup_cons.mp nd).2⟩⟩, ?_, ⟨by rw [upd_ne (Ne.symm nW)]; exact upd_same, Frs.same st (fun g hg o e => keep g o (fun z => nWad (by rw [← z]; exact hg)) e) hF⟩, p.trans st⟩
  · rcases List.mem_cons.mp z with z | z
    · exact nW z
    · exact nWad z
  · rw [upd_same, exs, List.reverse_cons, List.map_append]
    rfl
theorem Fin.ht : ∀ {fs : List (Option Tr)} {t : Tr} {rest : List Tr} {T : Tr}, Fin fs (t :: rest) T → fs.length + t.ht ≤ T.ht
  | [], t, rest, T, h => by
    have h' : t :: rest = [T] := h
    injection h' with e _
    rw [e]
    simp
  | none :: fs, t, u :: r, T, h => by
    have a := Fin.ht (fs := fs) (t := .prod t u) (rest := r) h
    have b : t.ht + 1 ≤ (Tr.prod t u).ht := by
      show t.ht + 1 ≤ (if t.ht ≤ u.ht then u.ht else t.ht) + 1
      split <;> omega
    rw [List.length_cons]
    omega
  | some s :: fs, t, r, T, h => by
    have a := Fin.ht (fs := fs) (t := .prod s t) (rest := r) h
    have b : t.ht + 1 ≤ (Tr.prod s t).ht := by
      show t.ht + 1 ≤ (if s.ht ≤ t.ht then t.ht else s.ht) + 1
      split <;> omega
    rw [List.length_cons]
    omega
  | none :: _, _, [], _, h => h.elim
theorem TreeAt.ref {K : PySem.W.Frag} {H : Hp} : ∀ {T : Tr} {v : V}, TreeAt K H T v → ∃ a, v = .ref a
  | .words _ _, _, ⟨a, h, _⟩ => ⟨a, h⟩
  | .sets _ _, _, ⟨a, h, _⟩ => ⟨a, h⟩
  | .listed _, _, ⟨a, _, _, h, _⟩ => ⟨a, h⟩
  | .prod _ _, _, ⟨a, _, _, h, _⟩ => ⟨a, h⟩
def spJoined (K : PySem.W.Frag) : Sp := fun vs H Q _ => ∃ (W : Addr) (v : V) (fs : List (Option Tr)) (p T : Tr) (rest : List Tr) (H0 : Hp), vs = [.ref W, v] ∧ Wt K W H fs (fun h => Same H0 h ∧ TreeAt K h p v) ∧ Fin fs (p :: rest) T ∧
  (∀ H' fs', rest ≠ [] → Fin fs' rest T → Wt K W H' fs' (fun h => Same H0 h) → Q .non H') ∧ (∀ H' x, rest = [] → Same H0 H' → TreeAt K H' T x → Q x H')
section
variable {P : Program} {w : World} {K : PySem.W.Frag} {mg : Str → Option Value} {base : Heap}
theorem ok_joined (T : Txt w K mg) : FnOk P w K mg base CX0 1 T.a_joined T.d_joined p_joined (spJoined K) := by
  refine T.F_joined.ok sc_joined (fun vs H Q E h => ?_) (fun cdv A outer s H vs Q E hr h => ?_)
  · obtain ⟨_, _, _, _, _, _, _, rfl, _⟩ := h
    rfl
  obtain ⟨W, v, fs, p, t, rest, H0, rfl, hW, hF, kN, kD⟩ := h
  have nd := sc_joined.nd
  refine ⟨_, pss_cons (ps_while PassesOwn.never (pt_truth (pv 0) (fun _ => rfl))
      (pss_cons (ps_expr (pe_bm PySem.F.plainAttrs_list PySem.F.slot_list_append PySem.F.type_list_append mt_append (pe_ix ix_list (pv 0) (pe_un un_neg pe_int) (fun _ _ => rfl)) (pa_cons (pv 1) pa_nil)))
      (pss_cons (ps_if (pt_cmpR op_lt (pe_callB call_len_seq (by rfl) T.z_len PySem.boot_len (pa_cons (pe_ix ix_list (pv 0) (pe_un un_neg pe_int) (fun _ _ => rfl)) pa_nil)) (kint rfl T.c_ARMS) (nomark _)) (pss_one (ps_ret pe_non)) pss_nil)
      (pss_one (ps_set (i := 1) nd rfl (.inl rfl) (pe_tup (pa_cons pe_str (pa_star (pe_bm0 PySem.F.plainAttrs_list PySem.F.slot_list_pop PySem.F.type_list_pop mt_pop (pv 0)) pa_nil))))))))
    (pss_one (ps_ret (pv 1))), ?_⟩
  refine ⟨fun m σ H' => ∃ fs v p, m = fs.length ∧ σ = [some (.ref W), some v] ∧ Wt K W H' fs (fun h => Same H0 h ∧ TreeAt K h p v) ∧ Fin fs (p :: rest) t, ⟨_, fs, v, p, rfl, rfl, hW, hF⟩, ?_⟩
  rintro m σ H1 ⟨fs, v, p, rfl, rfl, ⟨ad, nda, hW1, hFr, s0, hT⟩, hF⟩
  refine ⟨_, rfl, _, .inl ⟨_, SqL.of hW1, rfl⟩, ?_⟩
  cases fs with
  | nil =>
    have e : ad = [] := List.eq_nil_of_length_eq_zero (by rw [hFr.len]; rfl)
    subst e
    have hF' : p :: rest = [t] := hF
    injection hF' with e1 e2
    subst e1 e2
    exact iteF ⟨_, rfl, kD H1 v rfl (s0.trans (hide_same _ _)) (hT.same (hide_same _ _))⟩
  | cons o fs =>
    cases ad with
    | nil => exact absurd hFr.len (by simp)
    | cons f ad =>
      have nWf : f ≠ W := fun z => (List.nodup_cons.mp nda).1 (by rw [z]; exact List.mem_cons_self)
      have nd2 := List.nodup_cons.mp (List.nodup_cons.mp nda).2
      have nW2 : W ∉ ad := fun z => (List.nodup_cons.mp nda).1 (List.mem_cons_of_mem _ z)
      have eW : (f :: ad).reverse.map V.ref = ad.reverse.map V.ref ++ [V.ref f] := by rw [List.reverse_cons, List.map_append]; rfl
      rw [eW] at hW1 ⊢
      have hne : (!(ad.reverse.map V.ref ++ [V.ref f]).isEmpty) = true := by simp
      refine iteP hne ?_
      refine ⟨fun σ' H' => ∃ v p, σ' = [some (.ref W), some v] ∧ Wt K W H' fs (fun h => Same H0 h ∧ TreeAt K h p v) ∧ Fin fs (p :: rest) t,
        fun σ' H' ⟨v', p', q1, q2, q3⟩ => ⟨fs.length, Nat.lt_succ_self _, fs, v', p', rfl, q1, q2, q3⟩, ?_⟩
      have frame : ∃ zs, H1 f = some (.lst zs) ∧ zs.length ≤ 1 ∧ ((o = none ∧ zs = []) ∨ ∃ s v, o = some s ∧ zs = [v] ∧ TreeAt K (hide (W :: f :: ad) H1) s v) := by
        cases o with
        | none => exact ⟨[], hFr.1, by decide, .inl ⟨rfl, rfl⟩⟩
        | some s =>
          obtain ⟨v1, h1, h2⟩ := hFr.1
          exact ⟨[v1], h1, Nat.le_refl _, .inr ⟨s, v1, rfl, rfl, h2⟩⟩
      have tailF : Frs K (hide (W :: f :: ad) H1) H1 ad fs := by
        cases o with
        | none => exact hFr.2
        | some s => exact hFr.2
      obtain ⟨zs, hf, hz, hcase⟩ := frame
      refine ⟨_, rfl, _, rfl, _, _, _, _, rfl, rfl, SqL.of hW1, atI_last _ _, .inl ⟨rfl, _, SqL.of hf⟩, _, rfl, f, zs, _, rfl, rfl, hf, fitsL (by omega), ?_⟩
      have hW2 : (upd H1 f (.lst (zs ++ [v]))) W = some (.lst (ad.reverse.map V.ref ++ [V.ref f])) := by rw [upd_ne (Ne.symm nWf)]; exact hW1
      have st1 : Same (hide (W :: f :: ad) H1) (hide (W :: f :: ad) (upd H1 f (.lst (zs ++ [v])))) := hide_upd (List.mem_cons_of_mem _ List.mem_cons_self)
      refine ⟨_, rfl, _, rfl, _, _, _, _, rfl, rfl, SqL.of hW2, atI_last _ _, f, _, rfl, .inl (SqL.of upd_same), _, _, rfl, rfl, _, rfl, ?_⟩
      rcases hcase with ⟨eo, ez⟩ | ⟨s, v1, eo, ez, hs⟩
      · subst eo ez
        refine iteP (decide_eq_true (by show (1 : Int) < 2; decide)) ?_
        cases rest with
        | nil => exact hF.elim
        | cons u rest =>
          refine kN _ (some p :: fs) (by simp) hF ⟨f :: ad, nda, ?_, ⟨⟨v, upd_same, hT.same st1⟩, Frs.same st1 (fun g hg o e => ?_) tailF⟩, s0.trans st1⟩
          · rw [eW]; exact hW2
          · rw [upd_ne (fun z => nd2.1 (by rw [← z]; exact hg))]; exact e
      · subst eo ez
        refine iteQ (decide_eq_false (by show ¬ (2 : Int) < 2; decide)) ?_
        refine ⟨_, rfl, .inl ⟨rfl, _, SqL.of hW2⟩, W, _, _, rfl, rfl, hW2, by simp, f, _, rfl, .inl (SqL.of (by rw [upd_ne nWf]; exact upd_same)), fits (by show 3 ≤ 100000; decide), fun q hq => ?_⟩
        have hq1 : (upd H1 f (.lst ([v1] ++ [v]))) q = none := by
          by_cases z : q = W
          · subst z; rw [upd_same] at hq; cases hq
          · rw [upd_ne z] at hq; exact hq
        have nqf : q ≠ f := fun z => by subst z; rw [upd_same] at hq1; cases hq1
        have nqW : q ≠ W := fun z => by subst z; rw [upd_same] at hq; cases hq
        have hq0 : H1 q = none := by rw [upd_ne nqf] at hq1; exact hq1
        have keep : ∀ b o, b ≠ W → b ≠ f → H1 b = some o → (upd (upd (upd H1 f (.lst ([v1] ++ [v]))) W (.lst ((ad.reverse.map V.ref ++ [V.ref f]).dropLast))) q (.tup (V.str "product" :: ([v1] ++ [v] ++ [])))) b = some o := fun b o n1 n2 e => by
          rw [upd_ne (ne_of_none e hq0), upd_ne n1, upd_ne n2]; exact e
        have st2 : Same (hide (W :: f :: ad) H1) (hide (W :: ad) (upd (upd (upd H1 f (.lst ([v1] ++ [v]))) W (.lst ((ad.reverse.map V.ref ++ [V.ref f]).dropLast))) q (.tup (V.str "product" :: ([v1] ++ [v] ++ []))))) := fun b o e => by
          obtain ⟨n, e⟩ := hide_in.mp e
          refine hide_in.mpr ⟨fun z => n ?_, keep b o (fun z => n (by rw [z]; exact List.mem_cons_self)) (fun z => n (by rw [z]; exact List.mem_cons_of_mem _ List.mem_cons_self)) e⟩
          rcases List.mem_cons.mp z with z | z
          · rw [z]; exact List.mem_cons_self
          · exact List.mem_cons_of_mem _ (List.mem_cons_of_mem _ z)
        have nqad : q ∉ ad := fun z => by
          have : ∀ {ad fs}, Frs K (hide (W :: f :: ad) H1) H1 ad fs → True := fun _ => trivial
          have all : ∀ (Hh : Hp) (ad : List Addr) (fs : List (Option Tr)), Frs K Hh H1 ad fs → ∀ g ∈ ad, ∃ o, H1 g = some o := by
            intro Hh ad
            induction ad with
            | nil => intro fs _ g hg; exact nomatch hg
            | cons g0 ad ih =>
              intro fs h g hg
              cases fs with
              | nil => exact h.elim
              | cons o fs =>
                cases o with
                | none =>
                  rcases List.mem_cons.mp hg with e | hg
                  · rw [e]; exact ⟨_, h.1⟩
                  · exact ih fs h.2 g hg
                | some s =>
                  rcases List.mem_cons.mp hg with e | hg
                  · rw [e]; obtain ⟨v, e, _⟩ := h.1; exact ⟨_, e⟩
                  · exact ih fs h.2 g hg
          obtain ⟨o, e⟩ := all _ ad fs tailF q z
          rw [hq0] at e
          cases e
        refine ⟨.ref q, .prod s p, rfl, ⟨ad, List.nodup_cons.mpr ⟨nW2, nd2.2⟩, ?_, Frs.same st2 (fun g hg o e => keep g o (fun z => nW2 (by rw [← z]; exact hg)) (fun z => nd2.1 (by rw [← z]; exact hg)) e) tailF, s0.trans st2, ⟨q, v1, v, rfl, SqT.of ?_, hs.same st2, hT.same st2⟩⟩, hF⟩
        · rw [upd_ne (Ne.symm nqW), upd_same, List.dropLast_concat]
        · refine hide_in.mpr ⟨fun z => ?_, upd_same⟩
          rcases List.mem_cons.mp z with z | z
          · exact nqW z
          · exact nqad z
end
end K5
set_option Elab.async false
set_option linter.all false
set_option maxRecDepth 100000
set_option maxHeartbeats 32000000
/-! parse_scheme. -/
namespace K5
open PySem PySem.Spec PyProof.Rows L2
def lwAll (ts : List Tr) : List (List Str) := ts.flatMap Tr.lw
def Tr.hw : Tr → Str
  | .words _ _ => "words"
  | .sets _ _ => "sets"
  | .listed _ => "listed"
  | .prod _ _ => "product"
def Tr.hn : Tr → List Int
  | .words n k => [n, k]
  | .sets n k => [n, k]
  | .listed rows => [(rows.length : Int)]
  | .prod _ _ => []
def Tr.more : Tr → List (List Str)
  | .listed rows => rows.map (hd "row")
  | .prod s t => s.lw ++ t.lw
  | _ => []
theorem Tr.lw_eq (T : Tr) : T.lw = hd T.hw T.hn :: T.more := by cases T <;> rfl
theorem Tr.Ok.head {u : Tr} (uok : u.Ok) : Hd u.hw u.hn.length ∧ (∀ n ∈ u.hn, N80 n) ∧ u.hn.length ≤ 2 := by
  cases u with
  | words n q =>
    obtain ⟨h1, h2, h3, h4⟩ := uok
    exact ⟨.inl ⟨rfl, rfl⟩, (fun x hx => by simp [Tr.hn] at hx; rcases hx with e | e <;> subst e <;> (unfold N80; omega)), Nat.le_refl _⟩
  | sets n q =>
    obtain ⟨h1, h2, h3, h4⟩ := uok
    exact ⟨.inr (.inl ⟨rfl, rfl⟩), (fun x hx => by simp [Tr.hn] at hx; rcases hx with e | e <;> subst e <;> (unfold N80; omega)), Nat.le_refl _⟩
  | listed rows =>
    obtain ⟨a1, a2, a3⟩ := Lsd.row uok
    exact ⟨.inr (.inr (.inl ⟨rfl, rfl⟩)), (fun x hx => by rw [List.mem_singleton.mp hx]; unfold N80; omega), by show 1 ≤ 2; decide⟩
  | prod s1 s2 => exact ⟨.inr (.inr (.inr ⟨rfl, rfl⟩)), (fun x hx => nomatch hx), Nat.zero_le _⟩
theorem Tr.Ok.lg {u : Tr} (uok : u.Ok) : Lg u.hw u.hn ∧ u.hw ≠ "row" := by
  obtain ⟨a, b, c⟩ := uok.head
  refine ⟨⟨?_, by omega, b⟩, ?_⟩
  · cases u <;> unfold WD Tr.hw <;> simp
  · have f1 : ("words" : Str) ≠ "row" := by decide +kernel
    have f2 : ("sets" : Str) ≠ "row" := by decide +kernel
    have f3 : ("listed" : Str) ≠ "row" := by decide +kernel
    have f4 : ("product" : Str) ≠ "row" := by decide +kernel
    cases u
    · exact f1
    · exact f2
    · exact f3
    · exact f4
theorem lw_split {L A : List (List Str)} {a : List Str} {k : Nat} (h : L.drop k = a :: A) : L[k]? = some a ∧ L.drop (k + 1) = A := by
  constructor
  · have := List.getElem?_drop (xs := L) (i := k) (j := 0)
    rw [h] at this
    simpa using this.symm
  · rw [← List.drop_drop, h]; rfl
theorem eqv_scheme : PyData.eqv (.list [.str "scheme"]) (.list [.str "scheme"]) = true := by simp [PyData.eqv, PyData.eqvAll]
theorem shaped_scheme : SeqAt.shaped (.list [.str "scheme"]) = true := by decide +kernel
def rSplitN : V → List V → Hp → VK → Prop := fun x xs H Q => ∃ a b, x = .str a ∧ xs = [.str b] ∧ (b.length == 0) = false ∧ a.length + 2 ≤ sizeLine ∧ rNewStrs (Txt.split a b) H Q
/-- the text of a tree that is a scheme: the tree -/
def spParse (K : PySem.W.Frag) : Sp := fun vs H Q _ => ∃ T : Tr, vs = [.str T.text] ∧ T.Ok ∧ ∀ x H', Same H H' → TreeT K H' T x → Q x H'
theorem fin_one : ∀ {fs : List (Option Tr)} {T : Tr}, ¬ Fin fs [] T
  | [], _, h => by cases h
  | none :: _, _, h => h
  | some _ :: _, _, h => h
theorem pe_splitN {X : Cx} {o e : Expr} {to te : TE} {apos pos : Pos} (ho : PE X o to) (he : PE X e te) (hs : starEach [e] X.env = [(false, eval e X.env)] := by rfl) (hbase : attributeBase o "split" X.env (eval o X.env) = eval o X.env := by rfl) (hline : (apos.endLine == pos.line) = true := by rfl) :
    PE X (.Call (.Attribute o "split" apos) [e] [] pos) (tM1 rSplitN to te) := pe_split ho he hs hbase hline
/-- the loop's state: the lines in Lp, waiting in W -/
def PSt (K : PySem.W.Frag) (tx : V) (Lp W : Addr) (Ls : List (List Str)) (H1 : Hp) (T : Tr) (m : Nat) (σ : L2.St) (H : Hp) : Prop :=
  (∃ (k : Nat) (fs : List (Option Tr)) (t : Tr) (rest : List Tr) (v6 v7 v8 v9 v10 : Option V), σ = [some tx, some (.ref Lp), some (.int (k : Int)), some .non, some (.ref W), some (.bl true), v6, v7, v8, v9, v10] ∧ k ≤ Ls.length ∧ m = Ls.length - k + 1 ∧
    Ls.drop k = lwAll (t :: rest) ∧ (∀ u ∈ t :: rest, u.Ok) ∧ Fin fs (t :: rest) T ∧ Wt K W H fs (fun h => Same H1 h)) ∨
  (∃ (x : V) (v6 v7 v8 v9 v10 : Option V), σ = [some tx, some (.ref Lp), some (.int (Ls.length : Int)), some x, some (.ref W), some (.bl true), v6, v7, v8, v9, v10] ∧ m = 0 ∧ Same H1 H ∧ TreeAt K H T x)
section
variable {P : Program} {w : World} {K : PySem.W.Frag} {mg : Str → Option Value} {base : Heap}
theorem ok_parse_scheme (T : Txt w K mg) : FnOk P w K mg base (L2.CX P w) 13 T.a_parse_scheme T.d_parse_scheme p_parse_scheme (spParse K) := by
  have FC := ok_checked (P := P) (base := base) T
  have FH := ok_is_head (P := P) (base := base) T
  have FN := ok_numbers_of (P := P) (base := base) T
  have FR := ok_rows_from (P := P) (base := base) T
  have FJ := ok_joined (P := P) (base := base) T
  refine T.F_parse_scheme.okX sc_parse_scheme (fun vs H Q E h => ?_) (fun cdv A outer s H vs Q E hr h => ?_)
  · obtain ⟨_, rfl, _⟩ := h
    rfl
  obtain ⟨t, rfl, ok, kont⟩ := h
  have nd := sc_parse_scheme.nd
  refine ⟨_, pss_cons (ps_setLc (i := 1) (own := [("line", 10)]) (g := gName 10) (tt := tYes) (te := tM1 rSplitN (tVar 10) (tC (.str " "))) rfl nd rfl rfl rfl (pi_list (pe_split (pv 0) pe_str)) (blkOk_by (N := n_parse_scheme) (sc := defScope s_parse_scheme) (by decide +kernel)) (fun _ _ _ _ _ => pg_name (i := 10) nd rfl (Or.inl rfl)) (fun _ _ _ _ _ => pts_nil)
          (fun _ _ _ _ _ => pe_splitN (pv 10) pe_str))
    (pss_cons (ps_if (pt_cmpR (op_neD hr.units) (pe_ix ix_list (pv 1) pe_int (fun _ _ => rfl)) (pe_lst (pa_cons pe_str pa_nil)) (nomark _)) (pss_one ps_never) pss_nil)
    (pss_cons (ps_set (i := 2) nd rfl (.inl rfl) pe_int)
    (pss_cons (ps_set (i := 3) nd rfl (.inl rfl) pe_non)
    (pss_cons (ps_set (i := 4) nd rfl (.inl rfl) (pe_lst pa_nil))
    (pss_cons (ps_set (i := 5) nd rfl (.inl rfl) pe_bl)
    (pss_cons (ps_while (passes_of rfl) (pt_cmpR op_isN (pv 3) pe_non (nomark _))
      (pss_cons (ps_if (PW.pt (pw_or (pt_cmpR op_eq (pv 2) (pe_callB call_len_seq (by rfl) T.z_len PySem.boot_len (pa_cons (pv 1) pa_nil)) (nomark _))
          (pw_or1 (pt_not (pt_val (pe_call FH (hr.mono (by decide)) rfl T.m_is_head T.k_is_head T.b_is_head .nil pass0 (pa_cons (pe_ix ix_list (pv 1) (pv 2) (fun _ _ => rfl)) pa_nil)))))))
        (pss_one ps_never) pss_nil)
      (pss_cons (ps_set (i := 6) nd rfl (.inl rfl) (pe_ix ix_list (pe_ix ix_list (pv 1) (pv 2) (fun _ _ => rfl)) pe_int (fun _ _ => rfl)))
      (pss_cons (ps_set (i := 7) nd rfl (.inl rfl) (pe_call FN (hr.mono (by decide)) rfl T.m_numbers_of T.k_numbers_of T.b_numbers_of .nil pass0 (pa_cons (pe_ix ix_list (pv 1) (pv 2) (fun _ _ => rfl)) pa_nil)))
      (pss_cons (ps_aug (i := 2) nd rfl (.inl rfl) pe_int iop_add)
      (pss_cons (ps_if (pt_cmpR op_eq (pv 6) pe_str (nomark _))
        (pss_cons (ps_expr (pe_bm PySem.F.plainAttrs_list PySem.F.slot_list_append PySem.F.type_list_append mt_append (pv 4) (pa_cons (pe_lst pa_nil) pa_nil))) (pss_one ps_continue)) pss_nil)
      (pss_cons (ps_set (i := 8) nd rfl (.inl rfl) (pe_tup (pa_cons (pv 6) (pa_star (pv 7) pa_nil))))
      (pss_cons (ps_if (pt_cmpR op_eq (pv 6) pe_str (nomark _))
        (pss_cons (ps_set (i := 9) nd rfl (.inl rfl) (pe_call FR (hr.mono (by decide)) rfl T.m_rows_from T.k_rows_from T.b_rows_from .nil pass0 (pa_cons (pv 1) (pa_cons (pv 2) pa_nil))))
        (pss_cons (ps_aug (i := 2) nd rfl (.inl rfl) (pe_callB call_len_seq (by rfl) T.z_len PySem.boot_len (pa_cons (pv 9) pa_nil)) iop_add)
        (pss_cons (ps_set (i := 5) nd rfl (.inl rfl) (pe_and (pv 5) (pe_one (pe_cmpR op_eq (pe_callB call_len_seq (by rfl) T.z_len PySem.boot_len (pa_cons (pv 9) pa_nil)) (pe_ix ix_tup (pv 7) pe_int (fun _ _ => rfl)) (nomark _)))))
        (pss_one (ps_set (i := 8) nd rfl (.inl rfl) (pe_tup (pa_cons (pv 6) (pa_cons (pv 9) pa_nil)))))))) pss_nil)
      (pss_one (ps_set (i := 3) nd rfl (.inl rfl) (pe_call FJ (hr.mono (by decide)) rfl T.m_joined T.k_joined T.b_joined .nil pass0 (pa_cons (pv 4) (pa_cons (pv 8) pa_nil)))))))))))))
    (pss_cons (ps_if (pt_cmpR op_lt (pv 2) (pe_callB call_len_seq (by rfl) T.z_len PySem.boot_len (pa_cons (pv 1) pa_nil)) (nomark _)) (pss_one ps_never) pss_nil)
    (pss_one (ps_ret (pe_call FC hr rfl T.m_checked T.k_checked T.b_checked .nil (passes_call (takes_of rfl rfl rfl rfl) (fun _ _ _ _ e => e)) (pa_cons
      (pe_ifExp (pt_val (pv 5)) (pv 3) (pe_tup pa_nil)) pa_nil))))))))))), ?_⟩
  -- lines = [line.split(' ') for line in text.split('\n')]
  have tl := ok.text_len
  refine ⟨_, rfl, ⟨_, rfl⟩, _, _, rfl, rfl, rfl, fits (by omega), fun c hc => ?_⟩
  have s0 := same_new hc (.lst ((Txt.split t.text "\n").map V.str))
  have hc0 : (upd H c (.lst ((Txt.split t.text "\n").map V.str))) c = some (.lst (Sts (("scheme" : Str) :: t.lines))) := by rw [upd_same, ok.split_text]
  generalize upd H c (.lst ((Txt.split t.text "\n").map V.str)) = H0 at s0 hc0
  have eLs := ok.split_lines
  have lenS : (("scheme" : Str) :: t.lines).length ≤ 201 := by
    have := ok.lw200
    rw [List.length_cons]
    unfold Tr.lines
    rw [List.length_map]
    omega
  generalize hSL : (("scheme" : Str) :: t.lines) = SL at hc0 eLs lenS
  have slen : ∀ y ∈ SL, y.length ≤ 200 := by
    rw [← hSL]
    exact fun y hy => (ok.all_len y hy).1
  refine ⟨c, rfl, ⟨_, SqL.of hc0⟩, fun D hD => lc_seq (a := c) (xs := Sts SL) (J := Itl K c) (fun i H' => Same H0 (hide [D] H') ∧ ∃ ys, H' D = some (.lst ys) ∧ Lns K (hide [D] H') ys ((SL.map fun l => Txt.split l " ").take i))
    ⟨hide_one (same_new hD _) hD, [], upd_same, .nil⟩ (fun i H' _ ⟨s1, _⟩ => .inl ⟨rfl, Same.seq (s1.trans (hide_same _ _)) (SqL.of hc0)⟩) ⟨H0, .inl ⟨rfl, SqL.of hc0⟩⟩ ?_ ?_⟩
  · rintro i v H1 hi ⟨s1, ys, hD1, hL⟩
    have hil : i < SL.length := by
      have := (List.getElem?_eq_some_iff.mp hi).1
      rwa [List.length_map] at this
    have hv : v = .str SL[i] := by
      rw [List.getElem?_map, List.getElem?_eq_getElem hil] at hi
      exact (Option.some.inj hi).symm
    subst hv
    have hlen := slen _ (List.getElem_mem hil)
    have lenY : ys.length = i := by rw [hL.length, List.length_take, List.length_map]; omega
    refine ⟨rfl, yes (iteT ?_)⟩
    refine ⟨_, rfl, ⟨_, rfl⟩, _, _, rfl, rfl, rfl, fits (by omega), fun p hp => ?_⟩
    have nDp : D ≠ p := ne_of_none hD1 hp
    refine ⟨ys, by rw [upd_ne nDp]; exact hD1, fitsL (by omega), ?_⟩
    have st : Same (hide [D] H1) (hide [D] (upd (upd H1 p (.lst (Sts (Txt.split SL[i] " ")))) D (.lst (ys ++ [.ref p])))) := (hide_step (same_new hp _)).trans (hide_upd List.mem_cons_self)
    refine ⟨s1.trans st, _, upd_same, ?_⟩
    have e : (SL.map fun l => Txt.split l " ")[i]? = some (Txt.split SL[i] " ") := by rw [List.getElem?_map, List.getElem?_eq_getElem hil]; rfl
    rw [take_more e]
    refine snoc (hL.same st) ⟨p, rfl, SqL.of (hide_in.mpr ⟨fun z => nDp (List.mem_singleton.mp z).symm, ?_⟩)⟩
    rw [upd_ne (Ne.symm nDp)]
    exact upd_same
  rintro HD ⟨s1, xs, hDD, hLn⟩
  have eTake : (SL.map fun l => Txt.split l " ").take (Sts SL).length = [("scheme" : Str)] :: t.lw := by
    rw [List.take_of_length_le (by rw [List.length_map, List.length_map]; exact Nat.le_refl _)]
    exact eLs
  rw [eTake] at hLn
  generalize hLs : [("scheme" : Str)] :: t.lw = Ls at hLn
  have hLn := hLn.same (hide_same _ _)
  have sD : Same H HD := s0.trans (s1.trans (hide_same _ _))
  have lenX : xs.length = Ls.length := hLn.length
  have lenL : Ls.length = t.lw.length + 1 := by rw [← hLs]; rfl
  have l200 := ok.lw200
  -- if lines[0] != ['scheme']
  obtain ⟨b0, eb0, hb0⟩ := hLn.get (i := 0) (ws := [("scheme" : Str)]) (by rw [← hLs]; rfl)
  refine ⟨_, rfl, D, xs, _, _, rfl, rfl, SqL.of hDD, atI_nat (j := 0) eb0, fits (by show 1 ≤ 100000; decide), fun z hz => ?_⟩
  have sz := same_new hz (.lst [V.str "scheme"])
  refine ⟨.list [.str "scheme"], .list [.str "scheme"], .lst (Same.seq sz hb0) (.cons (.str _) .nil), .lst (SqL.of upd_same) (.cons (.str _) .nil), shaped_scheme, shaped_scheme, _, rfl, ?_⟩
  rw [eqv_scheme]
  refine iteF ?_
  -- at, tree, waiting, counted
  refine ⟨fits (by show 0 ≤ 100000; decide), fun W hW => ?_⟩
  generalize hH1 : upd HD z (.lst [V.str "scheme"]) = H1 at hW sz
  have hL1 := hLn.same sz
  have hD1 : H1 D = some (.lst xs) := sz _ _ hDD
  have sH1 : Same H H1 := sD.trans sz
  refine ⟨PSt K (.str t.text) D W Ls H1 t, ⟨_, .inl ⟨1, [], t, [], none, none, none, none, none, rfl, by omega, rfl, ?_, fun u hu => ?_, rfl, ⟨[], by simp, upd_same, trivial, hide_one (same_new hW _) hW⟩⟩⟩, ?_⟩
  · rw [← hLs]
    show t.lw = [t].flatMap Tr.lw
    simp
  · rw [List.mem_singleton.mp hu]; exact ok
  rintro m σ H2 (⟨k, fs, u, rest, v6, v7, v8, v9, v10, rfl, hk, rfl, hrem, hok, hF, hWt⟩ | ⟨x, v6, v7, v8, v9, v10, rfl, rfl, s2, hT⟩)
  rotate_left
  · -- the end
    obtain ⟨a, ea⟩ := hT.ref
    subst ea
    refine ⟨_, rfl, rfl, _, rfl, iteQ (decide_eq_false fun z => nomatch z) ?_⟩
    refine ⟨_, rfl, _, rfl, D, xs, rfl, .inl (Same.seq s2 (SqL.of hD1)), _, _, rfl, rfl, _, rfl, iteQ (decide_eq_false (by rw [lenX]; omega)) ?_⟩
    exact ⟨_, rfl, _, rfl, iteP rfl ⟨_, rfl, .ref a, rfl, .inl ⟨t, hT, ok, fun x' H' s' ht => kont x' H' (sH1.trans (s2.trans s')) ht⟩⟩⟩
  refine ⟨_, rfl, rfl, _, rfl, iteP (decide_eq_true rfl) ⟨fun σ' H' => ∃ m', m' < Ls.length - k + 1 ∧ PSt K (.str t.text) D W Ls H1 t m' σ' H', fun _ _ h => h, ?_⟩⟩
  have s2 := hWt.stay
  have uok := hok u List.mem_cons_self
  -- the head's line
  obtain ⟨hHd, h80, hns⟩ := uok.head
  have elw := u.lw_eq
  have hrem1 : Ls.drop k = hd u.hw u.hn :: (u.more ++ lwAll rest) := by
    rw [hrem]
    show (u :: rest).flatMap Tr.lw = _
    rw [List.flatMap_cons, elw]
    rfl
  obtain ⟨ek, hrem2⟩ := lw_split hrem1
  have klt : k < Ls.length := (List.getElem?_eq_some_iff.mp ek).1
  obtain ⟨b, eb, hb⟩ := hL1.get ek
  -- if at == len(lines) or not is_head(lines[at])
  refine ⟨_, rfl, _, rfl, D, xs, rfl, .inl (Same.seq s2 (SqL.of hD1)), rfl, _, rfl, iteQ (decide_eq_false fun z => by have := V.int.inj z; omega) ?_⟩
  refine ⟨_, rfl, _, rfl, D, xs, _, _, rfl, rfl, Same.seq s2 (SqL.of hD1), atI_nat eb, b, u.hw, u.hn, rfl, Same.seq s2 hb, hHd, h80, fun H3 s3 => ⟨_, rfl, iteQ rfl ?_⟩⟩
  have s23 := s2.trans s3
  -- word, numbers
  refine ⟨_, rfl, _, rfl, D, xs, _, _, rfl, rfl, Same.seq s23 (SqL.of hD1), atI_nat eb, b, _, _, _, rfl, rfl, Same.seq s23 hb, at_of (j := 0) rfl rfl, ?_⟩
  refine ⟨_, rfl, _, rfl, D, xs, _, _, rfl, rfl, Same.seq s23 (SqL.of hD1), atI_nat eb, b, u.hw, u.hn, rfl, Same.seq s23 hb, by omega, h80, fun q H4 s4 hqn hq => ?_⟩
  have s24 := s23.trans s4
  -- at += 1; if word == 'product'
  refine ⟨_, rfl, _, _, rfl, rfl, ?_⟩
  refine ⟨_, rfl, rfl, _, rfl, ?_⟩
  have ekk : ((k : Int) + 1) = ((k + 1 : Nat) : Int) := by omega
  have hWt4 : Wt K W H4 fs (fun h => Same H1 h) := hWt.grow (s3.trans s4) fun S _ st p => p.trans st
  have fsl : fs.length ≤ 10 := by
    have h1 := Fin.ht hF
    have h2 := t.ht_parts
    have h3 := ok.parts_le
    omega
  cases u with
  | prod u1 u2 =>
    obtain ⟨o1, o2, _⟩ := uok
    refine iteP (decide_eq_true rfl) ?_
    obtain ⟨ws, hWs, lWs⟩ := hWt4.at
    refine ⟨_, rfl, .inl ⟨rfl, _, SqL.of hWs⟩, fits (by show 0 ≤ 100000; decide), fun f hf => ?_⟩
    refine ⟨W, ws, _, rfl, rfl, by rw [upd_ne (ne_of_none hWs hf)]; exact hWs, fitsL (by omega), ?_⟩
    refine ⟨Ls.length - (k + 1) + 1, by omega, .inl ⟨k + 1, none :: fs, u1, u2 :: rest, some (.str "product"), some (.ref q), v8, v9, v10, by rw [← ekk]; rfl, klt, rfl, ?_, fun x hx => ?_, hF, hWt4.push hf hWs⟩⟩
    · rw [hrem2]
      show u1.lw ++ u2.lw ++ rest.flatMap Tr.lw = (u1 :: u2 :: rest).flatMap Tr.lw
      rw [List.flatMap_cons, List.flatMap_cons, List.append_assoc]
    · rcases List.mem_cons.mp hx with e | hx
      · rw [e]; exact o1
      · rcases List.mem_cons.mp hx with e | hx
        · rw [e]; exact o2
        · exact hok x (List.mem_cons_of_mem _ hx)
  | words n g =>
    refine iteQ s_wp ?_
    refine ⟨_, rfl, _, rfl, q, [.int n, .int g], rfl, .inr (SqT.of hq), fits (by show 3 ≤ 100000; decide), fun r hrn => ?_⟩
    refine ⟨_, rfl, rfl, _, rfl, iteQ s_wl ?_⟩
    refine ⟨_, rfl, _, rfl, W, .ref r, fs, .words n g, t, rest, H1, rfl, hWt4.grow (same_new hrn _) (fun S hS st p => ⟨p.trans st, r, rfl, SqT.of (hide_in.mpr ⟨fun y => ?_, upd_same⟩)⟩), hF, fun H' fs' hne hF' hWt' => ?_, fun H' x hrest s5 hT' => ?_⟩
    · obtain ⟨o, e⟩ := hS r y
      rw [hrn] at e
      cases e
    · cases rest with
      | nil => exact absurd rfl hne
      | cons u' rest' =>
        exact ⟨Ls.length - (k + 1) + 1, by omega, .inl ⟨k + 1, fs', u', rest', some (.str "words"), some (.ref q), some (.ref r), v9, v10, by rw [← ekk]; rfl, klt, rfl, hrem2, fun x hx => hok x (List.mem_cons_of_mem _ hx), hF', hWt'⟩⟩
    · subst hrest
      have kl : k + 1 = Ls.length := by
        have := List.drop_eq_nil_iff.mp hrem2
        omega
      exact ⟨0, by omega, .inr ⟨x, some (.str "words"), some (.ref q), some (.ref r), v9, v10, by rw [← kl, ← ekk]; rfl, rfl, s5, hT'⟩⟩
  | sets n g =>
    refine iteQ s_sp ?_
    refine ⟨_, rfl, _, rfl, q, [.int n, .int g], rfl, .inr (SqT.of hq), fits (by show 3 ≤ 100000; decide), fun r hrn => ?_⟩
    refine ⟨_, rfl, rfl, _, rfl, iteQ s_sl ?_⟩
    refine ⟨_, rfl, _, rfl, W, .ref r, fs, .sets n g, t, rest, H1, rfl, hWt4.grow (same_new hrn _) (fun S hS st p => ⟨p.trans st, r, rfl, SqT.of (hide_in.mpr ⟨fun y => ?_, upd_same⟩)⟩), hF, fun H' fs' hne hF' hWt' => ?_, fun H' x hrest s5 hT' => ?_⟩
    · obtain ⟨o, e⟩ := hS r y
      rw [hrn] at e
      cases e
    · cases rest with
      | nil => exact absurd rfl hne
      | cons u' rest' =>
        exact ⟨Ls.length - (k + 1) + 1, by omega, .inl ⟨k + 1, fs', u', rest', some (.str "sets"), some (.ref q), some (.ref r), v9, v10, by rw [← ekk]; rfl, klt, rfl, hrem2, fun x hx => hok x (List.mem_cons_of_mem _ hx), hF', hWt'⟩⟩
    · subst hrest
      have kl : k + 1 = Ls.length := by
        have := List.drop_eq_nil_iff.mp hrem2
        omega
      exact ⟨0, by omega, .inr ⟨x, some (.str "sets"), some (.ref q), some (.ref r), v9, v10, by rw [← kl, ← ekk]; rfl, rfl, s5, hT'⟩⟩
  | listed rows =>
    obtain ⟨c1, c2, c3⟩ := Lsd.row uok
    refine iteQ s_lp ?_
    refine ⟨_, rfl, _, rfl, q, [.int (rows.length : Int)], rfl, .inr (SqT.of hq), fits (by show 2 ≤ 100000; decide), fun r0 hr0 => ?_⟩
    have s5 := same_new hr0 (.tup (V.str "listed" :: ([V.int (rows.length : Int)] ++ [])))
    refine ⟨_, rfl, rfl, _, rfl, iteP (decide_eq_true rfl) ?_⟩
    have hrem3 : Ls.drop (k + 1) = rows.map (hd "row") ++ lwAll rest := hrem2
    have klen : k + 1 + rows.length ≤ Ls.length := by
      have := congrArg List.length hrem3
      rw [List.length_drop, List.length_append, List.length_map] at this
      omega
    refine ⟨_, rfl, _, rfl, D, xs, Ls, k + 1, rows, lwAll rest, by rw [← ekk]; rfl, Same.seq (s24.trans s5) (SqL.of hD1), hL1.same (s24.trans s5), hrem3, c1, fun rr hrr => ?_, fun ws hws => ?_, fun bb ys H6 s6 hbn hb6 hR6 => ?_⟩
    · obtain ⟨d1, d2⟩ := c3 rr hrr
      refine ⟨⟨.inr (.inr (.inr (.inl rfl))), by omega, fun y hy => ?_⟩, fun z => ?_⟩
      · have := d2 y hy
        unfold N80
        omega
      · rw [z] at d1
        simp at d1
        omega
    · cases rest with
      | nil => cases hws
      | cons u' rest' =>
        have eu : ws = hd u'.hw u'.hn := by
          have : lwAll (u' :: rest') = hd u'.hw u'.hn :: (u'.more ++ lwAll rest') := by
            show (u' :: rest').flatMap Tr.lw = _
            rw [List.flatMap_cons, u'.lw_eq]
            rfl
          rw [this] at hws
          exact (Option.some.inj hws).symm
        obtain ⟨g1, g2⟩ := (hok u' (List.mem_cons_of_mem _ List.mem_cons_self)).lg
        exact ⟨_, _, eu, g1, g2⟩
    have lenY : ys.length = rows.length := hR6.length
    -- at += len(rows)
    refine ⟨_, rfl, _, rfl, bb, ys, rfl, .inl (SqL.of hb6), _, _, rfl, rfl, ?_⟩
    -- counted
    refine ⟨_, rfl, _, rfl, iteP rfl ⟨_, rfl, bb, ys, rfl, .inl (SqL.of hb6), _, rfl, q, _, _, _, rfl, rfl, SqT.of (s6 _ _ (s5 _ _ hq)), at_of (j := 0) rfl rfl, rfl, ?_⟩⟩
    have ec : decide (V.int (ys.length : Int) = V.int (rows.length : Int)) = true := decide_eq_true (by rw [lenY])
    rw [ec]
    -- part = (word, rows)
    refine ⟨_, rfl, _, rfl, fits (by show 2 ≤ 100000; decide), fun r hrn => ?_⟩
    refine ⟨_, rfl, _, rfl, W, .ref r, fs, .listed rows, t, rest, H1, rfl, hWt4.grow ((s5.trans s6).trans (same_new hrn _)) (fun S hS st p => ?_), hF, fun H' fs' hne hF' hWt' => ?_, fun H' x hrest s7 hT' => ?_⟩
    · have nin : ∀ {a : Addr}, H4 a = none → a ∉ S := fun {a} ha y => by
        obtain ⟨o, e⟩ := hS a y
        rw [ha] at e
        cases e
      have f4 : ∀ {a : Addr}, H6 a = none → H4 a = none := fun ha => (s5.trans s6).free ha
      have hbn4 : H4 bb = none := s5.free hbn
      have s7 := same_new hrn (.tup [V.str "listed", V.ref bb])
      refine ⟨p.trans st, r, bb, ys, rfl, SqT.of (hide_in.mpr ⟨nin (f4 hrn), upd_same⟩), .inl (SqL.of (hide_in.mpr ⟨nin hbn4, s7 _ _ hb6⟩)), ?_⟩
      refine hR6.same ?_
      refine (fresh_step s7).trans (fun a o e => ?_)
      obtain ⟨e1, e2⟩ := fresh_in.mp e
      exact hide_in.mpr ⟨nin (s5.free e1), e2⟩
    · cases rest with
      | nil => exact absurd rfl hne
      | cons u' rest' =>
        refine ⟨Ls.length - (k + 1 + rows.length) + 1, by omega, .inl ⟨k + 1 + rows.length, fs', u', rest', some (.str "listed"), some (.ref q), some (.ref r), some (.ref bb), v10, ?_, klen, rfl, ?_, fun x hx => hok x (List.mem_cons_of_mem _ hx), hF', hWt'⟩⟩
        · have : ((k : Int) + 1) + (ys.length : Int) = ((k + 1 + rows.length : Nat) : Int) := by omega
          rw [← this]
          rfl
        · rw [← List.drop_drop, hrem3, List.drop_left' (by rw [List.length_map])]
    · subst hrest
      have kl : k + 1 + rows.length = Ls.length := by
        have := congrArg List.length hrem3
        rw [List.length_drop, List.length_append, List.length_map] at this
        have e0 : (lwAll []).length = 0 := rfl
        rw [e0] at this
        omega
      refine ⟨0, by omega, .inr ⟨x, some (.str "listed"), some (.ref q), some (.ref r), some (.ref bb), v10, ?_, rfl, s7, hT'⟩⟩
      have : ((k : Int) + 1) + (ys.length : Int) = ((Ls.length : Nat) : Int) := by omega
      rw [← this]
      rfl
end
end K5
set_option Elab.async false
set_option linter.all false
set_option maxRecDepth 100000
set_option maxHeartbeats 16000000
/-! The law's numbers. -/
namespace K5
open PySem PySem.Spec PyProof.Rows L2
abbrev Ints (ns : List Int) : List V := ns.map V.int
def spLrow : Sp := fun vs H Q _ => ∃ c m : Int, vs = [.int c, .int m] ∧ 0 ≤ m ∧ m ≤ 200 ∧ ∀ b (ns : List Int) H', Same H H' → H b = none → H' b = some (.lst (Ints ns)) → ns.length = m.toNat → Q (.ref b) H'
def spLnumbers (K : PySem.W.Frag) : Sp := fun vs H Q _ => ∃ (a : Addr) (ms : List Int), vs = [.ref a, .int 110] ∧ SqL K H a (Ints ms) ∧ ∀ b (ns : List Int) H', Same H H' → H' b = some (.lst (Ints ns)) → ns.length = 110 → Q (.ref b) H'
theorem ints_snoc (ns : List Int) (z : Int) : Ints ns ++ [V.int z] = Ints (ns ++ [z]) := by
  unfold Ints
  rw [List.map_append]
  rfl
theorem cut_ints (ms : List Int) (lo hi : Option Int) : ∃ ns : List Int, cutV (Ints ms) lo hi = Ints ns ∧ ns = (ms.drop (HT.sIx ms.length 0 lo)).take (HT.sIx ms.length ms.length hi - HT.sIx ms.length 0 lo) := by
  refine ⟨_, ?_, rfl⟩
  unfold cutV Ints
  rw [List.length_map, List.map_take, List.map_drop]
theorem sIx_pos (n d : Nat) {k : Int} (h : 0 ≤ k) : HT.sIx n d (some k) = min k.toNat n := by
  show (if k < 0 then (k + (n : Int)).toNat else min k.toNat n) = _
  rw [if_neg (by omega)]
section
variable {P : Program} {w : World} {K : PySem.W.Frag} {mg : Str → Option Value} {base : Heap}
theorem ok_Lrow (T : Txt w K mg) : FnOk P w K mg base CX0 1 T.a_Lrow T.d_Lrow p_Lrow spLrow := by
  refine T.F_Lrow.ok sc_Lrow (fun vs H Q E h => ?_) (fun cdv A outer s H vs Q E hr h => ?_)
  · obtain ⟨_, _, rfl, _⟩ := h
    rfl
  obtain ⟨c, m, rfl, m0, m1, k⟩ := h
  have nd := sc_Lrow.nd
  refine ⟨_, pss_cons (ps_set (i := 2) nd rfl (.inl rfl) (pe_lst pa_nil))
    (pss_cons (ps_set (i := 3) nd rfl (.inl rfl) (pe_callB call_abs (by rfl) T.z_abs PyProof.Rows.boot_abs (pa_cons (pv 0) pa_nil)))
    (pss_cons (ps_set (i := 4) nd rfl (.inl rfl) (pe_op op_mod (pe_callTy call_int1 (by rfl) T.z_int PyProof.Rows.boot_int (pa_cons (pe_op op_add (pe_op op_mul (pv 3) pe_int) pe_int) pa_nil)) pe_int))
    (pss_cons (ps_for PassesOwn.never rfl (pi_range1 rfl T.z_range (pa_cons (pv 1) pa_nil)) (pg_name (i := 5) nd rfl (.inl rfl))
      (pss_cons (ps_set (i := 4) nd rfl (.inl rfl) (pe_op op_mod (pe_callTy call_int1 (by rfl) T.z_int PyProof.Rows.boot_int (pa_cons (pe_op op_add (pe_op op_mul (pv 4) pe_int) (pe_op op_mul pe_int (pe_op op_add (pv 5) pe_int))) pa_nil)) pe_int))
      (pss_one (ps_if (pt_cmpR op_ge (pe_callB call_abs (by rfl) T.z_abs PyProof.Rows.boot_abs (pa_cons (pv 0) pa_nil)) (pe_op op_pow pe_int pe_int) (nomark _))
        (pss_cons (ps_expr (pe_bm PySem.F.plainAttrs_list PySem.F.slot_list_append PySem.F.type_list_append mt_append (pv 2) (pa_cons (pe_op op_mod (pe_callTy call_int1 (by rfl) T.z_int PyProof.Rows.boot_int (pa_cons (pv 3) pa_nil)) pe_int) pa_nil)))
          (pss_one (ps_set (i := 3) nd rfl (.inl rfl) (pe_op op_fdiv (pv 3) pe_int))))
        (pss_one (ps_expr (pe_bm PySem.F.plainAttrs_list PySem.F.slot_list_append PySem.F.type_list_append mt_append (pv 2) (pa_cons (pe_op op_mod (pe_callTy call_int1 (by rfl) T.z_int PyProof.Rows.boot_int (pa_cons (pe_op op_fdiv (pv 4) pe_int) pa_nil)) pe_int) pa_nil))))))))
    (pss_one (ps_ret (pv 2)))))), ?_⟩
  refine ⟨fits (by show 0 ≤ 100000; decide), fun b hb => ?_⟩
  refine ⟨_, rfl, c, rfl, ?_⟩
  generalize (if c < 0 then -c else c) = r0
  refine ⟨_, rfl, _, _, rfl, rfl, .inr ⟨by decide, by decide⟩, _, _, rfl, rfl, .inl ⟨_, rfl, _, _, rfl, rfl, (show (0 : Int) < 2147483647 by decide), ?_⟩⟩
  refine ⟨_, rfl, m, rfl, by omega, by omega, for_range (lo := 0) (n := m.toNat) (fun i σ H' => Same H (hide [b] H') ∧ ∃ (ns : List Int) (r x : Int) (v : Option V), σ = [some (.int c), some (.int m), some (.ref b), some (.int r), some (.int x), v] ∧ H' b = some (.lst (Ints ns)) ∧ ns.length = i) ⟨hide_one (same_new hb _) hb, [], _, _, none, rfl, upd_same, rfl⟩ ?_ ?_⟩
  · rintro i σ H1 hi ⟨s1, ns, r, x, v, rfl, hb1, hl⟩
    refine ⟨_, rfl, _, _, rfl, rfl, .inr ⟨by decide, by decide⟩, _, rfl, _, _, rfl, rfl, _, _, rfl, rfl, .inl ⟨by decide, by decide⟩, _, _, rfl, rfl, .inl ⟨_, rfl, _, _, rfl, rfl, (show (0 : Int) < 2147483629 by decide), ?_⟩⟩
    refine ⟨_, rfl, c, rfl, _, _, rfl, rfl, ⟨by decide, by decide, by decide⟩, _, _, rfl, rfl, _, rfl, ?_⟩
    refine ite2 (fun _ => ?_) fun _ => ?_
    · refine ⟨_, rfl, .inl ⟨rfl, _, SqL.of hb1⟩, _, rfl, .inl ⟨_, rfl, _, _, rfl, rfl, (show (0 : Int) < 1009 by decide), b, _, _, rfl, rfl, hb1, fitsL (by rw [List.length_map]; omega), ?_⟩⟩
      refine ⟨_, rfl, _, _, rfl, rfl, ⟨by decide, by decide⟩, s1.trans (hide_upd List.mem_cons_self), ns ++ [r % 1009], _, _, _, rfl, ?_, by rw [List.length_append, hl]; rfl⟩
      rw [upd_same]
      exact congrArg (fun l => some (HO.lst l)) (ints_snoc _ _)
    · refine ⟨_, rfl, .inl ⟨rfl, _, SqL.of hb1⟩, _, rfl, _, _, rfl, rfl, ⟨by decide, by decide⟩, .inl ⟨_, rfl, _, _, rfl, rfl, (show (0 : Int) < 1009 by decide), b, _, _, rfl, rfl, hb1, fitsL (by rw [List.length_map]; omega), ?_⟩⟩
      refine ⟨s1.trans (hide_upd List.mem_cons_self), ns ++ [(x * 16807 + 271 * (0 + (i : Int) + 3)) % 2147483629 / 7 % 1009], _, _, _, rfl, ?_, by rw [List.length_append, hl]; rfl⟩
      rw [upd_same]
      exact congrArg (fun l => some (HO.lst l)) (ints_snoc _ _)
  · rintro σ H1 ⟨s1, ns, r, x, v, rfl, hb1, hl⟩
    exact ⟨_, rfl, k b ns H1 (s1.trans (hide_same _ _)) hb hb1 hl⟩
theorem ok_Lnumbers (T : Txt w K mg) : FnOk P w K mg base CX0 2 T.a_Lnumbers T.d_Lnumbers p_Lnumbers (spLnumbers K) := by
  have FR := ok_Lrow (P := P) (base := base) T
  refine T.F_Lnumbers.ok sc_Lnumbers (fun vs H Q E h => ?_) (fun cdv A outer s H vs Q E hr h => ?_)
  · obtain ⟨_, _, rfl, _⟩ := h
    rfl
  obtain ⟨a, ms, rfl, hS, k⟩ := h
  have nd := sc_Lnumbers.nd
  refine ⟨_, pss_cons (ps_set (i := 2) nd rfl (.inl rfl) (pe_slice sl_list (pv 0) po_none (po_some pe_int)))
    (pss_cons (ps_set (i := 3) nd rfl (.inl rfl) (pe_op op_add pe_int (pe_op op_fdiv (pv 1) (pe_callB (call_max2 rfl) (by rfl) T.z_max PyProof.Rows.boot_max (pa_cons pe_int (pa_cons (pe_callB call_len_seq (by rfl) T.z_len PySem.boot_len (pa_cons (pv 2) pa_nil)) pa_nil))))))
    (pss_cons (ps_set (i := 4) nd rfl (.inl rfl) (pe_lst pa_nil))
    (pss_cons (ps_for PassesOwn.never rfl (pi_list (pv 2)) (pg_name (i := 5) nd rfl (.inl rfl))
      (pss_one (ps_for PassesOwn.never rfl (pi_list (pe_call FR hr rfl T.m_Lrow T.k_Lrow T.b_Lrow .nil pass0 (pa_cons (pv 5) (pa_cons (pv 3) pa_nil)))) (pg_name (i := 6) nd rfl (.inl rfl))
        (pss_one (ps_expr (pe_bm PySem.F.plainAttrs_list PySem.F.slot_list_append PySem.F.type_list_append mt_append (pv 4) (pa_cons (pv 6) pa_nil)))))))
    (pss_cons (ps_while PassesOwn.never (pt_cmpR op_lt (pe_callB call_len_seq (by rfl) T.z_len PySem.boot_len (pa_cons (pv 4) pa_nil)) (pv 1) (nomark _))
      (pss_one (ps_expr (pe_bm PySem.F.plainAttrs_list PySem.F.slot_list_append PySem.F.type_list_append mt_append (pv 4) (pa_cons pe_int pa_nil)))))
    (pss_one (ps_ret (pe_slice sl_list (pv 4) po_none (po_some (pv 1))))))))), ?_⟩
  obtain ⟨cs, ecs, ecs'⟩ := cut_ints ms none (some 63)
  have lcs : cs.length ≤ 63 := by
    rw [ecs', List.length_take, sIx_pos _ _ (by decide), HT.sIx_none]
    have : (63 : Int).toNat = 63 := rfl
    omega
  refine ⟨_, rfl, _, rfl, a, _, rfl, hS, fun c hc => ?_⟩
  rw [ecs]
  have s0 := same_new hc (.lst (Ints cs))
  have hc0 : (upd H c (.lst (Ints cs))) c = some (.lst (Ints cs)) := upd_same
  generalize upd H c (.lst (Ints cs)) = H0 at s0 hc0
  refine ⟨_, rfl, _, rfl, c, _, rfl, .inl (SqL.of hc0), _, _, rfl, ?_⟩
  have hmx : ∃ mx : Int, (if ((Ints cs).length : Int) > 1 then ((Ints cs).length : Int) else 1) = mx ∧ 1 ≤ mx ∧ mx ≤ 63 := by
    rw [List.length_map]
    by_cases z : (cs.length : Int) > 1
    · rw [if_pos z]; exact ⟨_, rfl, by omega, by omega⟩
    · rw [if_neg z]; exact ⟨_, rfl, by omega, by omega⟩
  obtain ⟨mx, emx, mx1, mx2⟩ := hmx
  rw [emx]
  have q1 : 0 ≤ (110 : Int) / mx := Int.ediv_nonneg (by decide) (by omega)
  have q2 : (110 : Int) / mx ≤ 110 := Int.ediv_le_self _ (by decide)
  generalize hq : (110 : Int) / mx = q at q1 q2
  refine ⟨_, _, rfl, rfl, ⟨by omega, by omega⟩, _, _, rfl, rfl, ?_⟩
  rw [hq]
  refine ⟨fits (by show 0 ≤ 100000; decide), fun b hb => ?_⟩
  have nbc : c ≠ b := ne_of_none hc0 hb
  refine ⟨_, rfl, c, rfl, ⟨_, SqL.of (by rw [upd_ne nbc]; exact hc0)⟩, for_list (xs := Ints cs) (fun i σ H' => Same H0 (hide [b] H') ∧ ∃ (ns : List Int) (v5 v6 : Option V), σ = [some (.ref a), some (.int 110), some (.ref c), some (.int (1 + q)), some (.ref b), v5, v6] ∧ H' b = some (.lst (Ints ns)) ∧ ns.length ≤ i * 111)
    ⟨hide_one (same_new hb _) hb, [], none, none, rfl, upd_same, Nat.zero_le _⟩ (fun i σ H' _ ⟨s1, _⟩ => Same.seq (s1.trans (hide_same _ _)) (SqL.of hc0)) ?_ ?_⟩
  · rintro i x σ H1 hx ⟨s1, ns, v5, v6, rfl, hb1, hl⟩
    obtain ⟨z, hz, rfl⟩ := item_of hx
    have hil : i < cs.length := (List.getElem?_eq_some_iff.mp hz).1
    refine ⟨_, rfl, _, rfl, z, 1 + q, rfl, by omega, by omega, fun d ns2 H2 s2 hdn hd2 hl2 => ?_⟩
    have hb2 := s2 _ _ hb1
    have hd0 : Same H0 (hide [b] H2) := s1.trans (hide_step s2)
    have ndb : d ≠ b := fun z => ne_of_none hb1 hdn z.symm
    refine ⟨d, rfl, ⟨_, SqL.of hd2⟩, for_list (xs := Ints ns2) (fun j σ H' => Same H0 (hide [b] H') ∧ H' d = some (.lst (Ints ns2)) ∧ ∃ (ns : List Int) (v6 : Option V), σ = [some (.ref a), some (.int 110), some (.ref c), some (.int (1 + q)), some (.ref b), some (.int z), v6] ∧ H' b = some (.lst (Ints ns)) ∧ ns.length ≤ i * 111 + j)
      ⟨hd0, hd2, ns, v6, rfl, hb2, hl⟩ (fun j σ H' _ ⟨_, h, _⟩ => SqL.of h) ?_ ?_⟩
    · rintro j y σ H3 hy ⟨s3, hd3, ns3, v6, rfl, hb3, hl3⟩
      obtain ⟨u, hu, rfl⟩ := item_of hy
      have hjl : j < ns2.length := (List.getElem?_eq_some_iff.mp hu).1
      refine ⟨_, rfl, .inl ⟨rfl, _, SqL.of hb3⟩, _, rfl, b, _, _, rfl, rfl, hb3, fitsL (by rw [List.length_map]; omega), ?_⟩
      refine ⟨s3.trans (hide_upd List.mem_cons_self), by rw [upd_ne ndb]; exact hd3, ns3 ++ [u], some (.int u), rfl, ?_, by rw [List.length_append]; show ns3.length + 1 ≤ _; omega⟩
      rw [upd_same]
      exact congrArg (fun l => some (HO.lst l)) (ints_snoc _ _)
    · rintro σ H3 ⟨s3, hd3, ns3, v6, rfl, hb3, hl3⟩
      refine ⟨s3, ns3, _, v6, rfl, hb3, ?_⟩
      rw [List.length_map] at hl3
      omega
  · rintro σ H1 ⟨s1, ns, v5, v6, rfl, hb1, hl⟩
    rw [List.length_map] at hl
    refine ⟨fun m σ H' => Same H0 (hide [b] H') ∧ ∃ (ns : List Int), m = 110 - ns.length ∧ σ = [some (.ref a), some (.int 110), some (.ref c), some (.int (1 + q)), some (.ref b), v5, v6] ∧ H' b = some (.lst (Ints ns)) ∧ ns.length ≤ 7000, ⟨_, s1, ns, rfl, rfl, hb1, by omega⟩, ?_⟩
    rintro m σ H2 ⟨s2, ns2, rfl, rfl, hb2, hl2⟩
    refine ⟨_, rfl, b, _, rfl, .inl (SqL.of hb2), _, rfl, _, _, rfl, rfl, _, rfl, ?_⟩
    rw [List.length_map]
    refine ite2 (fun g => ?_) fun g => ?_
    · have g' : ((ns2.length : Nat) : Int) < 110 := of_decide_eq_true g
      refine ⟨fun σ' H' => ∃ m', m' < 110 - ns2.length ∧ Same H0 (hide [b] H') ∧ ∃ (ns : List Int), m' = 110 - ns.length ∧ σ' = [some (.ref a), some (.int 110), some (.ref c), some (.int (1 + q)), some (.ref b), v5, v6] ∧ H' b = some (.lst (Ints ns)) ∧ ns.length ≤ 7000, fun _ _ h => h, ?_⟩
      refine ⟨_, rfl, .inl ⟨rfl, _, SqL.of hb2⟩, b, _, _, rfl, rfl, hb2, fitsL (by rw [List.length_map]; omega), ?_⟩
      refine ⟨110 - (ns2 ++ [0]).length, by rw [List.length_append]; show 110 - (ns2.length + 1) < _; omega, s2.trans (hide_upd List.mem_cons_self), ns2 ++ [0], rfl, rfl, ?_, by rw [List.length_append]; show ns2.length + 1 ≤ 7000; omega⟩
      rw [upd_same]
      exact congrArg (fun l => some (HO.lst l)) (ints_snoc _ _)
    · have g' : ¬ ((ns2.length : Nat) : Int) < 110 := fun z => g (decide_eq_true z)
      obtain ⟨rs, ers, ers'⟩ := cut_ints ns2 none (some 110)
      have lrs : rs.length = 110 := by
        rw [ers', List.length_take, sIx_pos _ _ (by decide), HT.sIx_none, List.length_drop]
        have : (110 : Int).toNat = 110 := rfl
        omega
      refine ⟨_, rfl, _, rfl, _, rfl, b, _, rfl, SqL.of hb2, fun d hd => ?_⟩
      rw [ers]
      exact k d rs _ (s0.trans ((s2.trans (hide_same _ _)).trans (same_new hd _))) upd_same lrs
end
end K5
set_option Elab.async false
set_option linter.all false
set_option maxRecDepth 100000
set_option maxHeartbeats 16000000
/-! The law's tables, renamed: they are schemes. Plain. -/
namespace K5
open PySem PySem.Spec PyProof.Rows L2
def tbl (n : Nat) (f : Nat → Nat → Int) : List (List Int) := (List.range n).map fun r => (List.range n).map fun c => f r c
def f1 (r c : Nat) : Int := if (!decide (V.int (r : Int) = V.int (c : Int))) = true then 1 else 0
def f2 (r c : Nat) : Int := if decide (V.int (r : Int) = V.int (c : Int)) = true then 0 else 1 + (if decide (V.int ((r : Int) / 2) = V.int ((c : Int) / 2)) = true then 1 else 0)
def f3 (r c : Nat) : Int := ([0, 1, 2, 3, 2, 1] : List Int).getD (((r : Int) - (c : Int)) % 6).toNat 0
def f4 (r c : Nat) : Int := ([0, 1, 2, 2, 1] : List Int).getD (((r : Int) - (c : Int)) % 5).toNat 0
def f5 (r c : Nat) : Int := (if (!decide (V.int ((r : Int) / 3) = V.int ((c : Int) / 3))) = true then 1 else 0) + (if (!decide (V.int ((r : Int) % 3) = V.int ((c : Int) % 3))) = true then 1 else 0)
def f7 (r c : Nat) : Int := if decide (V.int (r : Int) = V.int (c : Int)) = true then 0 else 1 + (if decide (V.int (((r : Int) + (c : Int)) % 2) = V.int 0) = true then 1 else 0)
def lo0 (one : List Int) : Int := match one.getLast? with
  | none => 0
  | some z => z + 1
def ext (n : Int) (one : List Int) : List (List Int) := (List.range (n - lo0 one).toNat).map fun (i : Nat) => one ++ [lo0 one + (i : Int)]
def setsL (n : Int) : Nat → List (List Int)
  | 0 => [[]]
  | t + 1 => (setsL n t).flatMap (ext n)
def pairs : List (List Int) := setsL 5 2
theorem pairs_eq : pairs = [[0, 1], [0, 2], [0, 3], [0, 4], [1, 2], [1, 3], [1, 4], [2, 3], [2, 4], [3, 4]] := by decide +kernel
def both (a b : List Int) : Int := 2 - (((a.filter fun x => inV (.int x) (Ints b)).length : Nat) : Int)
def f6 (r c : Nat) : Int := both (pairs.getD r []) (pairs.getD c [])
def tables : List (List (List Int)) := [[[0]], tbl 4 f1, tbl 6 f2, tbl 6 f3, tbl 5 f4, tbl 9 f5, tbl 10 f6, tbl 4 f7]
theorem tables_eq : tables = [[[0]],
  [[0, 1, 1, 1], [1, 0, 1, 1], [1, 1, 0, 1], [1, 1, 1, 0]],
  [[0, 2, 1, 1, 1, 1], [2, 0, 1, 1, 1, 1], [1, 1, 0, 2, 1, 1], [1, 1, 2, 0, 1, 1], [1, 1, 1, 1, 0, 2], [1, 1, 1, 1, 2, 0]],
  [[0, 1, 2, 3, 2, 1], [1, 0, 1, 2, 3, 2], [2, 1, 0, 1, 2, 3], [3, 2, 1, 0, 1, 2], [2, 3, 2, 1, 0, 1], [1, 2, 3, 2, 1, 0]],
  [[0, 1, 2, 2, 1], [1, 0, 1, 2, 2], [2, 1, 0, 1, 2], [2, 2, 1, 0, 1], [1, 2, 2, 1, 0]],
  [[0, 1, 1, 1, 2, 2, 1, 2, 2], [1, 0, 1, 2, 1, 2, 2, 1, 2], [1, 1, 0, 2, 2, 1, 2, 2, 1], [1, 2, 2, 0, 1, 1, 1, 2, 2], [2, 1, 2, 1, 0, 1, 2, 1, 2], [2, 2, 1, 1, 1, 0, 2, 2, 1], [1, 2, 2, 1, 2, 2, 0, 1, 1], [2, 1, 2, 2, 1, 2, 1, 0, 1], [2, 2, 1, 2, 2, 1, 1, 1, 0]],
  [[0, 1, 1, 1, 1, 1, 1, 2, 2, 2], [1, 0, 1, 1, 1, 2, 2, 1, 1, 2], [1, 1, 0, 1, 2, 1, 2, 1, 2, 1], [1, 1, 1, 0, 2, 2, 1, 2, 1, 1], [1, 1, 2, 2, 0, 1, 1, 1, 1, 2], [1, 2, 1, 2, 1, 0, 1, 1, 2, 1], [1, 2, 2, 1, 1, 1, 0, 2, 1, 1], [2, 1, 1, 2, 1, 1, 2, 0, 1, 1], [2, 1, 2, 1, 1, 2, 1, 1, 0, 1], [2, 2, 1, 1, 2, 1, 1, 1, 1, 0]],
  [[0, 1, 2, 1], [1, 0, 1, 2], [2, 1, 0, 1], [1, 2, 1, 0]]] := by decide +kernel
/-! ### the check -/
def grid (c : Nat) : List (Nat × Nat) := (List.range c).flatMap fun x => (List.range c).map fun y => (x, y)
def rep (rows : List (List Int)) (c : Nat) (k : Int) : List (Int × Int) := (((grid c).find? fun p => decide (cel rows p.1 p.2 = k)).map fun p => prs rows p.1 p.2).getD []
def top1 (l : List Int) : Nat := l.foldl (fun m k => if m < k.toNat + 1 then k.toNat + 1 else m) 0
def chk (rows : List (List Int)) : Bool :=
  let c := rows.length
  let q := top1 rows.flatten
  decide (1 ≤ c) && decide (c ≤ 10) && rows.all (fun r => decide (r.length = c)) && decide (q ≤ 8) && rows.flatten.all (fun k => decide (0 ≤ k) && decide (k < q)) && (List.range q).all (fun k => rows.flatten.contains (k : Int)) &&
    (grid c).all fun p => decide (decide (cel rows p.1 p.2 = 0) = decide (p.1 = p.2)) && decide (cel rows p.1 p.2 = cel rows p.2 p.1) && (prs rows p.1 p.2).isPerm (rep rows c (cel rows p.1 p.2))
theorem chk_all : tables.all chk = true := by rw [tables_eq]; decide +kernel
theorem mem_grid {c x y : Nat} (hx : x < c) (hy : y < c) : (x, y) ∈ grid c := List.mem_flatMap.mpr ⟨x, List.mem_range.mpr hx, List.mem_map.mpr ⟨y, List.mem_range.mpr hy, rfl⟩⟩
theorem chk_lsd {rows : List (List Int)} (h : chk rows = true) : Lsd rows ∧ rows.length ≤ 10 := by
  unfold chk at h
  simp only [Bool.and_eq_true, decide_eq_true_eq, List.all_eq_true, List.contains_iff_mem, List.mem_range] at h
  obtain ⟨⟨⟨⟨⟨⟨h1, h2⟩, h3⟩, h4⟩, h5⟩, h6⟩, h7⟩ := h
  refine ⟨⟨rows.length, ⟨rfl, h1, by omega, h3, _, h4, fun k => ⟨fun hk => ⟨(h5 k hk).1, (h5 k hk).2⟩, fun ⟨k0, k1⟩ => ?_⟩⟩, fun x y hx hy => ?_, fun x y x' y' hx hy hx' hy' e => ?_⟩, h2⟩
  · have := h6 k.toNat (by omega)
    have e : ((k.toNat : Nat) : Int) = k := by omega
    rwa [e] at this
  · obtain ⟨⟨a, b⟩, _⟩ := h7 _ (mem_grid hx hy)
    exact ⟨decide_eq_decide.mp a, b⟩
  · have a := List.isPerm_iff.mp (h7 _ (mem_grid hx hy)).2
    have b := List.isPerm_iff.mp (h7 _ (mem_grid hx' hy')).2
    have e' : cel rows (x, y).1 (x, y).2 = cel rows (x', y').1 (x', y').2 := e
    rw [e'] at a
    exact b.trans a.symm
theorem tab_lsd {rows : List (List Int)} (h : rows ∈ tables) : Lsd rows ∧ rows.length ≤ 10 := chk_lsd (List.all_eq_true.mp chk_all rows h)
/-! ### renamed -/
def ren (rows : List (List Int)) (names : List Nat) : List (List Int) := names.map fun r => names.map fun c => cel rows r c
theorem ren_get {rows : List (List Int)} {names : List Nat} {x : Nat} (hx : x < names.length) : (ren rows names).getD x [] = names.map fun c => cel rows names[x] c := by
  unfold ren
  rw [List.getD_eq_getElem?_getD, List.getElem?_map, List.getElem?_eq_getElem hx]
  rfl
theorem ren_cel {rows : List (List Int)} {names : List Nat} {x y : Nat} (hx : x < names.length) (hy : y < names.length) : cel (ren rows names) x y = cel rows names[x] names[y] := by
  unfold cel
  rw [ren_get hx, List.getD_eq_getElem?_getD, List.getElem?_map, List.getElem?_eq_getElem hy]
  rfl
theorem row_map {rows : List (List Int)} {c x : Nat} (sq : Square rows c) (hx : x < c) : rows.getD x [] = (List.range c).map fun j => cel rows x j := by
  obtain ⟨_, e⟩ := sq.row hx
  apply List.ext_getElem
  · rw [List.length_map, List.length_range, e]
  · intro j h1 h2
    rw [List.getElem_map, List.getElem_range]
    unfold cel
    rw [List.getD_eq_getElem?_getD (l := rows.getD x []), List.getElem?_eq_getElem h1]
    rfl
theorem ren_lsd {rows : List (List Int)} {names : List Nat} (h : Lsd rows) (hp : names.Perm (List.range rows.length)) : Lsd (ren rows names) ∧ (ren rows names).length = rows.length := by
  obtain ⟨c, sq, hD, hW⟩ := h
  have elen := sq.len
  rw [elen] at hp
  have ln : names.length = c := by rw [hp.length_eq, List.length_range]
  have lt : ∀ n ∈ names, n < c := fun n hn => List.mem_range.mp (hp.mem_iff.mp hn)
  have nd : names.Nodup := hp.nodup_iff.mpr List.nodup_range
  have lr : (ren rows names).length = c := by unfold ren; rw [List.length_map, ln]
  have lt' : ∀ {x : Nat} (hx : x < names.length), names[x] < c := fun hx => lt _ (List.getElem_mem hx)
  obtain ⟨q, hq, hk⟩ := sq.kinds
  have cells : ∀ k : Int, k ∈ rows.flatten ↔ ∃ r c', r < c ∧ c' < c ∧ k = cel rows r c' := fun k => by
    constructor
    · intro hk
      obtain ⟨r, hr, hk⟩ := List.mem_flatten.mp hk
      obtain ⟨i, hi, ei⟩ := List.getElem_of_mem hr
      obtain ⟨j, hj, ej⟩ := List.getElem_of_mem hk
      have hi' : i < c := by rw [← elen]; exact hi
      have eg : rows.getD i [] = r := by rw [List.getD_eq_getElem?_getD, List.getElem?_eq_getElem hi, ← ei]; rfl
      refine ⟨i, j, hi', by rw [← sq.each r hr]; exact hj, ?_⟩
      unfold cel
      rw [eg, List.getD_eq_getElem?_getD, List.getElem?_eq_getElem hj, ej]
      rfl
    · rintro ⟨r, c', hr, hc, rfl⟩
      have e := sq.cell hr hc
      exact List.mem_flatten.mpr ⟨_, List.mem_of_getElem? (sq.row hr).1, List.mem_of_getElem? e⟩
  refine ⟨⟨c, ⟨lr, sq.pos, sq.most, fun r hr => ?_, q, hq, fun k => ?_⟩, fun x y hx hy => ?_, fun x y x' y' hx hy hx' hy' e => ?_⟩, by rw [lr, elen]⟩
  · obtain ⟨a, _, e⟩ := List.mem_map.mp hr
    rw [← e, List.length_map, ln]
  · rw [← hk, cells]
    unfold ren
    rw [List.mem_flatten]
    constructor
    · rintro ⟨l, hl, hkl⟩
      obtain ⟨r, hr, e⟩ := List.mem_map.mp hl
      rw [← e] at hkl
      obtain ⟨c', hc, e2⟩ := List.mem_map.mp hkl
      exact ⟨r, c', lt r hr, lt c' hc, e2.symm⟩
    · rintro ⟨r, c', hr, hc, e⟩
      exact ⟨_, List.mem_map.mpr ⟨r, hp.mem_iff.mpr (List.mem_range.mpr hr), rfl⟩, List.mem_map.mpr ⟨c', hp.mem_iff.mpr (List.mem_range.mpr hc), e.symm⟩⟩
  · rw [← ln] at hx hy
    have d := hD names[x] names[y] (lt' hx) (lt' hy)
    refine ⟨?_, ?_⟩
    · rw [ren_cel hx hy, d.1]
      exact ⟨fun z => (List.getElem_inj nd).mp z, fun z => by subst z; rfl⟩
    · rw [ren_cel hx hy, ren_cel hy hx]
      exact d.2
  · rw [← ln] at hx hy hx' hy'
    rw [ren_cel hx hy, ren_cel hx' hy'] at e
    have w := hW _ _ _ _ (lt' hx) (lt' hy) (lt' hx') (lt' hy') e
    have key : ∀ {a b : Nat} (ha : a < names.length) (hb : b < names.length), (prs (ren rows names) a b).Perm (prs rows names[a] names[b]) := fun {a b} ha hb => by
      unfold prs
      rw [ren_get ha, ren_get hb, List.zip_map', row_map sq (lt' ha), row_map sq (lt' hb), List.zip_map']
      exact hp.map _
    exact (key hx' hy').trans (w.trans (key hx hy).symm)
end K5
set_option Elab.async false
set_option linter.all false
set_option maxRecDepth 100000
set_option maxHeartbeats 16000000
/-! The law's pairs of five points. -/
namespace K5
open PySem PySem.Spec PyProof.Rows L2
def spLsets (K : PySem.W.Frag) : Sp := fun vs H Q _ => vs = [.int 5, .int 2] ∧ ∀ b ys H', Same H H' → H' b = some (.lst ys) → Rs K H' ys pairs → Q (.ref b) H'
theorem sets_small : ∀ t, t ≤ 2 → (setsL 5 t).length ≤ 10 ∧ ∀ one ∈ setsL 5 t, one.length ≤ 2 ∧ ∀ z ∈ one, 0 ≤ z ∧ z ≤ 4 := by
  have h : ((List.range 3).all fun t => decide ((setsL 5 t).length ≤ 10) && (setsL 5 t).all fun one => decide (one.length ≤ 2) && one.all fun z => decide (0 ≤ z) && decide (z ≤ 4)) = true := by decide +kernel
  intro t ht
  have h1 := List.all_eq_true.mp h t (List.mem_range.mpr (by omega))
  simp only [Bool.and_eq_true, decide_eq_true_eq, List.all_eq_true] at h1
  exact h1
theorem ext_len (one : List Int) : (ext 5 one).length = (5 - lo0 one).toNat := by unfold ext; rw [List.length_map, List.length_range]
theorem ext_get {one : List Int} {j : Nat} (h : j < (5 - lo0 one).toNat) : (ext 5 one)[j]? = some (one ++ [lo0 one + (j : Int)]) := by
  unfold ext
  rw [List.getElem?_map, List.getElem?_range h]
  rfl
theorem read_lo {K : PySem.W.Frag} {σ : L2.St} {H : Hp} {b : Addr} {one : List Int} {Q : VK} (h5 : σ[5]? = some (some (.ref b))) (hT : SqT K H b (Ints one)) (q : Q (.int (lo0 one)) H) :
    (if decide ((0 : Int) < ((Ints one).length : Int)) = true then tOp (rI0 fun i j => .int (i + j)) (tCB (fun xs H Q => (∃ i, xs = [V.int i] ∧ Q (V.int i) H) ∨ ∃ k, xs = [V.bl k] ∧ Q (V.int (if k then 1 else 0)) H) (tCons (tOp (rIxT K) (tVar 5) (tUn (rU fun i => .int (-i)) (tC (.int 1)))) tNil)) (tC (.int 1)) σ H Q else tC (.int 0) σ H Q) := by
  rcases List.eq_nil_or_concat one with e | ⟨l, z, e⟩
  · subst e
    exact iteQ (decide_eq_false (by show ¬ (0 : Int) < 0; decide)) q
  · have e' : one = l ++ [z] := by rw [e, List.concat_eq_append]
    subst e'
    have el : lo0 (l ++ [z]) = z + 1 := by unfold lo0; rw [List.getLast?_concat]
    rw [el] at q
    refine iteP (decide_eq_true (by rw [List.length_map, List.length_append]; show (0 : Int) < ((l.length + 1 : Nat) : Int); omega)) ?_
    refine ⟨_, h5, _, rfl, b, _, _, _, rfl, rfl, hT, ?_, .inl ⟨z, rfl, _, _, rfl, rfl, q⟩⟩
    rw [← ints_snoc]
    exact atI_last _ _
section
variable {P : Program} {w : World} {K : PySem.W.Frag} {mg : Str → Option Value} {base : Heap}
theorem ok_Lsets (T : Txt w K mg) : FnOk P w K mg base CX0 1 T.a_Lsets T.d_Lsets p_Lsets (spLsets K) := by
  refine T.F_Lsets.ok sc_Lsets (fun vs H Q E h => ?_) (fun cdv A outer s H vs Q E hr h => ?_)
  · obtain ⟨rfl, _⟩ := h
    rfl
  obtain ⟨rfl, k⟩ := h
  have nd := sc_Lsets.nd
  refine ⟨_, pss_cons (ps_set (i := 2) nd rfl (.inl rfl) (pe_lst (pa_cons (pe_tup pa_nil) pa_nil)))
    (pss_cons (ps_for PassesOwn.never rfl (pi_range1 rfl T.z_range (pa_cons (pv 1) pa_nil)) (pg_name (i := 3) nd rfl (.inl rfl))
      (pss_cons (ps_set (i := 4) nd rfl (.inl rfl) (pe_lst pa_nil))
      (pss_cons (ps_for PassesOwn.never rfl (pi_list (pv 2)) (pg_name (i := 5) nd rfl (.inl rfl))
        (pss_one (ps_for PassesOwn.never rfl (pi_range2 rfl T.z_range (pa_cons (pe_ifExp (pt_cmpR op_gt (pe_callB call_len_seq (by rfl) T.z_len PySem.boot_len (pa_cons (pv 5) pa_nil)) pe_int (nomark _))
            (pe_op op_add (pe_callTy call_int1 (by rfl) T.z_int PyProof.Rows.boot_int (pa_cons (pe_ix ix_tup (pv 5) (pe_un un_neg pe_int) (fun _ _ => rfl)) pa_nil)) pe_int) pe_int) (pa_cons (pv 0) pa_nil))) (pg_name (i := 6) nd rfl (.inl rfl))
          (pss_one (ps_expr (pe_bm PySem.F.plainAttrs_list PySem.F.slot_list_append PySem.F.type_list_append mt_append (pv 4) (pa_cons (pe_op op_catA (pv 5) (pe_tup (pa_cons (pv 6) pa_nil))) pa_nil)))))))
      (pss_one (ps_set (i := 2) nd rfl (.inl rfl) (pv 4))))))
    (pss_one (ps_ret (pv 2)))), ?_⟩
  refine ⟨fits (by show 0 ≤ 100000; decide), fun e0 he0 => ⟨fits (by show 1 ≤ 100000; decide), fun f0 hf0 => ?_⟩⟩
  have s0 := same_new he0 (.tup [])
  have s01 := s0.trans (same_new hf0 (.lst [V.ref e0]))
  refine ⟨_, rfl, 2, rfl, by decide, by decide, for_range (lo := 0) (n := 2) (fun t σ H' => Same H H' ∧ ∃ (f : Addr) (ys : List V) (v3 v4 v5 v6 : Option V), σ = [some (.int 5), some (.int 2), some (.ref f), v3, v4, v5, v6] ∧ H' f = some (.lst ys) ∧ Rs K H' ys (setsL 5 t))
    ⟨s01, f0, _, none, none, none, none, rfl, upd_same, .cons ⟨e0, rfl, SqT.of (by rw [upd_ne (ne_of_none upd_same hf0)]; exact upd_same)⟩ .nil⟩ ?_ ?_⟩
  rotate_left
  · rintro σ H' ⟨s1, f, ys, v3, v4, v5, v6, rfl, hf, hR⟩
    exact ⟨_, rfl, k f ys H' s1 hf hR⟩
  rintro t σ H1 ht ⟨s1, f, ys, v3, v4, v5, v6, rfl, hf, hR⟩
  obtain ⟨z1, z2⟩ := sets_small t (by omega)
  refine ⟨fits (by show 0 ≤ 100000; decide), fun L hL => ?_⟩
  refine ⟨_, rfl, f, rfl, ⟨_, SqL.of (same_new hL _ _ _ hf)⟩, for_list (xs := ys) (fun i σ H' => Same H1 (hide [L] H') ∧ ∃ (zs : List V) (v5 v6 : Option V), σ = [some (.int 5), some (.int 2), some (.ref f), some (.int (0 + (t : Int))), some (.ref L), v5, v6] ∧ H' L = some (.lst zs) ∧ Rs K (hide [L] H') zs (((setsL 5 t).take i).flatMap (ext 5)) ∧ zs.length ≤ i * 10)
    ⟨hide_one (same_new hL _) hL, [], v5, v6, rfl, upd_same, .nil, Nat.zero_le _⟩ (fun i σ H' _ ⟨s2, _⟩ => SqL.of ((s2.trans (hide_same _ _)) _ _ hf)) ?_ ?_⟩
  · rintro i x σ H2 hx ⟨s2, zs, v5, v6, rfl, hL2, hZ, lz⟩
    obtain ⟨b, one, rfl, hone, hT⟩ := hR.at hx
    have hi : i < 10 := by
      have := (List.getElem?_eq_some_iff.mp hone).1
      omega
    obtain ⟨l2, b2⟩ := z2 one (List.mem_of_getElem? hone)
    have hT1 := Same.tup s2 hT
    have lo_b : 0 ≤ lo0 one ∧ lo0 one ≤ 5 := by
      unfold lo0
      cases e : one.getLast? with
      | none => exact ⟨Int.le_refl _, by decide⟩
      | some z =>
        have := b2 z (List.mem_of_getLast? e)
        show 0 ≤ z + 1 ∧ z + 1 ≤ 5
        omega
    have hT2 := Same.tup (hide_same _ _) hT1
    refine ⟨_, rfl, b, _, rfl, .inr hT2, _, _, rfl, rfl, _, rfl, ?_⟩
    refine read_lo rfl hT2 ?_
    refine ⟨_, rfl, lo0 one, 5, rfl, ⟨by omega, by omega, by decide, by decide⟩, for_range (lo := lo0 one) (n := (5 - lo0 one).toNat) (fun j σ H' => Same H1 (hide [L] H') ∧ ∃ (zs : List V) (v6 : Option V), σ = [some (.int 5), some (.int 2), some (.ref f), some (.int (0 + (t : Int))), some (.ref L), some (.ref b), v6] ∧ H' L = some (.lst zs) ∧ Rs K (hide [L] H') zs (((setsL 5 t).take i).flatMap (ext 5) ++ (ext 5 one).take j) ∧ zs.length ≤ i * 10 + j)
      ⟨s2, zs, v6, rfl, hL2, by rw [List.take_zero, List.append_nil]; exact hZ, lz⟩ ?_ ?_⟩
    · rintro j σ H3 hj ⟨s3, zs, v6, rfl, hL3, hZ3, lz3⟩
      have eg := ext_get hj
      have hT3 : SqT K H3 b (Ints one) := Same.tup (s3.trans (hide_same _ _)) hT
      refine ⟨_, rfl, .inl ⟨rfl, _, SqL.of hL3⟩, ?_⟩
      have fin : ∀ q H4, Same H3 H4 → H3 q = none → H4 q = some (.tup (Ints (one ++ [lo0 one + (j : Int)]))) → ∃ l xs y, V.ref L = .ref l ∧ [V.ref q] = [y] ∧ H4 l = some (.lst xs) ∧ xs.length < sizeLine ∧
          (Same H1 (hide [L] (upd H4 l (.lst (xs ++ [y])))) ∧ ∃ (zs : List V) (v6 : Option V), [some (V.int 5), some (.int 2), some (.ref f), some (.int (0 + (t : Int))), some (.ref L), some (.ref b), some (.int (lo0 one + (j : Int)))] = [some (.int 5), some (.int 2), some (.ref f), some (.int (0 + (t : Int))), some (.ref L), some (.ref b), v6] ∧ (upd H4 l (.lst (xs ++ [y]))) L = some (.lst zs) ∧ Rs K (hide [L] (upd H4 l (.lst (xs ++ [y])))) zs (((setsL 5 t).take i).flatMap (ext 5) ++ (ext 5 one).take (j + 1)) ∧ zs.length ≤ i * 10 + (j + 1)) := by
        intro q H4 s4 hq0 hq
        have nq : q ≠ L := fun z => ne_of_none hL3 hq0 z.symm
        have st : Same (hide [L] H3) (hide [L] (upd H4 L (.lst (zs ++ [.ref q])))) := (hide_step s4).trans (hide_upd List.mem_cons_self)
        refine ⟨L, zs, _, rfl, rfl, s4 _ _ hL3, fitsL (by omega), s3.trans st, zs ++ [.ref q], _, rfl, upd_same, ?_, by rw [List.length_append]; show zs.length + 1 ≤ _; omega⟩
        rw [take_more eg, ← List.append_assoc]
        refine snoc (hZ3.same st) ⟨q, rfl, SqT.of (hide_in.mpr ⟨fun z => nq (List.mem_singleton.mp z), ?_⟩)⟩
        rw [upd_ne nq]
        exact hq
      refine ⟨_, rfl, _, rfl, fits (by show 1 ≤ 100000; decide), fun p hp => ?_⟩
      have sp := same_new hp (.tup [V.int (lo0 one + (j : Int))])
      refine ⟨b, p, Ints one, [V.int (lo0 one + (j : Int))], rfl, rfl, Same.tup sp hT3, SqT.of upd_same, fits (by rw [List.length_map]; show one.length + 1 ≤ 100000; omega), fun e => ?_, fun _ e => absurd e (by simp), fun _ _ q hq => ?_⟩
      · have e1 : one = [] := List.map_eq_nil_iff.mp e
        refine fin p _ sp hp ?_
        rw [upd_same, ← ints_snoc, e1]
        rfl
      · refine fin q _ (sp.trans (same_new hq _)) ?_ ?_
        · exact sp.free hq
        · rw [upd_same, ← ints_snoc]
    · rintro σ H3 ⟨s3, zs, v6, rfl, hL3, hZ3, lz3⟩
      refine ⟨s3, zs, _, v6, rfl, hL3, ?_, by omega⟩
      rw [take_more hone, List.flatMap_append, List.flatMap_singleton]
      rw [← ext_len, List.take_length] at hZ3
      exact hZ3
  · rintro σ H2 ⟨s2, zs, v5, v6, rfl, hL2, hZ, lz⟩
    refine ⟨_, rfl, s1.trans (s2.trans (hide_same _ _)), L, zs, some (.int (0 + (t : Int))), some (.ref L), v5, v6, rfl, hL2, ?_⟩
    have e : (setsL 5 t).take ys.length = setsL 5 t := by rw [hR.length, List.take_length]
    rw [e] at hZ
    exact hZ.same (hide_same _ _)
end
end K5
set_option Elab.async false
set_option linter.all false
set_option maxRecDepth 100000
set_option maxHeartbeats 16000000
/-! The law's tables, walked. -/
namespace K5
open PySem PySem.Spec PyProof.Rows L2
/-- refs to lists of ints -/
abbrev RsL (K : PySem.W.Frag) (H : Hp) : List V → List (List Int) → Prop := Paired fun v ns => ∃ b, v = .ref b ∧ SqL K H b (Ints ns)
theorem RsL.same {K : PySem.W.Frag} {H H' : Hp} {xs : List V} {rows : List (List Int)} (e : Same H H') (h : RsL K H xs rows) : RsL K H' xs rows :=
  Paired.mapP h fun v ns ⟨b, q, r⟩ => ⟨b, q, Same.seq e r⟩
theorem RsL.get {K : PySem.W.Frag} {H : Hp} : ∀ {xs : List V} {rows : List (List Int)} {i : Nat} {ns : List Int}, RsL K H xs rows → rows[i]? = some ns → ∃ b, xs[i]? = some (.ref b) ∧ SqL K H b (Ints ns)
  | _, _, _, _, .nil, e => by simp at e
  | _, _, 0, _, .cons r _, e => by
    simp at e
    subst e
    obtain ⟨b, q, r⟩ := r
    subst q
    exact ⟨b, rfl, r⟩
  | _, _, i + 1, ns, .cons _ t, e => by
    obtain ⟨b, h1, h2⟩ := RsL.get (i := i) (ns := ns) t (by simpa using e)
    exact ⟨b, by simpa using h1, h2⟩
theorem set_get {σ : L2.St} {i : Nat} {x : Option V} (h : i < σ.length) : (σ.set i x)[i]? = some x := List.getElem?_set_self h
theorem set_get_ne {σ : L2.St} {i j : Nat} {x : Option V} (h : i ≠ j) : (σ.set i x)[j]? = σ[j]? := List.getElem?_set_ne h
/-- a row of ints, laid by a comprehension over range(n) -/
theorem read_row {K : PySem.W.Frag} {te : TE} {n k : Nat} {g : Nat → Int} {σ : L2.St} {H : Hp} {Q : VK} (hn : n ≤ 24) (hk : k < σ.length)
    (hte : ∀ (j : Nat) (v : V) H Q, j < n → v = .int (j : Int) → (∀ H', Same H H' → Q (.int (g j)) H') → te ((wipe σ [k]).set k (some v)) H Q)
    (q : ∀ b H', Same H H' → H b = none → H' b = some (.lst (Ints ((List.range n).map g))) → Q (.ref b) H') :
    tLc (iRng1 (tCons (tC (.int (n : Int))) tNil)) (gName k) tYes te [k] σ H Q := by
  refine ⟨(n : Int), rfl, by omega, by omega, fun D hD => lc_range (lo := 0) (n := n) (fun j H' => Same H H' ∧ H' D = some (.lst (Ints (((List.range n).map g).take j)))) ⟨same_new hD _, upd_same⟩ ?_ ?_⟩
  · rintro j H1 hj ⟨s1, hD1⟩
    refine ⟨?_, yes (iteT ?_)⟩
    · show ((σ.set k none).set k _).set k none = σ.set k none
      rw [List.set_set, List.set_set]
    refine hte j _ H1 _ hj (by rw [Int.zero_add]) fun H2 s2 => ⟨_, s2 _ _ hD1, fitsL (by rw [List.length_map, List.length_take]; omega), fun c o e => ?_, ?_⟩
    · rw [upd_ne (ne_of_none e hD)]
      exact s2 _ _ (s1 c o e)
    · rw [upd_same, ints_snoc, take_more (x := g j) (by rw [List.getElem?_map, List.getElem?_range hj]; rfl)]
  · rintro H1 ⟨s1, hD1⟩
    rw [List.take_of_length_le (by rw [List.length_map, List.length_range]; exact Nat.le_refl _)] at hD1
    exact q D H1 s1 hD hD1
/-- .. a row of rows -/
theorem read_tbl {K : PySem.W.Frag} {te : TE} {n : Nat} {f : Nat → Nat → Int} {σ : L2.St} {H : Hp} {Q : VK} (hn : n ≤ 24) (hs : σ.length = 8)
    (hte : ∀ (σ' : L2.St) (r c : Nat) H Q, r < n → c < n → σ'[3]? = some (some (.int (r : Int))) → σ'[5]? = some (some (.int (c : Int))) → (∀ H', Same H H' → Q (.int (f r c)) H') → te σ' H Q)
    (q : ∀ b ys H', Same H H' → H' b = some (.lst ys) → RsL K H' ys (tbl n f) → Q (.ref b) H') :
    tLc (iRng1 (tCons (tC (.int (n : Int))) tNil)) (gName 3) tYes (tLc (iRng1 (tCons (tC (.int (n : Int))) tNil)) (gName 5) tYes te [5]) [3] σ H Q := by
  refine ⟨(n : Int), rfl, by omega, by omega, fun D hD => lc_range (lo := 0) (n := n) (fun r H' => Same H (hide [D] H') ∧ ∃ ys, H' D = some (.lst ys) ∧ RsL K (hide [D] H') ys ((tbl n f).take r)) ⟨hide_one (same_new hD _) hD, [], upd_same, .nil⟩ ?_ ?_⟩
  · rintro r H1 hr ⟨s1, ys, hD1, hR⟩
    have ly : ys.length = r := by rw [hR.length, List.length_take]; unfold tbl; rw [List.length_map, List.length_range]; omega
    refine ⟨?_, yes (iteT ?_)⟩
    · show ((σ.set 3 none).set 3 _).set 3 none = σ.set 3 none
      rw [List.set_set, List.set_set]
    refine read_row (K := K) (g := fun c => f r c) hn (by show 5 < ((σ.set 3 none).set 3 _).length; rw [List.length_set, List.length_set, hs]; decide) (fun c v H2 Q2 hc ev q2 => ?_) fun b H2 s2 hb0 hb => ?_
    · refine hte _ r c H2 Q2 hr hc ?_ ?_ q2
      · show ((((σ.set 3 none).set 3 (some (V.int (0 + (r : Int))))).set 5 none).set 5 (some v))[3]? = _
        rw [set_get_ne (by decide), set_get_ne (by decide), set_get (by rw [List.length_set, hs]; decide), Int.zero_add]
      · show ((((σ.set 3 none).set 3 (some (V.int (0 + (r : Int))))).set 5 none).set 5 (some v))[5]? = _
        rw [set_get (by rw [List.length_set, List.length_set, List.length_set, hs]; decide), ev]
    · have nb : b ≠ D := fun z => ne_of_none hD1 hb0 z.symm
      have st : Same (hide [D] H1) (hide [D] (upd H2 D (.lst (ys ++ [.ref b])))) := (hide_step s2).trans (hide_upd List.mem_cons_self)
      refine ⟨ys, s2 _ _ hD1, fitsL (by omega), s1.trans st, _, upd_same, ?_⟩
      rw [take_more (x := (List.range n).map fun c => f r c) (by unfold tbl; rw [List.getElem?_map, List.getElem?_range hr]; rfl)]
      refine snoc (hR.same st) ⟨b, rfl, SqL.of (hide_in.mpr ⟨fun z => nb (List.mem_singleton.mp z), ?_⟩)⟩
      rw [upd_ne nb]
      exact hb
  · rintro H1 ⟨s1, ys, hD1, hR⟩
    rw [List.take_of_length_le (by unfold tbl; rw [List.length_map, List.length_range]; exact Nat.le_refl _)] at hR
    exact q D ys H1 (s1.trans (hide_same _ _)) hD1 (hR.same (hide_same _ _))
theorem at_getD {l : List Int} {x : Int} (h0 : 0 ≤ x) (h1 : x < l.length) : atI (Ints l) x = some (.int (l.getD x.toNat 0)) := by
  have hl : x.toNat < l.length := by omega
  refine at_of (j := x.toNat) (by omega) ?_
  rw [List.getElem?_map, List.getD_eq_getElem?_getD, List.getElem?_eq_getElem hl]
  rfl
def spLrows (K : PySem.W.Frag) : Sp := fun vs H Q _ => ∃ z : Int, vs = [.int z] ∧ ∀ b ys rows H', Same H H' → H' b = some (.lst ys) → RsL K H' ys rows → rows ∈ tables → Q (.ref b) H'
abbrev scR : Scope := { kind := .function, names := [(".0", .local), ("_law_r", .cell), ("range", .globalImplicit)], isGenerator := false, isCoroutine := false, more := [] }
abbrev scOne : Scope := { kind := .function, names := [(".0", .local), ("_law_one", .cell), ("_law_pairs", .cell)], isGenerator := false, isCoroutine := false, more := [] }
abbrev scOther : Scope := { kind := .function, names := [(".0", .local), ("_law_other", .cell), ("len", .globalImplicit), ("_law_one", .cell)], isGenerator := false, isCoroutine := false, more := [] }
def rInt1 : List V → Hp → VK → Prop := fun xs H Q => (∃ i, xs = [V.int i] ∧ Q (V.int i) H) ∨ ∃ k, xs = [V.bl k] ∧ Q (V.int (if k then 1 else 0)) H
theorem call_int1N {X : Cx} : CallR X (.type "int") rInt1 := call_int1
section
variable {P : Program} {w : World} {K : PySem.W.Frag} {mg : Str → Option Value} {base : Heap}
theorem ok_Lrows (T : Txt w K mg) : FnOk P w K mg base CX0 2 T.a_Lrows T.d_Lrows p_Lrows (spLrows K) := by
  have FS := ok_Lsets (P := P) (base := base) T
  refine T.F_Lrows.ok sc_Lrows (fun vs H Q E h => ?_) (fun cdv A outer s H vs Q E hr h => ?_)
  · obtain ⟨_, rfl, _⟩ := h
    rfl
  obtain ⟨z, rfl, k⟩ := h
  have nd := sc_Lrows.nd
  refine ⟨_, pss_cons (ps_set (i := 1) nd rfl (.inl rfl) (pe_op op_mod (pe_callTy call_int1 (by rfl) T.z_int PyProof.Rows.boot_int (pa_cons (pv 0) pa_nil)) pe_int))
    (pss_cons (ps_if (pt_cmpR op_eq (pv 1) pe_int (nomark _)) (pss_one (ps_ret (pe_lst (pa_cons (pe_lst (pa_cons pe_int pa_nil)) pa_nil)))) pss_nil)
    (pss_cons (ps_if (pt_cmpR op_eq (pv 1) pe_int (nomark _)) (pss_one (ps_ret (pe_lc (own := [("_law_r", 3)]) (g := gName 3) (tt := tYes) rfl nd (pi_range1 rfl T.z_range (pa_cons pe_int pa_nil)) (blkOk_by (N := n_Lrows) (sc := defScope s_Lrows) (by decide +kernel)) (fun _ _ _ _ _ => pg_name (i := 3) nd rfl (Or.inr rfl)) (fun _ _ _ _ _ => pts_nil)
        (fun _ _ _ _ _ => pe_lc (own := [("_law_c", 5)]) (g := gName 5) (tt := tYes) rfl nd (pi_range1 rfl T.z_range (pa_cons pe_int pa_nil)) (blkOk_by (N := n_Lrows) (sc := scR) (by decide +kernel)) (fun _ _ _ _ _ => pg_name (i := 5) nd rfl (Or.inl rfl)) (fun _ _ _ _ _ => pts_nil)
          (fun _ _ _ _ _ => pe_callTy call_int1N (by rfl) T.z_int PyProof.Rows.boot_int (pa_cons (pe_cmpR op_ne (pv 3) (pv 5) (nomark _)) pa_nil)))))) pss_nil)
    (pss_cons (ps_if (pt_cmpR op_eq (pv 1) pe_int (nomark _)) (pss_one (ps_ret (pe_lc (own := [("_law_r", 3)]) (g := gName 3) (tt := tYes) rfl nd (pi_range1 rfl T.z_range (pa_cons pe_int pa_nil)) (blkOk_by (N := n_Lrows) (sc := defScope s_Lrows) (by decide +kernel)) (fun _ _ _ _ _ => pg_name (i := 3) nd rfl (Or.inr rfl)) (fun _ _ _ _ _ => pts_nil)
        (fun _ _ _ _ _ => pe_lc (own := [("_law_c", 5)]) (g := gName 5) (tt := tYes) rfl nd (pi_range1 rfl T.z_range (pa_cons pe_int pa_nil)) (blkOk_by (N := n_Lrows) (sc := scR) (by decide +kernel)) (fun _ _ _ _ _ => pg_name (i := 5) nd rfl (Or.inl rfl)) (fun _ _ _ _ _ => pts_nil)
          (fun _ _ _ _ _ => pe_ifExp (pt_cmpR op_eq (pv 3) (pv 5) (nomark _)) pe_int (pe_op op_add pe_int (pe_callTy call_int1N (by rfl) T.z_int PyProof.Rows.boot_int (pa_cons (pe_cmpR op_eq (pe_op op_fdiv (pv 3) pe_int) (pe_op op_fdiv (pv 5) pe_int) (nomark _)) pa_nil)))))))) pss_nil)
    (pss_cons (ps_if (pt_cmpR op_eq (pv 1) pe_int (nomark _)) (pss_one (ps_ret (pe_lc (own := [("_law_r", 3)]) (g := gName 3) (tt := tYes) (te := tLc (iRng1 (tCons (tC (.int 6)) tNil)) (gName 5) tYes (tOp (rIxT K) (tTup (tCons (tC (.int 0)) (tCons (tC (.int 1)) (tCons (tC (.int 2)) (tCons (tC (.int 3)) (tCons (tC (.int 2)) (tCons (tC (.int 1)) tNil))))))) (tOp (rI (fun _ j => 0 < j) fun i j => .int (i % j)) (tCB rInt1 (tCons (tOp (rI0 fun i j => .int (i - j)) (tVar 3) (tVar 5)) tNil)) (tC (.int 6)))) [5]) rfl nd (pi_range1 rfl T.z_range (pa_cons pe_int pa_nil)) (blkOk_by (N := n_Lrows) (sc := defScope s_Lrows) (by decide +kernel)) (fun _ _ _ _ _ => pg_name (i := 3) nd rfl (Or.inr rfl)) (fun _ _ _ _ _ => pts_nil)
        (fun _ _ _ _ _ => pe_lc (own := [("_law_c", 5)]) (g := gName 5) (tt := tYes) rfl nd (pi_range1 rfl T.z_range (pa_cons pe_int pa_nil)) (blkOk_by (N := n_Lrows) (sc := scR) (by decide +kernel)) (fun _ _ _ _ _ => pg_name (i := 5) nd rfl (Or.inl rfl)) (fun _ _ _ _ _ => pts_nil)
          (fun _ _ _ _ _ => pe_ix ix_tup (pe_tup (pa_cons pe_int (pa_cons pe_int (pa_cons pe_int (pa_cons pe_int (pa_cons pe_int (pa_cons pe_int pa_nil))))))) (pe_op op_mod (pe_callTy call_int1N (by rfl) T.z_int PyProof.Rows.boot_int (pa_cons (pe_op op_sub (pv 3) (pv 5)) pa_nil)) pe_int) (fun _ _ => rfl)))))) pss_nil)
    (pss_cons (ps_if (pt_cmpR op_eq (pv 1) pe_int (nomark _)) (pss_one (ps_ret (pe_lc (own := [("_law_r", 3)]) (g := gName 3) (tt := tYes) (te := tLc (iRng1 (tCons (tC (.int 5)) tNil)) (gName 5) tYes (tOp (rIxT K) (tTup (tCons (tC (.int 0)) (tCons (tC (.int 1)) (tCons (tC (.int 2)) (tCons (tC (.int 2)) (tCons (tC (.int 1)) tNil)))))) (tOp (rI (fun _ j => 0 < j) fun i j => .int (i % j)) (tCB rInt1 (tCons (tOp (rI0 fun i j => .int (i - j)) (tVar 3) (tVar 5)) tNil)) (tC (.int 5)))) [5]) rfl nd (pi_range1 rfl T.z_range (pa_cons pe_int pa_nil)) (blkOk_by (N := n_Lrows) (sc := defScope s_Lrows) (by decide +kernel)) (fun _ _ _ _ _ => pg_name (i := 3) nd rfl (Or.inr rfl)) (fun _ _ _ _ _ => pts_nil)
        (fun _ _ _ _ _ => pe_lc (own := [("_law_c", 5)]) (g := gName 5) (tt := tYes) rfl nd (pi_range1 rfl T.z_range (pa_cons pe_int pa_nil)) (blkOk_by (N := n_Lrows) (sc := scR) (by decide +kernel)) (fun _ _ _ _ _ => pg_name (i := 5) nd rfl (Or.inl rfl)) (fun _ _ _ _ _ => pts_nil)
          (fun _ _ _ _ _ => pe_ix ix_tup (pe_tup (pa_cons pe_int (pa_cons pe_int (pa_cons pe_int (pa_cons pe_int (pa_cons pe_int pa_nil)))))) (pe_op op_mod (pe_callTy call_int1N (by rfl) T.z_int PyProof.Rows.boot_int (pa_cons (pe_op op_sub (pv 3) (pv 5)) pa_nil)) pe_int) (fun _ _ => rfl)))))) pss_nil)
    (pss_cons (ps_if (pt_cmpR op_eq (pv 1) pe_int (nomark _)) (pss_one (ps_ret (pe_lc (own := [("_law_r", 3)]) (g := gName 3) (tt := tYes) rfl nd (pi_range1 rfl T.z_range (pa_cons pe_int pa_nil)) (blkOk_by (N := n_Lrows) (sc := defScope s_Lrows) (by decide +kernel)) (fun _ _ _ _ _ => pg_name (i := 3) nd rfl (Or.inr rfl)) (fun _ _ _ _ _ => pts_nil)
        (fun _ _ _ _ _ => pe_lc (own := [("_law_c", 5)]) (g := gName 5) (tt := tYes) rfl nd (pi_range1 rfl T.z_range (pa_cons pe_int pa_nil)) (blkOk_by (N := n_Lrows) (sc := scR) (by decide +kernel)) (fun _ _ _ _ _ => pg_name (i := 5) nd rfl (Or.inl rfl)) (fun _ _ _ _ _ => pts_nil)
          (fun _ _ _ _ _ => pe_op op_add (pe_callTy call_int1N (by rfl) T.z_int PyProof.Rows.boot_int (pa_cons (pe_cmpR op_ne (pe_op op_fdiv (pv 3) pe_int) (pe_op op_fdiv (pv 5) pe_int) (nomark _)) pa_nil))
            (pe_callTy call_int1N (by rfl) T.z_int PyProof.Rows.boot_int (pa_cons (pe_cmpR op_ne (pe_op op_mod (pe_callTy call_int1N (by rfl) T.z_int PyProof.Rows.boot_int (pa_cons (pv 3) pa_nil)) pe_int) (pe_op op_mod (pe_callTy call_int1N (by rfl) T.z_int PyProof.Rows.boot_int (pa_cons (pv 5) pa_nil)) pe_int) (nomark _)) pa_nil))))))) pss_nil)
    (pss_cons (ps_if (pt_cmpR op_eq (pv 1) pe_int (nomark _))
      (pss_cons (ps_set (i := 2) nd rfl (.inr rfl) (pe_call FS hr rfl T.m_Lsets T.k_Lsets T.b_Lsets .nil pass0 (pa_cons pe_int (pa_cons pe_int pa_nil))))
        (pss_one (ps_ret (pe_lc (own := [("_law_one", 4)]) (g := gName 4) (tt := tYes)
          (te := tLc (iList K (tVar 2)) (gName 6) tYes (tOp (rI0 fun i j => .int (i - j)) (tC (.int 2)) (tCB (rLenN K) (tCons (tLc (iTup K (tVar 4)) (gName 7) (tTest (tOp (rIn K false) (tVar 7) (tVar 6))) (tVar 7) [7]) tNil))) [6])
          rfl nd (pi_list (pv 2)) (blkOk_by (N := n_Lrows) (sc := defScope s_Lrows) (by decide +kernel)) (fun _ _ _ _ _ => pg_name (i := 4) nd rfl (Or.inr rfl)) (fun _ _ _ _ _ => pts_nil)
          (fun _ _ _ _ _ => pe_lc (own := [("_law_other", 6)]) (g := gName 6) (tt := tYes) rfl nd (pi_list (pv 2)) (blkOk_by (N := n_Lrows) (sc := scOne) (by decide +kernel)) (fun _ _ _ _ _ => pg_name (i := 6) nd rfl (Or.inr rfl)) (fun _ _ _ _ _ => pts_nil)
            (fun _ _ _ _ _ => pe_op op_sub pe_int (pe_callB call_lenN (by rfl) T.z_len PySem.boot_len (pa_cons
              (pe_lc (own := [("_law_x", 7)]) (g := gName 7) (tt := tTest (tOp (rIn K false) (tVar 7) (tVar 6))) (te := tVar 7) rfl nd (pi_tup (pv 4)) (blkOk_by (N := n_Lrows) (sc := scOther) (by decide +kernel)) (fun _ _ _ _ _ => pg_name (i := 7) nd rfl (Or.inl rfl)) (fun _ _ _ _ _ => pts_one (pt_cmpR op_in_seq (pv 7) (pv 6) (by with_unfolding_all rfl))) (fun _ _ _ _ _ => pv 7)) pa_nil)))))))) pss_nil)
    (pss_one (ps_ret (pe_lc (own := [("_law_r", 3)]) (g := gName 3) (tt := tYes) rfl nd (pi_range1 rfl T.z_range (pa_cons pe_int pa_nil)) (blkOk_by (N := n_Lrows) (sc := defScope s_Lrows) (by decide +kernel)) (fun _ _ _ _ _ => pg_name (i := 3) nd rfl (Or.inr rfl)) (fun _ _ _ _ _ => pts_nil)
        (fun _ _ _ _ _ => pe_lc (own := [("_law_c", 5)]) (g := gName 5) (tt := tYes) rfl nd (pi_range1 rfl T.z_range (pa_cons pe_int pa_nil)) (blkOk_by (N := n_Lrows) (sc := scR) (by decide +kernel)) (fun _ _ _ _ _ => pg_name (i := 5) nd rfl (Or.inl rfl)) (fun _ _ _ _ _ => pts_nil)
          (fun _ _ _ _ _ => pe_ifExp (pt_cmpR op_eq (pv 3) (pv 5) (nomark _)) pe_int (pe_op op_add pe_int (pe_callTy call_int1N (by rfl) T.z_int PyProof.Rows.boot_int (pa_cons (pe_cmpR op_eq (pe_op op_mod (pe_callTy call_int1N (by rfl) T.z_int PyProof.Rows.boot_int (pa_cons (pe_op op_add (pv 3) (pv 5)) pa_nil)) pe_int) pe_int (nomark _)) pa_nil))))))))))))))), ?_⟩
  refine ⟨_, rfl, .inl ⟨_, rfl, _, _, rfl, rfl, (show (0 : Int) < 8 by decide), ?_⟩⟩
  have fin : ∀ {i : Nat} {rows : List (List Int)}, tables[i]? = some rows → ∀ b ys H', Same H H' → H' b = some (.lst ys) → RsL K H' ys rows → Q (.ref b) H' := fun h b ys H' s1 hb hR => k b ys _ H' s1 hb hR (List.mem_of_getElem? h)
  -- 0
  refine ⟨_, rfl, rfl, _, rfl, ite2 (fun _ => ?_) fun _ => ?_⟩
  · refine ⟨fits (by show 1 ≤ 100000; decide), fun a ha => ⟨fits (by show 1 ≤ 100000; decide), fun b hb => ?_⟩⟩
    exact fin (i := 0) rfl b _ _ ((same_new ha _).trans (same_new hb _)) upd_same (.cons ⟨a, rfl, SqL.of (by rw [upd_ne (ne_of_none upd_same hb)]; exact upd_same)⟩ .nil)
  -- 1
  refine ⟨_, rfl, rfl, _, rfl, ite2 (fun _ => ?_) fun _ => ?_⟩
  · refine read_tbl (K := K) (n := 4) (f := f1) (by decide) rfl (fun σ' r c H2 Q2 hr hc e3 e5 q2 => ?_) (fin (i := 1) rfl)
    exact ⟨_, e3, _, e5, rfl, .inr ⟨_, rfl, q2 H2 (Same.refl H2)⟩⟩
  -- 2
  refine ⟨_, rfl, rfl, _, rfl, ite2 (fun _ => ?_) fun _ => ?_⟩
  · refine read_tbl (K := K) (n := 6) (f := f2) (by decide) rfl (fun σ' r c H2 Q2 hr hc e3 e5 q2 => ?_) (fin (i := 2) rfl)
    have q3 := q2 H2 (Same.refl H2)
    unfold f2 at q3
    refine ⟨_, e3, _, e5, rfl, _, rfl, ite2 (fun g => ?_) fun g => ?_⟩
    · rw [if_pos g] at q3
      exact q3
    · rw [if_neg g] at q3
      exact ⟨_, e3, _, _, rfl, rfl, ⟨by decide, by decide⟩, _, e5, _, _, rfl, rfl, ⟨by decide, by decide⟩, rfl, .inr ⟨_, rfl, _, _, rfl, rfl, q3⟩⟩
  -- 3
  refine ⟨_, rfl, rfl, _, rfl, ite2 (fun _ => ?_) fun _ => ?_⟩
  · refine read_tbl (K := K) (n := 6) (f := f3) (by decide) rfl (fun σ' r c H2 Q2 hr hc e3 e5 q2 => ?_) (fin (i := 3) rfl)
    refine ⟨fits (by show 6 ≤ 100000; decide), fun p hp => ?_⟩
    refine ⟨_, e3, _, e5, _, _, rfl, rfl, .inl ⟨_, rfl, _, _, rfl, rfl, (show (0 : Int) < 6 by decide), p, Ints [0, 1, 2, 3, 2, 1], _, _, rfl, rfl, SqT.of upd_same, at_getD (Int.emod_nonneg _ (by decide)) (Int.emod_lt_of_pos _ (by decide)), q2 _ (same_new hp _)⟩⟩
  -- 4
  refine ⟨_, rfl, rfl, _, rfl, ite2 (fun _ => ?_) fun _ => ?_⟩
  · refine read_tbl (K := K) (n := 5) (f := f4) (by decide) rfl (fun σ' r c H2 Q2 hr hc e3 e5 q2 => ?_) (fin (i := 4) rfl)
    refine ⟨fits (by show 5 ≤ 100000; decide), fun p hp => ?_⟩
    refine ⟨_, e3, _, e5, _, _, rfl, rfl, .inl ⟨_, rfl, _, _, rfl, rfl, (show (0 : Int) < 5 by decide), p, Ints [0, 1, 2, 2, 1], _, _, rfl, rfl, SqT.of upd_same, at_getD (Int.emod_nonneg _ (by decide)) (Int.emod_lt_of_pos _ (by decide)), q2 _ (same_new hp _)⟩⟩
  -- 5
  refine ⟨_, rfl, rfl, _, rfl, ite2 (fun _ => ?_) fun _ => ?_⟩
  · refine read_tbl (K := K) (n := 9) (f := f5) (by decide) rfl (fun σ' r c H2 Q2 hr hc e3 e5 q2 => ?_) (fin (i := 5) rfl)
    have q3 := q2 H2 (Same.refl H2)
    unfold f5 at q3
    refine ⟨_, e3, _, _, rfl, rfl, ⟨by decide, by decide⟩, _, e5, _, _, rfl, rfl, ⟨by decide, by decide⟩, rfl, .inr ⟨_, rfl, ?_⟩⟩
    refine ⟨_, e3, .inl ⟨_, rfl, _, _, rfl, rfl, (show (0 : Int) < 3 by decide), _, e5, .inl ⟨_, rfl, _, _, rfl, rfl, (show (0 : Int) < 3 by decide), rfl, .inr ⟨_, rfl, _, _, rfl, rfl, q3⟩⟩⟩⟩
  -- 6
  refine ⟨_, rfl, rfl, _, rfl, ite2 (fun _ => ?_) fun _ => ?_⟩
  · refine ⟨rfl, fun pp ys H1 s1 hpp hR => ?_⟩
    have lenP : ys.length = 10 := hR.length.trans (by rw [pairs_eq]; rfl)
    have g1 : ∀ i : Nat, i < 10 → (tbl 10 f6)[i]? = some ((List.range 10).map fun c => f6 i c) := fun i hi => by unfold tbl; rw [List.getElem?_map, List.getElem?_range hi]; rfl
    have g2 : ∀ i j : Nat, j < 10 → ((List.range 10).map fun c => f6 i c)[j]? = some (f6 i j) := fun i j hj => by rw [List.getElem?_map, List.getElem?_range hj]; rfl
    refine ⟨_, rfl, pp, rfl, ⟨_, SqL.of hpp⟩, fun D hD => lc_seq (a := pp) (xs := ys) (J := Itl K pp) (fun i H' => Same H1 (hide [D] H') ∧ ∃ zs, H' D = some (.lst zs) ∧ RsL K (hide [D] H') zs ((tbl 10 f6).take i) ∧ zs.length = i)
      ⟨hide_one (same_new hD _) hD, [], upd_same, .nil, rfl⟩ (fun i H' _ ⟨s2, _⟩ => .inl ⟨rfl, SqL.of ((s2.trans (hide_same _ _)) _ _ hpp)⟩) ⟨H1, .inl ⟨rfl, SqL.of hpp⟩⟩ ?_ ?_⟩
    rotate_left
    · rintro H2 ⟨s2, zs, hD2, hZ, lz⟩
      rw [lenP] at hZ
      have e : (tbl 10 f6).take 10 = tbl 10 f6 := List.take_of_length_le (by unfold tbl; rw [List.length_map, List.length_range]; exact Nat.le_refl _)
      rw [e] at hZ
      exact fin (i := 6) rfl D zs H2 (s1.trans (s2.trans (hide_same _ _))) hD2 (hZ.same (hide_same _ _))
    rintro i x H2 hx ⟨s2, zs, hD2, hZ, lz⟩
    obtain ⟨b1, one, rfl, hone, hT1⟩ := hR.at hx
    have hi : i < 10 := by
      have := (List.getElem?_eq_some_iff.mp hx).1
      omega
    have e1 : pairs.getD i [] = one := by rw [List.getD_eq_getElem?_getD, hone]; rfl
    have s2' := s2.trans (hide_same _ _)
    refine ⟨rfl, yes (iteT ?_)⟩
    refine ⟨_, rfl, pp, rfl, ⟨_, SqL.of (s2' _ _ hpp)⟩, fun D2 hD2n => lc_seq (a := pp) (xs := ys) (J := Itl K pp) (fun j H' => Same H2 H' ∧ H' D2 = some (.lst (Ints (((List.range 10).map fun c => f6 i c).take j))))
      ⟨same_new hD2n _, upd_same⟩ (fun j H' _ ⟨s3, _⟩ => .inl ⟨rfl, SqL.of (s3 _ _ (s2' _ _ hpp))⟩) ⟨H1, .inl ⟨rfl, SqL.of hpp⟩⟩ ?_ ?_⟩
    rotate_left
    · rintro H3 ⟨s3, hD3⟩
      have e : ((List.range 10).map fun c => f6 i c).take ys.length = (List.range 10).map fun c => f6 i c := List.take_of_length_le (by rw [List.length_map, List.length_range, lenP]; exact Nat.le_refl _)
      rw [e] at hD3
      have nb : D2 ≠ D := fun z => ne_of_none hD2 hD2n z.symm
      have st : Same (hide [D] H2) (hide [D] (upd H3 D (.lst (zs ++ [.ref D2])))) := (hide_step s3).trans (hide_upd List.mem_cons_self)
      refine ⟨zs, s3 _ _ hD2, fitsL (by omega), s2.trans st, _, upd_same, ?_, by rw [List.length_append, lz]; rfl⟩
      rw [take_more (g1 i hi)]
      refine snoc (hZ.same st) ⟨D2, rfl, SqL.of (hide_in.mpr ⟨fun z => nb (List.mem_singleton.mp z), ?_⟩)⟩
      rw [upd_ne nb]
      exact hD3
    rintro j y H3 hy ⟨s3, hD3⟩
    obtain ⟨b2, other, rfl, hother, hT2⟩ := hR.at hy
    have hj : j < 10 := by
      have := (List.getElem?_eq_some_iff.mp hy).1
      omega
    have e2 : pairs.getD j [] = other := by rw [List.getD_eq_getElem?_getD, hother]; rfl
    have hT1' := Same.tup (s2'.trans s3) hT1
    have hT2' := Same.tup (s2'.trans s3) hT2
    have lone : one.length ≤ 2 := ((sets_small 2 (Nat.le_refl _)).2 one (List.mem_of_getElem? hone)).1
    refine ⟨rfl, yes (iteT ?_)⟩
    refine ⟨_, rfl, b1, rfl, ⟨_, hT1'⟩, fun D3 hD3n => lc_seq (a := b1) (xs := Ints one) (J := Itt K b1) (fun l H' => Same H3 H' ∧ H' D3 = some (.lst (Ints ((one.take l).filter fun x => inV (.int x) (Ints other)))))
      ⟨same_new hD3n _, upd_same⟩ (fun l H' _ ⟨s4, _⟩ => .inr ⟨rfl, Same.tup s4 hT1'⟩) ⟨H3, .inr ⟨rfl, hT1'⟩⟩ ?_ ?_⟩
    · rintro l v H4 hv ⟨s4, hD4⟩
      obtain ⟨u, hu, rfl⟩ := item_of hv
      have hl2 := (List.getElem?_eq_some_iff.mp hu).1
      refine ⟨rfl, _, rfl, _, rfl, b2, Ints other, rfl, .inr (Same.tup s4 hT2'), rfl, by simp [flatV], _, rfl, ?_⟩
      show if inV (.int u) (Ints other) = true then _ else _
      have ef : (one.take (l + 1)).filter (fun x => inV (.int x) (Ints other)) = (one.take l).filter (fun x => inV (.int x) (Ints other)) ++ (if inV (.int u) (Ints other) = true then [u] else []) := by
        rw [take_more hu, List.filter_append]
        congr 1
        by_cases z : inV (.int u) (Ints other) = true
        · rw [if_pos z]; simp [z]
        · rw [if_neg z]; simp [z]
      refine ite2 (fun z => ?_) fun z => ?_
      · refine ⟨_, rfl, _, hD4, fitsL (by rw [List.length_map]; have := List.length_filter_le (fun x => inV (.int x) (Ints other)) (one.take l); rw [List.length_take] at this; omega), fun c o e => ?_, ?_⟩
        · rw [upd_ne (ne_of_none e hD3n)]
          exact s4 c o e
        · rw [upd_same, ints_snoc, ef, if_pos z]
      · refine ⟨s4, ?_⟩
        rw [ef, if_neg z, List.append_nil]
        exact hD4
    · rintro H4 ⟨s4, hD4⟩
      have et : one.take (Ints one).length = one := by rw [List.length_map, List.take_length]
      rw [et] at hD4
      refine ⟨D3, _, rfl, .inl (SqL.of hD4), _, _, rfl, rfl, _, s4 _ _ hD3, fitsL (by rw [List.length_map, List.length_take]; omega), fun c o e => ?_, ?_⟩
      · rw [upd_ne (ne_of_none e hD2n)]
        exact s4 _ _ (s3 c o e)
      · have ef6 : f6 i j = 2 - ((Ints (one.filter fun x => inV (.int x) (Ints other))).length : Int) := by
          unfold f6 both
          rw [e1, e2, List.length_map]
        rw [upd_same, take_more (g2 i j hj), ← ints_snoc, ef6]
  -- 7
  refine read_tbl (K := K) (n := 4) (f := f7) (by decide) rfl (fun σ' r c H2 Q2 hr hc e3 e5 q2 => ?_) (fin (i := 7) rfl)
  have q3 := q2 H2 (Same.refl H2)
  unfold f7 at q3
  refine ⟨_, e3, _, e5, rfl, _, rfl, ite2 (fun g => ?_) fun g => ?_⟩
  · rw [if_pos g] at q3
    exact q3
  · rw [if_neg g] at q3
    exact ⟨_, e3, _, e5, _, _, rfl, rfl, .inl ⟨_, rfl, _, _, rfl, rfl, (show (0 : Int) < 2 by decide), rfl, .inr ⟨_, rfl, _, _, rfl, rfl, q3⟩⟩⟩
end
end K5
set_option Elab.async false
set_option linter.all false
set_option maxRecDepth 100000
set_option maxHeartbeats 16000000
/-! _law_listed. -/
namespace K5
open PySem PySem.Spec PyProof.Rows L2
theorem erase_perm {α : Type} : ∀ {l : List α} {k : Nat} {y : α}, l[k]? = some y → (y :: l.eraseIdx k).Perm l
  | [], _, _, h => by simp at h
  | a :: l, 0, y, h => by
    have : a = y := by simpa using h
    subst this
    exact List.Perm.refl _
  | a :: l, k + 1, y, h => by
    have ih := erase_perm (l := l) (k := k) (y := y) (by simpa using h)
    exact (List.Perm.swap a y _).trans (ih.cons a)
theorem map_erase {α β : Type} (f : α → β) : ∀ (l : List α) (k : Nat), (l.map f).eraseIdx k = (l.eraseIdx k).map f
  | [], _ => rfl
  | _ :: _, 0 => rfl
  | a :: l, k + 1 => by
    show f a :: (l.map f).eraseIdx k = f a :: (l.eraseIdx k).map f
    rw [map_erase f l k]
/-- places as ints -/
abbrev Nts (ns : List Nat) : List V := ns.map fun (n : Nat) => V.int (n : Int)
theorem nts_snoc (ns : List Nat) (z : Nat) : Nts ns ++ [V.int (z : Int)] = Nts (ns ++ [z]) := by
  unfold Nts
  rw [List.map_append]
  rfl
def spLlisted (K : PySem.W.Frag) : Sp := fun vs H Q _ => ∃ (N : Addr) (ns : List Int) (k : Nat), vs = [.ref N, .int (k : Int)] ∧ SqL K H N (Ints ns) ∧ k + 11 ≤ ns.length ∧ ∀ x rows H', Same H H' → TreeT K H' (.listed rows) x → Lsd rows → Q x H'
abbrev scR2 : Scope := { kind := .function, names := [(".0", .local), ("_law_r", .cell), ("tuple", .globalImplicit), ("_law_names", .cell), ("_law_rows_here", .cell)], isGenerator := false, isCoroutine := false, more := [] }
section
variable {P : Program} {w : World} {K : PySem.W.Frag} {mg : Str → Option Value} {base : Heap}
theorem ok_Llisted (T : Txt w K mg) : FnOk P w K mg base CX0 3 T.a_Llisted T.d_Llisted p_Llisted (spLlisted K) := by
  have FR := ok_Lrows (P := P) (base := base) T
  refine T.F_Llisted.ok sc_Llisted (fun vs H Q E h => ?_) (fun cdv A outer s H vs Q E hr h => ?_)
  · obtain ⟨_, _, _, rfl, _⟩ := h
    rfl
  obtain ⟨N, ns, a, rfl, hN, hlen, kont⟩ := h
  have nd := sc_Llisted.nd
  refine ⟨_, pss_cons (ps_set (i := 2) nd rfl (.inr rfl) (pe_call FR hr rfl T.m_Lrows T.k_Lrows T.b_Lrows .nil pass0 (pa_cons (pe_ix ix_list (pv 0) (pv 1) (fun _ _ => rfl)) pa_nil)))
    (pss_cons (ps_set (i := 3) nd rfl (.inl rfl) (pe_listRg rfl (by rfl) T.z_list (prg_1 (by rfl) T.z_range (pe_callB call_len_seq (by rfl) T.z_len PySem.boot_len (pa_cons (pv 2) pa_nil)))))
    (pss_cons (ps_set (i := 4) nd rfl (.inr rfl) (pe_lst pa_nil))
    (pss_cons (ps_for PassesOwn.never rfl (pi_range1 rfl T.z_range (pa_cons (pe_callB call_len_seq (by rfl) T.z_len PySem.boot_len (pa_cons (pv 2) pa_nil)) pa_nil)) (pg_name (i := 5) nd rfl (.inl rfl))
      (pss_one (ps_expr (pe_bm PySem.F.plainAttrs_list PySem.F.slot_list_append PySem.F.type_list_append mt_append (pv 4) (pa_cons
        (pe_bm PySem.F.plainAttrs_list PySem.F.slot_list_pop PySem.F.type_list_pop mt_popAt (pv 3) (pa_cons (pe_op op_mod (pe_callTy call_int1 (by rfl) T.z_int PyProof.Rows.boot_int (pa_cons (pe_ix ix_list (pv 0) (pe_op op_add (pe_op op_add (pv 1) pe_int) (pv 5)) (fun _ _ => rfl)) pa_nil))
          (pe_callB call_len_seq (by rfl) T.z_len PySem.boot_len (pa_cons (pv 3) pa_nil))) pa_nil)) pa_nil)))))
    (pss_one (ps_ret (pe_tup (pa_cons pe_str (pa_cons (pe_callTy call_tuple_of (by rfl) T.z_tuple PyProof.Rows.boot_tuple (pa_cons
      (pe_lc (own := [("_law_r", 6)]) (g := gName 6) (tt := tYes) (te := tCB (rTupN K) (tCons (tLc (iList K (tVar 4)) (gName 7) tYes (tOp (rIxL K) (tOp (rIxL K) (tVar 2) (tVar 6)) (tVar 7)) [7]) tNil)) rfl nd (pi_list (pv 4)) (blkOk_by (N := n_Llisted) (sc := defScope s_Llisted) (by decide +kernel)) (fun _ _ _ _ _ => pg_name (i := 6) nd rfl (Or.inr rfl)) (fun _ _ _ _ _ => pts_nil)
        (fun _ _ _ _ _ => pe_callTy call_tupN (by rfl) T.z_tuple PyProof.Rows.boot_tuple (pa_cons
          (pe_lc (own := [("_law_c", 7)]) (g := gName 7) (tt := tYes) (te := tOp (rIxL K) (tOp (rIxL K) (tVar 2) (tVar 6)) (tVar 7)) rfl nd (pi_list (pv 4)) (blkOk_by (N := n_Llisted) (sc := scR2) (by decide +kernel)) (fun _ _ _ _ _ => pg_name (i := 7) nd rfl (Or.inl rfl)) (fun _ _ _ _ _ => pts_nil)
            (fun _ _ _ _ _ => pe_ix ix_list (pe_ix ix_list (pv 2) (pv 6) (fun _ _ => rfl)) (pv 7) (fun _ _ => rfl))) pa_nil))) pa_nil)) pa_nil)))))))), ?_⟩
  have gn : ∀ {j : Nat}, j < ns.length → (Ints ns)[j]? = some (.int (ns.getD j 0)) := fun {j} hj => by
    rw [List.getElem?_map, List.getD_eq_getElem?_getD, List.getElem?_eq_getElem hj]
    rfl
  refine ⟨_, rfl, _, rfl, N, _, _, _, rfl, rfl, hN, atI_nat (gn (by omega)), _, rfl, fun rp ys rows H1 s1 hrp hR ht => ?_⟩
  obtain ⟨lsd, l10⟩ := tab_lsd ht
  have lenY : ys.length = rows.length := hR.length
  obtain ⟨c, sq, hDg, hW⟩ := id lsd
  have elen := sq.len
  -- left
  refine ⟨_, rfl, rp, ys, rfl, .inl (SqL.of hrp), _, rfl, RgOk.of_le (by omega) (by omega) (by omega) (by omega), fun L hL => ?_⟩
  have eL : rgV 0 (ys.length : Int) = Nts (List.range c) := by rw [rgV_nat, lenY, elen, List.map_map]; rfl
  rw [eL]
  -- names
  refine ⟨fits (by show 0 ≤ 100000; decide), fun M hM => ?_⟩
  have sL := same_new hL (.lst (Nts (List.range c)))
  have hL1 : (upd H1 L (.lst (Nts (List.range c)))) L = some (.lst (Nts (List.range c))) := upd_same
  have nLM : L ≠ M := ne_of_none hL1 hM
  have st0 : Same H1 (hide [L, M] (upd (upd H1 L (.lst (Nts (List.range c)))) M (.lst []))) := fun b o e => by
    refine hide_in.mpr ⟨fun z => ?_, ?_⟩
    · rcases List.mem_cons.mp z with z | z
      · exact ne_of_none e hL z
      · exact ne_of_none e (sL.free hM) (List.mem_singleton.mp z)
    · rw [upd_ne (ne_of_none e (sL.free hM))]
      exact sL _ _ e
  refine ⟨_, rfl, rp, ys, rfl, .inl (SqL.of ((st0.trans (hide_same _ _)) _ _ hrp)), (ys.length : Int), rfl, by omega, by omega, for_range (lo := 0) (n := ys.length) (fun i σ H' => Same H1 (hide [L, M] H') ∧ ∃ (lf nm : List Nat) (v5 : Option V), σ = [some (.ref N), some (.int (a : Int)), some (.ref rp), some (.ref L), some (.ref M), v5, none, none] ∧ H' L = some (.lst (Nts lf)) ∧ H' M = some (.lst (Nts nm)) ∧ (nm ++ lf).Perm (List.range c) ∧ nm.length = i)
    ⟨st0, List.range c, [], none, rfl, by rw [upd_ne nLM]; exact hL1, upd_same, List.Perm.refl _, rfl⟩ ?_ ?_⟩
  · rintro i σ H2 hi ⟨s2, lf, nm, v5, rfl, hL2, hM2, hp, hl⟩
    have llf : nm.length + lf.length = c := by rw [← List.length_append, hp.length_eq, List.length_range]
    have s2' := s2.trans (hide_same _ _)
    refine ⟨_, rfl, .inl ⟨rfl, _, SqL.of hM2⟩, _, rfl, .inl ⟨rfl, _, SqL.of hL2⟩, _, rfl, _, rfl, _, _, rfl, rfl, _, rfl, _, _, rfl, rfl, N, _, _, _, rfl, rfl, Same.seq (s1.trans s2') hN, at_of (j := a + 1 + i) (by omega) (gn (by omega)), .inl ⟨_, rfl, _, rfl, L, _, rfl, .inl (SqL.of hL2), _, _, rfl, rfl, (by rw [List.length_map]; show (0 : Int) < ((lf.length : Nat) : Int); omega), ?_⟩⟩
    have b0 : 0 ≤ (ns.getD (a + 1 + i) 0) % (((Nts lf).length : Nat) : Int) := Int.emod_nonneg _ (by rw [List.length_map]; omega)
    have b1 : (ns.getD (a + 1 + i) 0) % (((Nts lf).length : Nat) : Int) < (((Nts lf).length : Nat) : Int) := Int.emod_lt_of_pos _ (by rw [List.length_map]; omega)
    generalize hx : (ns.getD (a + 1 + i) 0) % (((Nts lf).length : Nat) : Int) = x at b0 b1
    have hxl : x.toNat < lf.length := by rw [List.length_map] at b1; omega
    have eget : (Nts lf)[x.toNat]? = some (.int ((lf[x.toNat] : Nat) : Int)) := by rw [List.getElem?_map, List.getElem?_eq_getElem hxl]; rfl
    have esq : seqIndex? x (Nts lf).length = some x.toNat := by
      unfold seqIndex?
      have e1 : (if x < 0 then x + (((Nts lf).length : Nat) : Int) else x) = x := if_neg (by omega)
      show (if (decide (0 ≤ (if x < 0 then x + (((Nts lf).length : Nat) : Int) else x)) && decide ((if x < 0 then x + (((Nts lf).length : Nat) : Int) else x) < (((Nts lf).length : Nat) : Int))) = true then some (if x < 0 then x + (((Nts lf).length : Nat) : Int) else x).toNat else none) = _
      rw [e1, decide_eq_true b0, decide_eq_true b1]
      rfl
    refine ⟨L, Nts lf, x, x.toNat, _, rfl, by rw [← hx], hL2, by omega, by rw [List.length_map] at b1; omega, esq, eget, M, Nts nm, _, rfl, rfl, by rw [upd_ne (Ne.symm nLM)]; exact hM2, fitsL (by rw [List.length_map]; omega), ?_⟩
    have mL : L ∈ [L, M] := List.mem_cons_self
    have mM : M ∈ [L, M] := List.mem_cons_of_mem _ List.mem_cons_self
    refine ⟨s2.trans ((hide_upd mL).trans (hide_upd mM)), lf.eraseIdx x.toNat, nm ++ [lf[x.toNat]], _, rfl, ?_, ?_, ?_, by rw [List.length_append, hl]; rfl⟩
    · rw [upd_ne nLM, upd_same]
      exact congrArg (fun z => some (HO.lst z)) (map_erase _ _ _)
    · rw [upd_same, nts_snoc]
    · rw [List.append_assoc]
      exact ((erase_perm (List.getElem?_eq_getElem hxl)).append_left nm).trans hp
  rintro σ H2 ⟨s2, lf, nm, v5, rfl, hL2, hM2, hp, hl⟩
  have s2' := s2.trans (hide_same _ _)
  have llf : nm.length + lf.length = c := by rw [← List.length_append, hp.length_eq, List.length_range]
  have elf : lf = [] := List.eq_nil_of_length_eq_zero (by omega)
  rw [elf, List.append_nil] at hp
  have hp' : nm.Perm (List.range rows.length) := by rw [elen]; exact hp
  obtain ⟨lsd', lren⟩ := ren_lsd lsd hp'
  have hR2 := hR.same s2'
  have hrp2 := s2' _ _ hrp
  have cell : ∀ {r : Nat}, r ∈ nm → r < c := fun hr => List.mem_range.mp (hp.mem_iff.mp hr)
  have lnm : nm.length = c := by omega
  have g1 : ∀ {i : Nat} (hi : i < nm.length), (ren rows nm)[i]? = some (nm.map fun c => cel rows nm[i] c) := fun {i} hi => by unfold ren; rw [List.getElem?_map, List.getElem?_eq_getElem hi]; rfl
  have gM : ∀ {i : Nat} {v : V}, (Nts nm)[i]? = some v → ∃ hi : i < nm.length, v = .int ((nm[i] : Nat) : Int) := fun {i v} h => by
    have hi : i < nm.length := by have := (List.getElem?_eq_some_iff.mp h).1; rwa [List.length_map] at this
    rw [List.getElem?_map, List.getElem?_eq_getElem hi] at h
    exact ⟨hi, (Option.some.inj h).symm⟩
  refine ⟨_, rfl, M, rfl, ⟨_, SqL.of hM2⟩, fun D hD => lc_seq (a := M) (xs := Nts nm) (J := Itl K M) (fun i H' => Same H2 (hide [D] H') ∧ ∃ zs, H' D = some (.lst zs) ∧ Rs K (hide [D] H') zs ((ren rows nm).take i) ∧ zs.length = i)
    ⟨hide_one (same_new hD _) hD, [], upd_same, .nil, rfl⟩ (fun i H' _ ⟨s3, _⟩ => .inl ⟨rfl, SqL.of ((s3.trans (hide_same _ _)) _ _ hM2)⟩) ⟨H2, .inl ⟨rfl, SqL.of hM2⟩⟩ ?_ ?_⟩
  · rintro i v H3 hv ⟨s3, zs, hD3, hZ, lz⟩
    obtain ⟨hi, rfl⟩ := gM hv
    have s3' := s3.trans (hide_same _ _)
    have hr := cell (List.getElem_mem hi)
    refine ⟨rfl, yes (iteT ?_)⟩
    refine ⟨_, rfl, M, rfl, ⟨_, SqL.of (s3' _ _ hM2)⟩, fun D2 hD2n => lc_seq (a := M) (xs := Nts nm) (J := Itl K M) (fun j H' => Same H3 H' ∧ H' D2 = some (.lst (Ints ((nm.map fun c => cel rows nm[i] c).take j))))
      ⟨same_new hD2n _, upd_same⟩ (fun j H' _ ⟨s4, _⟩ => .inl ⟨rfl, SqL.of (s4 _ _ (s3' _ _ hM2))⟩) ⟨H2, .inl ⟨rfl, SqL.of hM2⟩⟩ ?_ ?_⟩
    · rintro j v H4 hv2 ⟨s4, hD4⟩
      obtain ⟨hj, rfl⟩ := gM hv2
      have hc := cell (List.getElem_mem hj)
      obtain ⟨rb, erb, hrb⟩ := hR2.get (sq.row hr).1
      have s34 := s3'.trans s4
      refine ⟨rfl, yes (iteT ?_)⟩
      refine ⟨_, rfl, _, rfl, rp, ys, _, _, rfl, rfl, SqL.of (s34 _ _ hrp2), atI_nat erb, _, rfl, rb, _, _, _, rfl, rfl, Same.seq s34 hrb, atI_nat (of_item (sq.cell hr hc)), _, hD4, fitsL (by rw [List.length_map, List.length_take]; omega), fun b o e => ?_, ?_⟩
      · rw [upd_ne (ne_of_none e hD2n)]
        exact s4 b o e
      · rw [upd_same, ints_snoc, take_more (x := cel rows nm[i] nm[j]) (by rw [List.getElem?_map, List.getElem?_eq_getElem hj]; rfl)]
    · rintro H4 ⟨s4, hD4⟩
      rw [List.length_map, List.take_of_length_le (by rw [List.length_map]; exact Nat.le_refl _)] at hD4
      refine ⟨D2, _, rfl, .inl ⟨SqL.of hD4, fun p hpn => ?_⟩⟩
      have sp := s4.trans (same_new hpn (.tup (Ints (nm.map fun c => cel rows nm[i] c))))
      have nb : p ≠ D := fun z => ne_of_none hD3 (s4.free hpn) z.symm
      have st : Same (hide [D] H3) (hide [D] (upd (upd H4 p (.tup (Ints (nm.map fun c => cel rows nm[i] c)))) D (.lst (zs ++ [.ref p])))) := (hide_step sp).trans (hide_upd List.mem_cons_self)
      refine ⟨zs, sp _ _ hD3, fitsL (by omega), s3.trans st, _, upd_same, ?_, by rw [List.length_append, lz]; rfl⟩
      rw [take_more (g1 hi)]
      refine snoc (hZ.same st) ⟨p, rfl, SqT.of (hide_in.mpr ⟨fun z => nb (List.mem_singleton.mp z), ?_⟩)⟩
      rw [upd_ne nb]
      exact upd_same
  rintro H3 ⟨s3, zs, hD3, hZ, lz⟩
  have s3' := s3.trans (hide_same _ _)
  rw [List.length_map, List.take_of_length_le (by rw [lren]; omega)] at hZ
  refine ⟨D, zs, rfl, .inl ⟨SqL.of hD3, fun q hq => ⟨fits (by show 2 ≤ 100000; decide), fun r hr => ?_⟩⟩⟩
  have s4 := same_new hq (.tup zs)
  have s5 := same_new hr (.tup [V.str "listed", V.ref q])
  exact kont (.ref r) (ren rows nm) _ (s1.trans (s2'.trans (s3'.trans (s4.trans s5)))) ⟨r, q, zs, rfl, SqT.of upd_same, SqT.of (s5 _ _ upd_same), ((hZ.same (hide_same _ _)).same s4).same s5⟩ lsd'
end
end K5
set_option Elab.async false
set_option linter.all false
set_option maxRecDepth 100000
set_option maxHeartbeats 16000000
/-! The law's trees. -/
namespace K5
open PySem PySem.Spec PyProof.Rows L2
theorem gnum {ns : List Int} {j : Nat} (hj : j < ns.length) : (Ints ns)[j]? = some (.int (ns.getD j 0)) := by
  rw [List.getElem?_map, List.getD_eq_getElem?_getD, List.getElem?_eq_getElem hj]
  rfl
theorem read_num {K : PySem.W.Frag} {σ : L2.St} {H : Hp} {N : Addr} {ns : List Int} {a : Nat} {i : Int} {j : Nat} {Q : VK} (h0 : σ[0]? = some (some (.ref N))) (h1 : σ[1]? = some (some (.int (a : Int)))) (hN : SqL K H N (Ints ns)) (ei : i = (j : Int)) (hj : a + j < ns.length) (q : Q (.int (ns.getD (a + j) 0)) H) :
    tCB rInt1 (tCons (tOp (rIxL K) (tVar 0) (tOp (rI0 fun i j => .int (i + j)) (tVar 1) (tC (.int i)))) tNil) σ H Q :=
  ⟨_, h0, _, h1, _, _, rfl, rfl, N, _, _, _, rfl, rfl, hN, at_of (j := a + j) (by rw [ei]; omega) (gnum hj), .inl ⟨_, rfl, q⟩⟩
theorem two_of {p q x : Int} : ([p, q] : List Int).getD (x % 2).toNat 0 = p ∨ ([p, q] : List Int).getD (x % 2).toNat 0 = q := by
  have h : x % 2 = 0 ∨ x % 2 = 1 := by omega
  rcases h with h | h
  · rw [h]; exact .inl rfl
  · rw [h]; exact .inr rfl
theorem mod_b {x m : Int} (h : 0 < m) : 0 ≤ x % m ∧ x % m < m := ⟨Int.emod_nonneg _ (by omega), Int.emod_lt_of_pos _ h⟩
def spLleaf (K : PySem.W.Frag) : Sp := fun vs H Q _ => ∃ (N : Addr) (ns : List Int) (k : Nat), vs = [.ref N, .int (k : Int)] ∧ SqL K H N (Ints ns) ∧ k + 12 ≤ ns.length ∧ ∀ x T H', Same H H' → TreeT K H' T x → T.Ok → T.parts = 1 → Q x H'
def Tr.Semi : Tr → Prop
  | .prod s t => s.Ok ∧ t.Ok
  | T => T.Ok
theorem Tr.Ok.semi : ∀ {T : Tr}, T.Ok → T.Semi
  | .words _ _, h => h
  | .sets _ _, h => h
  | .listed _, h => h
  | .prod _ _, ⟨a, b, _⟩ => ⟨a, b⟩
def spNumT (K : PySem.W.Frag) (g : Tr → Int) (f : Nat) : Sp := fun vs H Q _ => ∃ (v : V) (T : Tr), vs = [v] ∧ TreeT K H T v ∧ T.Semi ∧ T.ht ≤ f ∧ Q (.int (g T)) H
theorem no_spNumT {K : PySem.W.Frag} {g : Tr → Int} {vs : List V} {H : Hp} {Q : VK} {E : XK} : ¬ spNumT K g 0 vs H Q E := fun h => by
  obtain ⟨v, t, _, _, _, hf, _⟩ := h
  have := t.ht_pos
  omega
theorem Tr.ht_prod (s t : Tr) : s.ht + 1 ≤ (Tr.prod s t).ht ∧ t.ht + 1 ≤ (Tr.prod s t).ht := by
  show s.ht + 1 ≤ (if s.ht ≤ t.ht then t.ht else s.ht) + 1 ∧ t.ht + 1 ≤ (if s.ht ≤ t.ht then t.ht else s.ht) + 1
  split <;> omega
theorem s_ws : decide (V.str "words" = V.str "sets") = false := by decide +kernel
theorem s_lw : decide (V.str "listed" = V.str "words") = false := by decide +kernel
theorem s_ls : decide (V.str "listed" = V.str "sets") = false := by decide +kernel
theorem s_pw : decide (V.str "product" = V.str "words") = false := by decide +kernel
theorem s_ps : decide (V.str "product" = V.str "sets") = false := by decide +kernel
theorem s_pl : decide (V.str "product" = V.str "listed") = false := by decide +kernel
section
variable {P : Program} {w : World} {K : PySem.W.Frag} {mg : Str → Option Value} {base : Heap}
theorem ok_Lleaf (T : Txt w K mg) : FnOk P w K mg base CX0 4 T.a_Lleaf T.d_Lleaf p_Lleaf (spLleaf K) := by
  have FL := ok_Llisted (P := P) (base := base) T
  refine T.F_Lleaf.ok sc_Lleaf (fun vs H Q E h => ?_) (fun cdv A outer s H vs Q E hr h => ?_)
  · obtain ⟨_, _, _, rfl, _⟩ := h
    rfl
  obtain ⟨N, ns, a, rfl, hN, hlen, kont⟩ := h
  have nd := sc_Lleaf.nd
  refine ⟨_, pss_cons (ps_set (i := 2) nd rfl (.inl rfl) (pe_op op_mod (pe_callTy call_int1N (by rfl) T.z_int PyProof.Rows.boot_int (pa_cons (pe_ix ix_list (pv 0) (pv 1) (fun _ _ => rfl)) pa_nil)) pe_int))
    (pss_cons (ps_if (pt_cmpR op_eq (pv 2) pe_int (nomark _)) (pss_one (ps_ret (pe_tup (pa_cons pe_str (pa_cons
        (pe_op op_add pe_int (pe_op op_mod (pe_callTy call_int1N (by rfl) T.z_int PyProof.Rows.boot_int (pa_cons (pe_ix ix_list (pv 0) (pe_op op_add (pv 1) pe_int) (fun _ _ => rfl)) pa_nil)) (pe_ix ix_list (pe_lst (pa_cons pe_int (pa_cons pe_int pa_nil))) (pe_op op_mod (pe_callTy call_int1N (by rfl) T.z_int PyProof.Rows.boot_int (pa_cons (pe_ix ix_list (pv 0) (pe_op op_add (pv 1) pe_int) (fun _ _ => rfl)) pa_nil)) pe_int) (fun _ _ => rfl))))
        (pa_cons (pe_op op_add pe_int (pe_op op_mod (pe_callTy call_int1N (by rfl) T.z_int PyProof.Rows.boot_int (pa_cons (pe_ix ix_list (pv 0) (pe_op op_add (pv 1) pe_int) (fun _ _ => rfl)) pa_nil)) (pe_ix ix_list (pe_lst (pa_cons pe_int (pa_cons pe_int pa_nil))) (pe_op op_mod (pe_op op_fdiv (pe_callTy call_int1N (by rfl) T.z_int PyProof.Rows.boot_int (pa_cons (pe_ix ix_list (pv 0) (pe_op op_add (pv 1) pe_int) (fun _ _ => rfl)) pa_nil)) pe_int) pe_int) (fun _ _ => rfl)))) pa_nil)))))) pss_nil)
    (pss_cons (ps_if (pt_cmpR op_eq (pv 2) pe_int (nomark _))
      (pss_cons (ps_set (i := 3) nd rfl (.inl rfl) (pe_op op_add pe_int (pe_op op_mod (pe_callTy call_int1N (by rfl) T.z_int PyProof.Rows.boot_int (pa_cons (pe_ix ix_list (pv 0) (pe_op op_add (pv 1) pe_int) (fun _ _ => rfl)) pa_nil)) (pe_ix ix_list (pe_lst (pa_cons pe_int (pa_cons pe_int pa_nil))) (pe_op op_mod (pe_callTy call_int1N (by rfl) T.z_int PyProof.Rows.boot_int (pa_cons (pe_ix ix_list (pv 0) (pe_op op_add (pv 1) pe_int) (fun _ _ => rfl)) pa_nil)) pe_int) (fun _ _ => rfl)))))
      (pss_one (ps_ret (pe_tup (pa_cons pe_str (pa_cons
        (pe_op op_add (pe_op op_mul pe_int (pv 3)) (pe_op op_mod (pe_callTy call_int1N (by rfl) T.z_int PyProof.Rows.boot_int (pa_cons (pe_ix ix_list (pv 0) (pe_op op_add (pv 1) pe_int) (fun _ _ => rfl)) pa_nil)) (pe_ix ix_list (pe_lst (pa_cons pe_int (pa_cons (pe_op op_sub pe_int (pe_op op_mul pe_int (pv 3))) pa_nil))) (pe_op op_mod (pe_op op_fdiv (pe_callTy call_int1N (by rfl) T.z_int PyProof.Rows.boot_int (pa_cons (pe_ix ix_list (pv 0) (pe_op op_add (pv 1) pe_int) (fun _ _ => rfl)) pa_nil)) pe_int) pe_int) (fun _ _ => rfl))))
        (pa_cons (pv 3) pa_nil))))))) pss_nil)
    (pss_one (ps_ret (pe_call FL hr rfl T.m_Llisted T.k_Llisted T.b_Llisted .nil pass0 (pa_cons (pv 0) (pa_cons (pe_op op_add (pv 1) pe_int) pa_nil))))))), ?_⟩
  refine ⟨_, rfl, _, rfl, N, _, _, _, rfl, rfl, hN, atI_nat (gnum (by omega)), .inl ⟨_, rfl, _, _, rfl, rfl, (show (0 : Int) < 4 by decide), ?_⟩⟩
  refine ⟨_, rfl, rfl, _, rfl, ite2 (fun _ => ?_) fun _ => ?_⟩
  · -- words
    refine read_num (j := 1) rfl rfl hN rfl (by omega) ⟨fits (by show 2 ≤ 100000; decide), fun l hl => ?_⟩
    have s1 := same_new hl (.lst (Ints [4, 40]))
    refine read_num (j := 3) rfl rfl (Same.seq s1 hN) rfl (by omega) ⟨_, _, rfl, rfl, (show (0 : Int) < 2 by decide), l, Ints [4, 40], _, _, rfl, rfl, SqL.of upd_same, at_getD (mod_b (by decide)).1 (mod_b (by decide)).2, _, _, rfl, rfl, ?_⟩
    have c1 := two_of (p := 4) (q := 40) (x := ns.getD (a + 3) 0)
    generalize ([4, 40] : List Int).getD (ns.getD (a + 3) 0 % 2).toNat 0 = m1 at c1
    have m1p : 0 < m1 := by omega
    obtain ⟨b0, b1⟩ := mod_b (x := ns.getD (a + 1) 0) m1p
    refine ⟨m1p, _, _, rfl, rfl, ?_⟩
    refine read_num (j := 2) rfl rfl (Same.seq s1 hN) rfl (by omega) ⟨fits (by show 2 ≤ 100000; decide), fun l2 hl2 => ?_⟩
    have s2 := same_new hl2 (.lst (Ints [3, 30]))
    refine read_num (j := 3) rfl rfl (Same.seq (s1.trans s2) hN) rfl (by omega) ⟨_, _, rfl, rfl, ⟨by decide, by decide⟩, _, _, rfl, rfl, (show (0 : Int) < 2 by decide), l2, Ints [3, 30], _, _, rfl, rfl, SqL.of upd_same, at_getD (mod_b (by decide)).1 (mod_b (by decide)).2, _, _, rfl, rfl, ?_⟩
    have c2 := two_of (p := 3) (q := 30) (x := ns.getD (a + 3) 0 / 2)
    generalize ([3, 30] : List Int).getD (ns.getD (a + 3) 0 / 2 % 2).toNat 0 = m2 at c2
    have m2p : 0 < m2 := by omega
    obtain ⟨d0, d1⟩ := mod_b (x := ns.getD (a + 2) 0) m2p
    refine ⟨m2p, _, _, rfl, rfl, fits (by show 3 ≤ 100000; decide), fun r hrn => ?_⟩
    exact kont (.ref r) (.words (1 + ns.getD (a + 1) 0 % m1) (2 + ns.getD (a + 2) 0 % m2)) _ (s1.trans (s2.trans (same_new hrn _))) ⟨r, rfl, SqT.of upd_same⟩ ⟨by omega, by omega, by omega, by omega⟩ rfl
  refine ⟨_, rfl, rfl, _, rfl, ite2 (fun _ => ?_) fun _ => ?_⟩
  · -- sets
    refine read_num (j := 1) rfl rfl hN rfl (by omega) ⟨fits (by show 2 ≤ 100000; decide), fun l hl => ?_⟩
    have s1 := same_new hl (.lst (Ints [3, 20]))
    refine read_num (j := 3) rfl rfl (Same.seq s1 hN) rfl (by omega) ⟨_, _, rfl, rfl, (show (0 : Int) < 2 by decide), l, Ints [3, 20], _, _, rfl, rfl, SqL.of upd_same, at_getD (mod_b (by decide)).1 (mod_b (by decide)).2, _, _, rfl, rfl, ?_⟩
    have c1 := two_of (p := 3) (q := 20) (x := ns.getD (a + 3) 0)
    generalize ([3, 20] : List Int).getD (ns.getD (a + 3) 0 % 2).toNat 0 = m1 at c1
    have m1p : 0 < m1 := by omega
    obtain ⟨b0, b1⟩ := mod_b (x := ns.getD (a + 1) 0) m1p
    refine ⟨m1p, _, _, rfl, rfl, ?_⟩
    refine ⟨_, rfl, _, _, rfl, rfl, .inl ⟨by decide, by decide⟩, ?_⟩
    refine read_num (j := 2) rfl rfl (Same.seq s1 hN) rfl (by omega) ⟨_, rfl, _, _, rfl, rfl, .inl ⟨by decide, by decide⟩, _, _, rfl, rfl, fits (by show 2 ≤ 100000; decide), fun l2 hl2 => ?_⟩
    have s2 := same_new hl2 (.lst (Ints [4, 81 - 2 * (1 + ns.getD (a + 1) 0 % m1)]))
    refine read_num (j := 3) rfl rfl (Same.seq (s1.trans s2) hN) rfl (by omega) ⟨_, _, rfl, rfl, ⟨by decide, by decide⟩, _, _, rfl, rfl, (show (0 : Int) < 2 by decide), l2, Ints [4, 81 - 2 * (1 + ns.getD (a + 1) 0 % m1)], _, _, rfl, rfl, SqL.of upd_same, at_getD (mod_b (by decide)).1 (mod_b (by decide)).2, _, _, rfl, rfl, ?_⟩
    have c2 := two_of (p := 4) (q := 81 - 2 * (1 + ns.getD (a + 1) 0 % m1)) (x := ns.getD (a + 3) 0 / 2)
    generalize ([4, 81 - 2 * (1 + ns.getD (a + 1) 0 % m1)] : List Int).getD (ns.getD (a + 3) 0 / 2 % 2).toNat 0 = m2 at c2
    have m2p : 0 < m2 := by omega
    obtain ⟨d0, d1⟩ := mod_b (x := ns.getD (a + 2) 0) m2p
    refine ⟨m2p, _, _, rfl, rfl, _, rfl, fits (by show 3 ≤ 100000; decide), fun r hrn => ?_⟩
    exact kont (.ref r) (.sets (2 * (1 + ns.getD (a + 1) 0 % m1) + ns.getD (a + 2) 0 % m2) (1 + ns.getD (a + 1) 0 % m1)) _ (s1.trans (s2.trans (same_new hrn _))) ⟨r, rfl, SqT.of upd_same⟩ ⟨by omega, by omega, by omega, by omega⟩ rfl
  · -- listed
    refine ⟨_, rfl, _, rfl, _, _, rfl, rfl, N, ns, a + 1, rfl, hN, by omega, fun x rows H' s1 ht lsd => kont x (.listed rows) H' s1 ht lsd rfl⟩
theorem points_step (T : Txt w K mg) (f : Nat) (G : FnOk P w K mg base CX0 (1 + f) T.a_Lpoints T.d_Lpoints p_Lpoints (spNumT K Tr.points f)) :
    FnOk P w K mg base CX0 (1 + f + 1) T.a_Lpoints T.d_Lpoints p_Lpoints (spNumT K Tr.points (f + 1)) := by
  have FP := ok_Lpower (P := P) (base := base) T
  have FC := ok_Lchoose (P := P) (base := base) T
  refine T.F_Lpoints.ok sc_Lpoints (fun vs H Q E h => ?_) (fun cdv A outer s H vs Q E hr h => ?_)
  · obtain ⟨_, _, rfl, _⟩ := h
    rfl
  obtain ⟨v, t, rfl, hT, ok, hf, k⟩ := h
  have hr1 : Room 1 _ := hr.mono (by omega)
  have nd := sc_Lpoints.nd
  refine ⟨_, pss_cons (ps_if (pt_cmpR op_eq (pe_ix ix_tup (pv 0) pe_int (fun _ _ => rfl)) pe_str (nomark _)) (pss_one (ps_ret (pe_call FP hr1 rfl T.m_Lpower T.k_Lpower T.b_Lpower .nil pass0 (pa_cons (pe_ix ix_tup (pv 0) pe_int (fun _ _ => rfl)) (pa_cons (pe_ix ix_tup (pv 0) pe_int (fun _ _ => rfl)) pa_nil))))) pss_nil)
    (pss_cons (ps_if (pt_cmpR op_eq (pe_ix ix_tup (pv 0) pe_int (fun _ _ => rfl)) pe_str (nomark _)) (pss_one (ps_ret (pe_call FC hr1 rfl T.m_Lchoose T.k_Lchoose T.b_Lchoose .nil pass0 (pa_cons (pe_ix ix_tup (pv 0) pe_int (fun _ _ => rfl)) (pa_cons (pe_ix ix_tup (pv 0) pe_int (fun _ _ => rfl)) pa_nil))))) pss_nil)
    (pss_cons (ps_if (pt_cmpR op_eq (pe_ix ix_tup (pv 0) pe_int (fun _ _ => rfl)) pe_str (nomark _)) (pss_one (ps_ret (pe_callB call_len_seq (by rfl) T.z_len PySem.boot_len (pa_cons (pe_ix ix_tup (pv 0) pe_int (fun _ _ => rfl)) pa_nil)))) pss_nil)
    (pss_one (ps_ret (pe_op op_mulW (pe_call G hr rfl T.m_Lpoints T.k_Lpoints T.b_Lpoints .nil pass0 (pa_cons (pe_ix ix_tup (pv 0) pe_int (fun _ _ => rfl)) pa_nil)) (pe_call G hr rfl T.m_Lpoints T.k_Lpoints T.b_Lpoints .nil pass0 (pa_cons (pe_ix ix_tup (pv 0) pe_int (fun _ _ => rfl)) pa_nil))))))), ?_⟩
  cases t with
  | words n q =>
    obtain ⟨a, rfl, hS⟩ := hT
    obtain ⟨b1, b2, b3, b4⟩ := ok
    refine ⟨_, rfl, a, _, _, _, rfl, rfl, hS, rfl, rfl, _, rfl, iteP (decide_eq_true rfl) ?_⟩
    exact ⟨_, rfl, a, _, _, _, rfl, rfl, hS, rfl, _, rfl, a, _, _, _, rfl, rfl, hS, rfl, q, n, rfl, by omega, by omega, by omega, by omega, k⟩
  | sets n q =>
    obtain ⟨a, rfl, hS⟩ := hT
    obtain ⟨b1, b2, b3, b4⟩ := ok
    refine ⟨_, rfl, a, _, _, _, rfl, rfl, hS, rfl, rfl, _, rfl, iteQ s_sw ?_⟩
    refine ⟨_, rfl, a, _, _, _, rfl, rfl, hS, rfl, rfl, _, rfl, iteP (decide_eq_true rfl) ?_⟩
    exact ⟨_, rfl, a, _, _, _, rfl, rfl, hS, rfl, _, rfl, a, _, _, _, rfl, rfl, hS, rfl, n, q, rfl, by omega, by omega, by omega, k⟩
  | listed rows =>
    obtain ⟨a, b, xs, rfl, hS, hrow, hR⟩ := hT
    refine ⟨_, rfl, a, _, _, _, rfl, rfl, hS, rfl, rfl, _, rfl, iteQ s_lw ?_⟩
    refine ⟨_, rfl, a, _, _, _, rfl, rfl, hS, rfl, rfl, _, rfl, iteQ s_ls ?_⟩
    refine ⟨_, rfl, a, _, _, _, rfl, rfl, hS, rfl, rfl, _, rfl, iteP (decide_eq_true rfl) ?_⟩
    refine ⟨_, rfl, a, _, _, _, rfl, rfl, hS, rfl, b, xs, rfl, .inr hrow, ?_⟩
    rw [hR.length]
    exact k
  | prod s t =>
    obtain ⟨a, x, y, rfl, hS, hx, hy⟩ := hT
    obtain ⟨os, ot⟩ := ok
    obtain ⟨h1, h2⟩ := Tr.ht_prod s t
    have pu := os.points_le
    have pt := ot.points_le
    refine ⟨_, rfl, a, _, _, _, rfl, rfl, hS, rfl, rfl, _, rfl, iteQ s_pw ?_⟩
    refine ⟨_, rfl, a, _, _, _, rfl, rfl, hS, rfl, rfl, _, rfl, iteQ s_ps ?_⟩
    refine ⟨_, rfl, a, _, _, _, rfl, rfl, hS, rfl, rfl, _, rfl, iteQ s_pl ?_⟩
    exact ⟨_, rfl, a, _, _, _, rfl, rfl, hS, rfl, x, s, rfl, hx, os.semi, by omega, _, rfl, a, _, _, _, rfl, rfl, hS, rfl, y, t, rfl, hy, ot.semi, by omega, _, _, rfl, rfl, wide_mul (bits_big pu.1 pu.2) (bits_big pt.1 pt.2) (by decide) (by decide) (by decide), k⟩
theorem points_all (T : Txt w K mg) : ∀ f : Nat, FnOk P w K mg base CX0 (1 + f) T.a_Lpoints T.d_Lpoints p_Lpoints (spNumT K Tr.points f)
  | 0 => ⟨fun vs H Q E h => absurd h no_spNumT, fun A outer s H args us vs Q E _ _ _ _ h => absurd h no_spNumT⟩
  | f + 1 => points_step T f (points_all T f)
theorem kinds_step (T : Txt w K mg) (f : Nat) (G : FnOk P w K mg base CX0 (1 + f) T.a_Lkinds T.d_Lkinds p_Lkinds (spNumT K Tr.kinds f)) :
    FnOk P w K mg base CX0 (1 + f + 1) T.a_Lkinds T.d_Lkinds p_Lkinds (spNumT K Tr.kinds (f + 1)) := by
  refine T.F_Lkinds.ok sc_Lkinds (fun vs H Q E h => ?_) (fun cdv A outer s H vs Q E hr h => ?_)
  · obtain ⟨_, _, rfl, _⟩ := h
    rfl
  obtain ⟨v, t, rfl, hT, ok, hf, k⟩ := h
  have nd := sc_Lkinds.nd
  refine ⟨_, pss_cons (ps_if (pt_cmpR op_eq (pe_ix ix_tup (pv 0) pe_int (fun _ _ => rfl)) pe_str (nomark _)) (pss_one (ps_ret (pe_op op_add (pe_ix ix_tup (pv 0) pe_int (fun _ _ => rfl)) pe_int))) pss_nil)
    (pss_cons (ps_if (pt_cmpR op_eq (pe_ix ix_tup (pv 0) pe_int (fun _ _ => rfl)) pe_str (nomark _)) (pss_one (ps_ret (pe_op op_add (pe_ix ix_tup (pv 0) pe_int (fun _ _ => rfl)) pe_int))) pss_nil)
    (pss_cons (ps_if (pt_cmpR op_eq (pe_ix ix_tup (pv 0) pe_int (fun _ _ => rfl)) pe_str (nomark _)) (pss_one (ps_ret (pe_op op_add (pe_callB (cr_maxT rfl) (by rfl) T.z_max PyProof.Rows.boot_max (pa_cons (pe_ix ix_tup (pe_ix ix_tup (pv 0) pe_int (fun _ _ => rfl)) pe_int (fun _ _ => rfl)) pa_nil)) pe_int))) pss_nil)
    (pss_one (ps_ret (pe_op op_mul (pe_call G hr rfl T.m_Lkinds T.k_Lkinds T.b_Lkinds .nil pass0 (pa_cons (pe_ix ix_tup (pv 0) pe_int (fun _ _ => rfl)) pa_nil)) (pe_call G hr rfl T.m_Lkinds T.k_Lkinds T.b_Lkinds .nil pass0 (pa_cons (pe_ix ix_tup (pv 0) pe_int (fun _ _ => rfl)) pa_nil))))))), ?_⟩
  cases t with
  | words n q =>
    obtain ⟨a, rfl, hS⟩ := hT
    refine ⟨_, rfl, a, _, _, _, rfl, rfl, hS, rfl, rfl, _, rfl, iteP (decide_eq_true rfl) ?_⟩
    exact ⟨_, rfl, a, _, _, _, rfl, rfl, hS, rfl, _, _, rfl, rfl, k⟩
  | sets n q =>
    obtain ⟨a, rfl, hS⟩ := hT
    refine ⟨_, rfl, a, _, _, _, rfl, rfl, hS, rfl, rfl, _, rfl, iteQ s_sw ?_⟩
    refine ⟨_, rfl, a, _, _, _, rfl, rfl, hS, rfl, rfl, _, rfl, iteP (decide_eq_true rfl) ?_⟩
    exact ⟨_, rfl, a, _, _, _, rfl, rfl, hS, rfl, _, _, rfl, rfl, k⟩
  | listed rows =>
    obtain ⟨a, b, xs, rfl, hS, hrow, hR⟩ := hT
    obtain ⟨r0, er0, ed0, pos0, nn0, _⟩ := Lsd.row0 ok
    obtain ⟨b0, eb0, sb0⟩ := hR.get er0
    refine ⟨_, rfl, a, _, _, _, rfl, rfl, hS, rfl, rfl, _, rfl, iteQ s_lw ?_⟩
    refine ⟨_, rfl, a, _, _, _, rfl, rfl, hS, rfl, rfl, _, rfl, iteQ s_ls ?_⟩
    refine ⟨_, rfl, a, _, _, _, rfl, rfl, hS, rfl, rfl, _, rfl, iteP (decide_eq_true rfl) ?_⟩
    refine ⟨_, rfl, a, _, _, _, rfl, rfl, hS, rfl, b, _, _, _, rfl, rfl, hrow, atI_nat (j := 0) eb0, b0, r0, rfl, sb0, pos0, fun mx hmx hall => ⟨_, _, rfl, rfl, ?_⟩⟩
    have e2 : mx = mxL (rows.getD 0 []) := by rw [ed0]; exact mxL_eq hmx hall nn0
    rw [e2]
    exact k
  | prod s t =>
    obtain ⟨a, x, y, rfl, hS, hx, hy⟩ := hT
    obtain ⟨os, ot⟩ := ok
    obtain ⟨h1, h2⟩ := Tr.ht_prod s t
    have pu := os.kinds_le
    refine ⟨_, rfl, a, _, _, _, rfl, rfl, hS, rfl, rfl, _, rfl, iteQ s_pw ?_⟩
    refine ⟨_, rfl, a, _, _, _, rfl, rfl, hS, rfl, rfl, _, rfl, iteQ s_ps ?_⟩
    refine ⟨_, rfl, a, _, _, _, rfl, rfl, hS, rfl, rfl, _, rfl, iteQ s_pl ?_⟩
    exact ⟨_, rfl, a, _, _, _, rfl, rfl, hS, rfl, x, s, rfl, hx, os.semi, by omega, _, rfl, a, _, _, _, rfl, rfl, hS, rfl, y, t, rfl, hy, ot.semi, by omega, _, _, rfl, rfl, .inl (by omega), k⟩
theorem kinds_all (T : Txt w K mg) : ∀ f : Nat, FnOk P w K mg base CX0 (1 + f) T.a_Lkinds T.d_Lkinds p_Lkinds (spNumT K Tr.kinds f)
  | 0 => ⟨fun vs H Q E h => absurd h no_spNumT, fun A outer s H args us vs Q E _ _ _ _ h => absurd h no_spNumT⟩
  | f + 1 => kinds_step T f (kinds_all T f)
theorem many_step (T : Txt w K mg) (f : Nat) (G : FnOk P w K mg base CX0 (1 + f) T.a_Lmany T.d_Lmany p_Lmany (spNumT K Tr.parts f)) :
    FnOk P w K mg base CX0 (1 + f + 1) T.a_Lmany T.d_Lmany p_Lmany (spNumT K Tr.parts (f + 1)) := by
  refine T.F_Lmany.ok sc_Lmany (fun vs H Q E h => ?_) (fun cdv A outer s H vs Q E hr h => ?_)
  · obtain ⟨_, _, rfl, _⟩ := h
    rfl
  obtain ⟨v, t, rfl, hT, ok, hf, k⟩ := h
  have nd := sc_Lmany.nd
  refine ⟨_, pss_cons (ps_if (pt_cmpR op_eq (pe_ix ix_tup (pv 0) pe_int (fun _ _ => rfl)) pe_str (nomark _)) (pss_one (ps_ret (pe_op op_add (pe_op op_add pe_int
      (pe_call G hr rfl T.m_Lmany T.k_Lmany T.b_Lmany .nil pass0 (pa_cons (pe_ix ix_tup (pv 0) pe_int (fun _ _ => rfl)) pa_nil))) (pe_call G hr rfl T.m_Lmany T.k_Lmany T.b_Lmany .nil pass0 (pa_cons (pe_ix ix_tup (pv 0) pe_int (fun _ _ => rfl)) pa_nil))))) pss_nil)
    (pss_one (ps_ret pe_int)), ?_⟩
  cases t with
  | words n q =>
    obtain ⟨a, rfl, hS⟩ := hT
    exact ⟨_, rfl, a, _, _, _, rfl, rfl, hS, rfl, rfl, _, rfl, iteQ s_wp k⟩
  | sets n q =>
    obtain ⟨a, rfl, hS⟩ := hT
    exact ⟨_, rfl, a, _, _, _, rfl, rfl, hS, rfl, rfl, _, rfl, iteQ s_sp k⟩
  | listed rows =>
    obtain ⟨a, b, xs, rfl, hS, hrow, hR⟩ := hT
    exact ⟨_, rfl, a, _, _, _, rfl, rfl, hS, rfl, rfl, _, rfl, iteQ s_lp k⟩
  | prod s t =>
    obtain ⟨a, x, y, rfl, hS, hx, hy⟩ := hT
    obtain ⟨os, ot⟩ := ok
    obtain ⟨h1, h2⟩ := Tr.ht_prod s t
    refine ⟨_, rfl, a, _, _, _, rfl, rfl, hS, rfl, rfl, _, rfl, iteP (decide_eq_true rfl) ?_⟩
    refine ⟨_, rfl, a, _, _, _, rfl, rfl, hS, rfl, x, s, rfl, hx, os.semi, by omega, _, _, rfl, rfl, _, rfl, a, _, _, _, rfl, rfl, hS, rfl, y, t, rfl, hy, ot.semi, by omega, _, _, rfl, rfl, ?_⟩
    have e : 1 + s.parts + t.parts = (Tr.prod s t).parts := by show _ = s.parts + t.parts + 1; omega
    show Q (V.int (1 + s.parts + t.parts)) H
    rw [e]
    exact k
theorem many_all (T : Txt w K mg) : ∀ f : Nat, FnOk P w K mg base CX0 (1 + f) T.a_Lmany T.d_Lmany p_Lmany (spNumT K Tr.parts f)
  | 0 => ⟨fun vs H Q E h => absurd h no_spNumT, fun A outer s H args us vs Q E _ _ _ _ h => absurd h no_spNumT⟩
  | f + 1 => many_step T f (many_all T f)
end
end K5
set_option Elab.async false
set_option linter.all false
set_option maxRecDepth 100000
set_option maxHeartbeats 16000000
/-! _law_tree, _law_lines. -/
namespace K5
open PySem PySem.Spec PyProof.Rows L2
def spLtree (K : PySem.W.Frag) : Sp := fun vs H Q _ => ∃ (N : Addr) (ns : List Int), vs = [.ref N, .int 0] ∧ SqL K H N (Ints ns) ∧ ns.length = 110 ∧ ∀ x T H', Same H H' → TreeT K H' T x → T.Ok → Q x H'
theorem big_pow : (10 : Int) ^ (60 : Int).toNat = big := by decide +kernel
section
variable {P : Program} {w : World} {K : PySem.W.Frag} {mg : Str → Option Value} {base : Heap}
theorem ok_Ltree (T : Txt w K mg) : FnOk P w K mg base CX0 10 T.a_Ltree T.d_Ltree p_Ltree (spLtree K) := by
  have FL := ok_Lleaf (P := P) (base := base) T
  have FP := points_all (P := P) (base := base) T 8
  have FK := kinds_all (P := P) (base := base) T 8
  have FM := many_all (P := P) (base := base) T 8
  refine T.F_Ltree.ok sc_Ltree (fun vs H Q E h => ?_) (fun cdv A outer s H vs Q E hr h => ?_)
  · obtain ⟨_, _, rfl, _⟩ := h
    rfl
  obtain ⟨N, ns, rfl, hN, hlen, kont⟩ := h
  have nd := sc_Ltree.nd
  have hr4 : Room 4 _ := hr.mono (by omega)
  refine ⟨_, pss_cons (ps_set (i := 2) nd rfl (.inl rfl) (pe_call FL hr4 rfl T.m_Lleaf T.k_Lleaf T.b_Lleaf .nil pass0 (pa_cons (pv 0) (pa_cons (pv 1) pa_nil))))
    (pss_cons (ps_for PassesOwn.never rfl (pi_range1 rfl T.z_range (pa_cons (pe_op op_mod (pe_callTy call_int1N (by rfl) T.z_int PyProof.Rows.boot_int (pa_cons (pe_ix ix_list (pv 0) (pe_op op_add (pv 1) pe_int) (fun _ _ => rfl)) pa_nil)) pe_int) pa_nil)) (pg_name (i := 3) nd rfl (.inl rfl))
      (pss_cons (ps_set (i := 4) nd rfl (.inl rfl) (pe_call FL hr4 rfl T.m_Lleaf T.k_Lleaf T.b_Lleaf .nil pass0 (pa_cons (pv 0) (pa_cons (pe_op op_add (pe_op op_add (pv 1) pe_int) (pe_op op_mul pe_int (pv 3))) pa_nil))))
      (pss_cons (ps_set (i := 5) nd rfl (.inl rfl) (pe_tup (pa_cons pe_str (pa_cons (pv 2) (pa_cons (pv 4) pa_nil)))))
      (pss_cons (ps_if (pt_cmpR op_eq (pe_op op_mod (pe_callTy call_int1N (by rfl) T.z_int PyProof.Rows.boot_int (pa_cons (pe_ix ix_list (pv 0) (pe_op op_add (pe_op op_add (pv 1) pe_int) (pv 3)) (fun _ _ => rfl)) pa_nil)) pe_int) pe_int (nomark _)) (pss_one (ps_set (i := 5) nd rfl (.inl rfl) (pe_tup (pa_cons pe_str (pa_cons (pv 4) (pa_cons (pv 2) pa_nil)))))) pss_nil)
      (pss_one (ps_if (PW.pt (pw_and (pt_cmpR op_le (pe_call FP (hr.mono (by omega)) rfl T.m_Lpoints T.k_Lpoints T.b_Lpoints .nil pass0 (pa_cons (pv 5) pa_nil)) (pe_op op_pow pe_int pe_int) (nomark _))
          (pw_and (pt_cmpR op_le (pe_call FK (hr.mono (by omega)) rfl T.m_Lkinds T.k_Lkinds T.b_Lkinds .nil pass0 (pa_cons (pv 5) pa_nil)) pe_int (nomark _))
            (pw_and1 (pt_cmpR op_le (pe_call FM (hr.mono (by omega)) rfl T.m_Lmany T.k_Lmany T.b_Lmany .nil pass0 (pa_cons (pv 5) pa_nil)) pe_int (nomark _))))))
        (pss_one (ps_set (i := 2) nd rfl (.inl rfl) (pv 5))) pss_nil))))))
    (pss_cons (ps_if (pt_cmpR op_gt (pe_call FP (hr.mono (by omega)) rfl T.m_Lpoints T.k_Lpoints T.b_Lpoints .nil pass0 (pa_cons (pv 2) pa_nil)) (pe_op op_pow pe_int pe_int) (nomark _)) (pss_one (ps_set (i := 2) nd rfl (.inl rfl) (pe_tup (pa_cons pe_str (pa_cons pe_int (pa_cons pe_int pa_nil)))))) pss_nil)
    (pss_one (ps_ret (pv 2))))), ?_⟩
  refine ⟨_, rfl, _, rfl, N, ns, 0, rfl, hN, by omega, fun x0 T0 H1 s1 ht0 ok0 hp0 => ?_⟩
  refine read_num (j := 15) (a := 0) rfl rfl (Same.seq s1 hN) rfl (by omega) ⟨_, _, rfl, rfl, (show (0 : Int) < 4 by decide), ?_⟩
  obtain ⟨b0, b1⟩ := mod_b (x := ns.getD (0 + 15) 0) (m := 4) (by decide)
  refine ⟨_, rfl, by omega, by omega, for_range (lo := 0) (n := (ns.getD (0 + 15) 0 % 4).toNat) (fun i σ H' => Same H H' ∧ ∃ (x : V) (T : Tr) (v3 v4 v5 : Option V), σ = [some (.ref N), some (.int 0), some x, v3, v4, v5] ∧ TreeT K H' T x ∧ T.Ok)
    ⟨s1, x0, T0, none, none, none, rfl, ht0, ok0⟩ ?_ ?_⟩
  · rintro i σ H2 hi ⟨s2, x, t, v3, v4, v5, rfl, ht, ok⟩
    have hi3 : i ≤ 2 := by omega
    refine ⟨_, rfl, _, rfl, _, _, rfl, rfl, _, rfl, _, _, rfl, rfl, .inl ⟨by decide, by decide⟩, _, _, rfl, rfl, N, ns, 20 + 15 * i, (by show [V.ref N, V.int (0 + 20 + 15 * (0 + (i : Int)))] = _; congr 3; omega), Same.seq s2 hN, by omega, fun y u H3 s3 hu oku pu => ?_⟩
    have ht3 := TreeT.same s3 ht
    refine ⟨_, rfl, _, rfl, fits (by show 3 ≤ 100000; decide), fun g hg => ?_⟩
    have s4 := same_new hg (.tup [V.str "product", x, y])
    have hp2 := ok.parts_le
    have hh2 := t.ht_parts
    have hhu := u.ht_parts
    -- grown stands in slot 5
    have key : ∀ (gv : V) (a b : Tr) (H5 : Hp) (D : Ends), Same H H5 → TreeT K H5 (.prod a b) gv → TreeT K H5 t x → a.Ok → b.Ok → (Tr.prod a b).ht ≤ 8 → (D.nx = fun σ H' => Same H H' ∧ ∃ (x : V) (T : Tr) (v3 v4 v5 : Option V), σ = [some (.ref N), some (.int 0), some x, v3, v4, v5] ∧ TreeT K H' T x ∧ T.Ok) →
        tIfS (tAnd (tTest (tOp (rI0 fun i j => .bl (decide (i ≤ j))) (tCall (spNumT K Tr.points 8) [] E0 (tCons (tVar 5) tNil)) (tOp (rI CPow fun i j => .int (i ^ j.toNat)) (tC (.int 10)) (tC (.int 60)))))
          (tAnd (tTest (tOp (rI0 fun i j => .bl (decide (i ≤ j))) (tCall (spNumT K Tr.kinds 8) [] E0 (tCons (tVar 5) tNil)) (tC (.int 60)))) (tTest (tOp (rI0 fun i j => .bl (decide (i ≤ j))) (tCall (spNumT K Tr.parts 8) [] E0 (tCons (tVar 5) tNil)) (tC (.int 8))))))
          (tAsg (tVar 5) (gName 2)) tNext D [some (.ref N), some (.int 0), some x, some (.int (0 + (i : Int))), some y, some gv] H5 := by
      intro gv a b H5 D s5 hgv htx oa ob hh hD
      have no : D.nx [some (.ref N), some (.int 0), some x, some (.int (0 + (i : Int))), some y, some gv] H5 := by
        rw [hD]
        exact ⟨s5, x, t, _, _, _, rfl, htx, ok⟩
      refine ⟨_, rfl, gv, .prod a b, rfl, hgv, ⟨oa, ob⟩, hh, _, _, rfl, rfl, ⟨by decide, by decide, by decide⟩, _, _, rfl, rfl, _, rfl, ite2 (fun z1 => ?_) fun _ => iteF no⟩
      refine ⟨_, rfl, gv, .prod a b, rfl, hgv, ⟨oa, ob⟩, hh, _, _, rfl, rfl, _, rfl, ite2 (fun z2 => ?_) fun _ => iteF no⟩
      refine ⟨_, rfl, gv, .prod a b, rfl, hgv, ⟨oa, ob⟩, hh, _, _, rfl, rfl, _, rfl, ite2 (fun z3 => ?_) fun _ => no⟩
      refine ⟨_, rfl, ?_⟩
      show D.nx _ _
      rw [hD]
      have z1' := of_decide_eq_true z1
      rw [big_pow] at z1'
      have z2' := of_decide_eq_true z2
      have z3' := of_decide_eq_true z3
      have z3'' : a.parts + b.parts + 1 ≤ 8 := z3'
      exact ⟨s5, gv, .prod a b, _, _, _, rfl, hgv, oa, ob, z1', z2', by omega⟩
    have hpr : ∀ a b : Tr, 2 * ((Tr.prod a b).ht : Int) ≤ a.parts + b.parts + 2 := fun a b => by
      have := (Tr.prod a b).ht_parts
      have e : (Tr.prod a b).parts = a.parts + b.parts + 1 := rfl
      omega
    have hA := hpr t u
    have hB := hpr u t
    have s34 := (s2.trans s3).trans s4
    refine ⟨_, rfl, _, rfl, _, _, rfl, rfl, _, rfl, _, _, rfl, rfl, N, _, _, _, rfl, rfl, Same.seq s34 hN, at_of (j := 16 + i) (by omega) (gnum (by omega)), .inl ⟨_, rfl, _, _, rfl, rfl, (show (0 : Int) < 2 by decide), rfl, _, rfl, ite2 (fun _ => ?_) fun _ => ?_⟩⟩
    · refine ⟨_, rfl, _, rfl, fits (by show 3 ≤ 100000; decide), fun g2 hg2 => ?_⟩
      have s5 := same_new hg2 (.tup [V.str "product", y, x])
      exact key (.ref g2) u t _ _ (s34.trans s5) ⟨g2, y, x, rfl, SqT.of upd_same, TreeT.same s5 (TreeT.same s4 hu), TreeT.same s5 (TreeT.same s4 ht3)⟩ (TreeT.same s5 (TreeT.same s4 ht3)) oku ok (by omega) rfl
    · exact key (.ref g) t u _ _ s34 ⟨g, x, y, rfl, SqT.of upd_same, TreeT.same s4 ht3, TreeT.same s4 hu⟩ (TreeT.same s4 ht3) ok oku (by omega) rfl
  · rintro σ H2 ⟨s2, x, t, v3, v4, v5, rfl, ht, ok⟩
    have hp2 := ok.parts_le
    have hh2 := t.ht_parts
    refine ⟨_, rfl, x, t, rfl, ht, ok.semi, by omega, _, _, rfl, rfl, ⟨by decide, by decide, by decide⟩, _, _, rfl, rfl, _, rfl, iteQ (decide_eq_false ?_) ?_⟩
    · rw [big_pow]
      have := ok.points_le.2
      omega
    · exact ⟨_, rfl, kont x t H2 s2 ht ok⟩
end
end K5
set_option Elab.async false
set_option linter.all false
set_option maxRecDepth 100000
set_option maxHeartbeats 16000000
/-! _law_lines, _law_refused; trees as data. -/
namespace K5
open PySem PySem.Spec PyProof.Rows L2 TL
theorem pe_when {X : Cx} {p : Prop} {e : Expr} {t : TE} (h : p → PE X e t) : PE X e (fun σ H Q => p ∧ t σ H Q) := ⟨fun pins s σ H Q I ⟨hp, q⟩ => (h hp).run pins s σ H Q I q⟩
theorem str_assoc (a b c : Str) : a ++ b ++ c = a ++ (b ++ c) := ext_tl (by rw [tl_append, tl_append, tl_append, tl_append, List.append_assoc])
theorem line_two (w : Str) (n k : Int) : w ++ " " ++ num n ++ " " ++ num k = gl (hd w [n, k]) := by
  show _ = gl (w :: num n :: [num k])
  rw [gl_cons, gl_cons, gl_one, str_assoc (w ++ " ") (num n) " ", str_assoc (w ++ " ")]
theorem line_listed (n : Int) : ("listed " : Str) ++ num n = gl (hd "listed" [n]) := by
  show _ = gl ("listed" :: num n :: [])
  rw [gl_cons, gl_one]
  rfl
theorem line_row {r : List Int} (h : r ≠ []) : ("row " : Str) ++ gl (r.map num) = gl (hd "row" r) := by
  cases r with
  | nil => exact absurd rfl h
  | cons a r =>
    show _ = gl ("row" :: num a :: r.map num)
    rw [gl_cons]
    rfl
def rJoinN (K : PySem.W.Frag) : V → List V → Hp → VK → Prop := fun x xs H Q => ∃ a p, ∃ ys : List Str, x = .str a ∧ xs = [.ref p] ∧ (SqL K H p (ys.map V.str) ∨ SqT K H p (ys.map V.str)) ∧ (ys.map (·.length)).sum + ys.length * a.length ≤ 16777216 ∧ Q (.str (Txt.join a ys)) H
theorem pe_joinN {X : Cx} {o e : Expr} {to te : TE} {apos pos : Pos} (ho : PE X o to) (he : PE X e te) (hs : starEach [e] X.env = [(false, eval e X.env)] := by rfl) (hbase : attributeBase o "join" X.env (eval o X.env) = eval o X.env := by rfl) (hline : (apos.endLine == pos.line) = true := by rfl) :
    PE X (.Call (.Attribute o "join" apos) [e] [] pos) (tM1 (rJoinN X.K) to te) := pe_join ho he hs hbase hline
def rAddStr : R2 := fun x y H Q => ∃ i j, x = .str i ∧ y = .str j ∧ i.length + j.length ≤ sizeLine ∧ Q (.str (i ++ j)) H
theorem op_addStr {X : Cx} : OpR X (binaryOp .Add) rAddStr := op_add_str
def spRefused (K : PySem.W.Frag) : Sp := fun vs H Q _ => ∃ (v : V) (m : Nat), vs = [v] ∧ m < 5 ∧ BadAt K H m v ∧ ∀ H', Same H H' → Q (.bl true) H'
section
variable {P : Program} {w : World} {K : PySem.W.Frag} {mg : Str → Option Value} {base : Heap}
theorem Llines_step (T : Txt w K mg) (f : Nat) (G : FnOk P w K mg base CX0 (1 + f) T.a_Llines T.d_Llines p_Llines (spLines K f)) :
    FnOk P w K mg base CX0 (1 + f + 1) T.a_Llines T.d_Llines p_Llines (spLines K (f + 1)) := by
  refine T.F_Llines.ok sc_Llines (fun vs H Q E h => ?_) (fun cdv A outer s H vs Q E hr h => ?_)
  · obtain ⟨_, _, rfl, _⟩ := h
    rfl
  obtain ⟨v, t, rfl, hT, ok, hf, k⟩ := h
  have nd := sc_Llines.nd
  refine ⟨_, pss_cons (ps_if (pt_cmpR op_eq (pe_ix ix_tup (pv 0) pe_int (fun _ _ => rfl)) pe_str (nomark _))
      (pss_one (ps_ret (pe_op op_cat (pe_op op_cat (pe_lst (pa_cons pe_str pa_nil))
        (pe_call G hr rfl T.m_Llines T.k_Llines T.b_Llines .nil pass0 (pa_cons (pe_ix ix_tup (pv 0) pe_int (fun _ _ => rfl)) pa_nil)))
        (pe_call G hr rfl T.m_Llines T.k_Llines T.b_Llines .nil pass0 (pa_cons (pe_ix ix_tup (pv 0) pe_int (fun _ _ => rfl)) pa_nil))))) pss_nil)
    (pss_cons (ps_if (pt_cmpR op_eq (pe_ix ix_tup (pv 0) pe_int (fun _ _ => rfl)) pe_str (nomark _))
      (pss_one (ps_ret (pe_op op_cat (pe_lst (pa_cons (pe_op op_addStr pe_str (pe_callTy call_strN (by rfl) T.z_str PyProof.Rows.boot_str (pa_cons (pe_callB call_len_seq (by rfl) T.z_len PySem.boot_len (pa_cons (pe_ix ix_tup (pv 0) pe_int (fun _ _ => rfl)) pa_nil)) pa_nil))) pa_nil))
        (pe_lc (own := [("_law_row_here", 1)]) (g := gName 1) (tt := tYes) (te := tOp rAddStr (tC (.str "row ")) (tM1 (rJoinN K) (tC (.str " ")) (tLc (iTup K (tVar 1)) (gName 2) tYes (tCB rStrN (tCons (tVar 2) tNil)) [2]))) rfl nd (pi_tup (pe_ix ix_tup (pv 0) pe_int (fun _ _ => rfl))) (blkOk_by (N := n_Llines) (sc := defScope s_Llines) (by decide +kernel)) (fun _ _ _ _ _ => pg_name (i := 1) nd rfl (Or.inl rfl)) (fun _ _ _ _ _ => pts_nil)
          (fun _ _ _ _ _ => pe_op op_addStr pe_str (pe_joinN pe_str
            (pe_lc (own := [("_law_part", 2)]) (g := gName 2) (tt := tYes) (te := tCB rStrN (tCons (tVar 2) tNil)) rfl nd (pi_tup (pv 1)) (blkOk_by (N := n_Llines) (sc := { kind := .function, names := [(".0", .local), ("_law_row_here", .local)], isGenerator := false, isCoroutine := false, more := [] }) (by decide +kernel)) (fun _ _ _ _ _ => pg_name (i := 2) nd rfl (Or.inl rfl)) (fun _ _ _ _ _ => pts_nil)
              (fun _ _ _ _ _ => pe_callTy call_strN (by rfl) T.z_str PyProof.Rows.boot_str (pa_cons (pv 2) pa_nil))))))))) pss_nil)
    (pss_one (ps_ret (pe_lst (pa_cons (pe_op op_addStr (pe_op op_addStr (pe_op op_addStr (pe_op op_addStr (pe_ix ix_tup (pv 0) pe_int (fun _ _ => rfl)) pe_str) (pe_callTy call_strN (by rfl) T.z_str PyProof.Rows.boot_str (pa_cons (pe_ix ix_tup (pv 0) pe_int (fun _ _ => rfl)) pa_nil))) pe_str) (pe_callTy call_strN (by rfl) T.z_str PyProof.Rows.boot_str (pa_cons (pe_ix ix_tup (pv 0) pe_int (fun _ _ => rfl)) pa_nil))) pa_nil))))), ?_⟩
  have two : ∀ (wo : Str) (n q : Int) (a : Addr), wo.length ≤ 7 → N80 n → N80 q → SqT K H a [.str wo, .int n, .int q] → (∀ l H', Same H H' → H' l = some (.lst [V.str (gl (hd wo [n, q]))]) → Q (.ref l) H') →
      tLst (tCons (tOp rAddStr (tOp rAddStr (tOp rAddStr (tOp rAddStr (tOp (rIxT K) (tVar 0) (tC (.int 0))) (tC (.str " "))) (tCB rStrN (tCons (tOp (rIxT K) (tVar 0) (tC (.int 1))) tNil))) (tC (.str " "))) (tCB rStrN (tCons (tOp (rIxT K) (tVar 0) (tC (.int 2))) tNil))) tNil) [some (.ref a), none, none] H Q := by
    intro wo n q a hl hn hq hS kk
    have l1 := (num_ok hn).len3
    have l2 := (num_ok hq).len3
    have e1 : (" " : Str).length = 1 := by decide +kernel
    have a1 : (wo ++ " ").length = wo.length + 1 := by rw [Str.length_append, e1]
    have a2 : (wo ++ " " ++ num n).length = wo.length + 1 + (num n).length := by rw [Str.length_append, a1]
    have a3 : (wo ++ " " ++ num n ++ " ").length = wo.length + 1 + (num n).length + 1 := by rw [Str.length_append, a2, e1]
    refine ⟨_, rfl, a, _, _, _, rfl, rfl, hS, rfl, _, _, rfl, rfl, fits (by omega), _, rfl, a, _, _, _, rfl, rfl, hS, rfl, n, rfl, n80_log hn, _, _, rfl, rfl, fits (by omega), _, _, rfl, rfl, fits (by omega), _, rfl, a, _, _, _, rfl, rfl, hS, rfl, q, rfl, n80_log hq, _, _, rfl, rfl, fits (by omega), fits (by show 1 ≤ 100000; decide), fun l hl => kk l _ (same_new hl _) ?_⟩
    rw [upd_same, ← line_two]
  cases t with
  | words n q =>
    obtain ⟨a, rfl, hS⟩ := hT
    obtain ⟨b1, b2, b3, b4⟩ := ok
    refine ⟨_, rfl, a, _, _, _, rfl, rfl, hS, rfl, rfl, _, rfl, iteQ s_wp ?_⟩
    refine ⟨_, rfl, a, _, _, _, rfl, rfl, hS, rfl, rfl, _, rfl, iteQ s_wl ?_⟩
    exact two "words" n q a (by decide +kernel) ⟨by omega, by omega⟩ ⟨by omega, by omega⟩ hS fun l H' s1 h => k l H' s1 h
  | sets n q =>
    obtain ⟨a, rfl, hS⟩ := hT
    obtain ⟨b1, b2, b3, b4⟩ := ok
    refine ⟨_, rfl, a, _, _, _, rfl, rfl, hS, rfl, rfl, _, rfl, iteQ s_sp ?_⟩
    refine ⟨_, rfl, a, _, _, _, rfl, rfl, hS, rfl, rfl, _, rfl, iteQ s_sl ?_⟩
    exact two "sets" n q a (by decide +kernel) ⟨by omega, by omega⟩ ⟨by omega, by omega⟩ hS fun l H' s1 h => k l H' s1 h
  | listed rows =>
    obtain ⟨a, b, xs, rfl, hS, hrow, hR⟩ := hT
    obtain ⟨c1, c2, c3⟩ := Lsd.row ok
    have lenR : xs.length = rows.length := hR.length
    have n8 : N80 (xs.length : Int) := ⟨by omega, by omega⟩
    have ln := (num_ok n8).len3
    have el : ("listed " : Str).length = 7 := by decide +kernel
    have er : ("row " : Str).length = 4 := by decide +kernel
    refine ⟨_, rfl, a, _, _, _, rfl, rfl, hS, rfl, rfl, _, rfl, iteQ s_lp ?_⟩
    refine ⟨_, rfl, a, _, _, _, rfl, rfl, hS, rfl, rfl, _, rfl, iteP (decide_eq_true rfl) ?_⟩
    refine ⟨_, rfl, a, _, _, _, rfl, rfl, hS, rfl, b, xs, rfl, .inr hrow, _, rfl, n80_log n8, _, _, rfl, rfl, fits (by rw [el]; omega), fits (by show 1 ≤ 100000; decide), fun m hm => ?_⟩
    have s3 := same_new hm (.lst [V.str (("listed " : Str) ++ num (xs.length : Int))])
    have hm2 : (upd H m (.lst [V.str (("listed " : Str) ++ num (xs.length : Int))])) m = some (.lst [V.str (gl (hd "listed" [(rows.length : Int)]))]) := by rw [upd_same, line_listed, lenR]
    generalize upd H m (.lst [V.str (("listed " : Str) ++ num (xs.length : Int))]) = H2 at s3 hm2
    refine ⟨_, rfl, a, _, _, _, rfl, rfl, Same.tup s3 hS, rfl, b, rfl, ⟨xs, Same.tup s3 hrow⟩, fun D hD => lc_seq (a := b) (xs := xs) (J := Itt K b) (fun i H' => Same H2 H' ∧ H' D = some (.lst (((rows.take i).map fun r => gl (hd "row" r)).map V.str))) ⟨same_new hD _, upd_same⟩ (fun i H' _ ⟨s4, _⟩ => .inr ⟨rfl, Same.tup s4 (Same.tup s3 hrow)⟩) ⟨H, .inr ⟨rfl, hrow⟩⟩ ?_ ?_⟩
    · rintro i v H3 hi ⟨s4, hD3⟩
      obtain ⟨bb, ns, rfl, hns, hTb⟩ := hR.at hi
      have hil : i < rows.length := (List.getElem?_eq_some_iff.mp hns).1
      obtain ⟨d1, d2⟩ := c3 ns (List.mem_of_getElem? hns)
      have hT3 : SqT K H3 bb (Ints ns) := Same.tup s4 (Same.tup s3 hTb)
      have n80 : ∀ y ∈ ns, N80 y := fun y hy => by
        have := d2 y hy
        unfold N80
        omega
      have lg : Lg "row" ns := ⟨.inr (.inr (.inr (.inl rfl))), by omega, n80⟩
      refine ⟨rfl, yes (iteT ?_)⟩
      refine ⟨⟨_, rfl⟩, _, rfl, bb, rfl, ⟨_, hT3⟩, fun D2 hD2 => lc_seq (a := bb) (xs := Ints ns) (J := Itt K bb) (fun j H' => Same H3 H' ∧ H' D2 = some (.lst (((ns.take j).map num).map V.str))) ⟨same_new hD2 _, upd_same⟩ (fun j H' _ ⟨s5, _⟩ => .inr ⟨rfl, Same.tup s5 hT3⟩) ⟨H3, .inr ⟨rfl, hT3⟩⟩ ?_ ?_⟩
      · rintro j v H4 hv ⟨s5, hD4⟩
        obtain ⟨z, hz, rfl⟩ := item_of hv
        have hjl : j < ns.length := (List.getElem?_eq_some_iff.mp hz).1
        refine ⟨rfl, yes (iteT ?_)⟩
        refine ⟨_, rfl, z, rfl, n80_log (n80 z (List.mem_of_getElem? hz)), _, hD4, fitsL (by rw [List.length_map, List.length_map, List.length_take]; omega), ?_, ?_⟩
        · intro c o e
          rw [upd_ne (ne_of_none e hD2)]
          exact s5 c o e
        · rw [upd_same, take_more hz, List.map_append, List.map_append]
          rfl
      · rintro H4 ⟨s5, hD4⟩
        rw [List.length_map, List.take_length] at hD4
        have nn : ns ≠ [] := fun z => by
          rw [z] at d1
          simp at d1
          omega
        have wsum := words_sum lg.ln
        rw [List.map_cons, List.sum_cons, List.length_cons, Nat.succ_mul] at wsum
        have jl := join_len " " (ns.map num)
        refine ⟨_, D2, ns.map num, rfl, rfl, .inl (SqL.of hD4), by omega, _, _, rfl, rfl, ?_, ?_⟩
        · have h1 := sum_le (ys := ns.map num) (k := 2) fun y hy => by
            obtain ⟨z, hz, e⟩ := List.mem_map.mp hy
            rw [← e]
            exact (num_ok (n80 z hz)).len3
          have e1 : (" " : Str).length = 1 := by decide +kernel
          rw [e1, List.length_map] at jl
          rw [List.length_map] at h1
          rw [er]
          refine fits ?_
          omega
        · refine ⟨_, s5 _ _ hD3, fitsL (by rw [List.length_map, List.length_map, List.length_take]; omega), ?_, ?_⟩
          · intro c o e
            rw [upd_ne (ne_of_none e hD)]
            exact s5 _ _ (s4 c o e)
          · have elr : ("row " : Str) ++ Txt.join " " (ns.map num) = gl (hd "row" ns) := line_row nn
            rw [upd_same, elr, take_more hns, List.map_append, List.map_append]
            rfl
    rintro H3 ⟨s4, hD3⟩
    rw [lenR, List.take_length] at hD3
    refine ⟨m, D, _, _, rfl, rfl, s4 _ _ hm2, hD3, fits (by rw [List.length_map, List.length_map]; show 1 + rows.length ≤ 100000; omega), fun p hp => ?_⟩
    refine k p _ (s3.trans (s4.trans (same_new hp _))) ?_
    rw [upd_same]
    show some (HO.lst (V.str (gl (hd "listed" [(rows.length : Int)])) :: (rows.map fun r => gl (hd "row" r)).map V.str)) = _
    unfold Tr.lines Tr.lw
    rw [List.map_cons, List.map_cons, List.map_map (f := hd "row")]
    rfl
  | prod s t =>
    obtain ⟨a, x, y, rfl, hS, hx, hy⟩ := hT
    obtain ⟨os, ot, _⟩ := ok
    obtain ⟨h1, h2⟩ := Tr.ht_prod s t
    have l1 := os.lw200
    have l2 := ot.lw200
    refine ⟨_, rfl, a, _, _, _, rfl, rfl, hS, rfl, rfl, _, rfl, iteP (decide_eq_true rfl) ?_⟩
    refine ⟨fits (by show 1 ≤ 100000; decide), fun l hl => ?_⟩
    have s1 := same_new hl (.lst [V.str "product"])
    refine ⟨_, rfl, a, _, _, _, rfl, rfl, Same.tup s1 hS, rfl, x, s, rfl, TreeT.same s1 hx, os, by omega, fun b H1 s2 hb => ?_⟩
    refine ⟨l, b, _, _, rfl, rfl, s2 _ _ upd_same, hb, fits (by unfold Tr.lines; rw [List.length_map, List.length_map]; show 1 + s.lw.length ≤ 100000; omega), fun p hp => ?_⟩
    have s3 := same_new hp (.lst ([V.str "product"] ++ s.lines.map V.str))
    refine ⟨_, rfl, a, _, _, _, rfl, rfl, Same.tup s3 (Same.tup s2 (Same.tup s1 hS)), rfl, y, t, rfl, TreeT.same s3 (TreeT.same s2 (TreeT.same s1 hy)), ot, by omega, fun c H2 s4 hc => ?_⟩
    refine ⟨p, c, _, _, rfl, rfl, s4 _ _ upd_same, hc, fits (by unfold Tr.lines; rw [List.length_append, List.length_map, List.length_map, List.length_map, List.length_map]; show 1 + s.lw.length + t.lw.length ≤ 100000; omega), fun r hrn => ?_⟩
    refine k r _ (s1.trans (s2.trans (s3.trans (s4.trans (same_new hrn _))))) ?_
    rw [upd_same]
    unfold Tr.lines
    show some (HO.lst ([V.str "product"] ++ (s.lw.map gl).map V.str ++ (t.lw.map gl).map V.str)) = some (HO.lst (V.str (gl ["product"]) :: ((s.lw ++ t.lw).map gl).map V.str))
    rw [gl_one, List.map_append, List.map_append]
    rfl
theorem Llines_all (T : Txt w K mg) : ∀ f : Nat, FnOk P w K mg base CX0 (1 + f) T.a_Llines T.d_Llines p_Llines (spLines K f)
  | 0 => by
    have no : ∀ vs H Q E, ¬ spLines K 0 vs H Q E := fun vs H Q E h => by
      obtain ⟨v, t, _, _, _, hf, _⟩ := h
      have := t.ht_pos
      omega
    exact ⟨fun vs H Q E h => absurd h (no vs H Q E), fun A outer s H args us vs Q E _ _ _ _ h => absurd h (no vs H Q E)⟩
  | f + 1 => Llines_step T f (Llines_all T f)
theorem ok_Lrefused (T : Txt w K mg) : FnOk P w K mg base CX0 14 T.a_Lrefused T.d_Lrefused p_Lrefused (spRefused K) := by
  have FF := ok_format_scheme (P := P) (base := base) T
  refine T.F_Lrefused.ok sc_Lrefused (fun vs H Q E h => ?_) (fun cdv A outer s H vs Q E hr h => ?_)
  · obtain ⟨_, _, rfl, _⟩ := h
    rfl
  obtain ⟨v, m, rfl, hm, hB, k⟩ := h
  have nd := sc_Lrefused.nd
  refine ⟨_, pss_cons (ps_try_as (i := 1) rfl rfl nd rfl rfl ⟨rfl, by decide, .inl T.gC⟩ takes0
      (fun W pn xe tk _ => pss_one (ps_expr (pe_callS FF hr rfl T.m_format_scheme T.k_format_scheme T.b_format_scheme (fun σ => passAt tk σ) (pa_cons (pv 0) pa_nil))))
      (fun a oe cls d pn hz hf => pss_one (ps_ret (pe_when (p := cls = .ref T.CI ∧ d = none) fun hp => pe_callB (call_isE T.iC (by obtain ⟨e1, e2⟩ := hp; subst e1 e2; exact hz) hf) (by rfl) T.z_isinstance PyProof.Rows.boot_isinstance (pa_cons (pv 1) (pa_cons (pe_bltn (v := .ty "ValueError") rfl T.z_ValueError rfl rfl) pa_nil))))))
    (pss_one (ps_ret pe_bl)), ?_⟩
  refine ⟨_, rfl, v, rfl, .inr ⟨m, hm, hB, fun H' s1 => ⟨true, T.eC, fun _ a ha => ?_, fun q => Bool.noConfusion q⟩⟩⟩
  exact ⟨⟨rfl, rfl⟩, _, rfl, .ty "ValueError", .type "ValueError", true, rfl, fun u h => h, T.vC, k H' s1⟩
end
end K5
set_option Elab.async false
set_option linter.all false
set_option maxRecDepth 100000
set_option maxHeartbeats 16000000
/-! The law. -/
namespace K5
open PySem PySem.Spec PyProof.Rows L2 TL
abbrev rowD (r : List Int) : PyData := .tuple (r.map .int)
def Tr.data : Tr → PyData
  | .words n k => .tuple [.str "words", .int n, .int k]
  | .sets n k => .tuple [.str "sets", .int n, .int k]
  | .listed rows => .tuple [.str "listed", .tuple (rows.map rowD)]
  | .prod s t => .tuple [.str "product", s.data, t.data]
theorem dpAll_rows {K : PySem.W.Frag} {H : Hp} {xs : List V} {rows : List (List Int)} (h : Rs K H xs rows) : DpAll K H xs (rows.map rowD) := by
  induction h with
  | nil => exact .nil
  | cons r _ ih =>
    obtain ⟨b, e, q⟩ := r
    subst e
    exact .cons (.tup q (dpAll_ints _ _ _)) ih
theorem TreeT.dp {K : PySem.W.Frag} {H : Hp} : ∀ {T : Tr} {v : V}, TreeT K H T v → Dp K H v T.data
  | .words _ _, _, ⟨a, e, h⟩ => by
    subst e
    exact .tup h (.cons (.str _) (.cons (.int _) (.cons (.int _) .nil)))
  | .sets _ _, _, ⟨a, e, h⟩ => by
    subst e
    exact .tup h (.cons (.str _) (.cons (.int _) (.cons (.int _) .nil)))
  | .listed _, _, ⟨a, b, xs, e, h1, h2, h3⟩ => by
    subst e
    exact .tup h1 (.cons (.str _) (.cons (.tup h2 (dpAll_rows h3)) .nil))
  | .prod _ _, _, ⟨a, x, y, e, h1, h2, h3⟩ => by
    subst e
    exact .tup h1 (.cons (.str _) (.cons h2.dp (.cons h3.dp .nil)))
theorem eqv_rows : ∀ rows : List (List Int), PyData.eqvAll (rows.map rowD) (rows.map rowD) = true
  | [] => by simp [PyData.eqvAll]
  | r :: rows => by simp [PyData.eqvAll, PyData.eqv, eqvAll_refl_ints, eqv_rows rows]
theorem eqv_tree : ∀ T : Tr, PyData.eqv T.data T.data = true
  | .words n k => by simp [Tr.data, PyData.eqv, PyData.eqvAll]
  | .sets n k => by simp [Tr.data, PyData.eqv, PyData.eqvAll]
  | .listed rows => by simp [Tr.data, PyData.eqv, PyData.eqvAll, eqv_rows]
  | .prod s t => by simp [Tr.data, PyData.eqv, PyData.eqvAll, eqv_tree s, eqv_tree t]
theorem lay_rows : ∀ rows : List (List Int), PyData.canLayAll0 (rows.map rowD) = true
  | [] => by simp [PyData.canLayAll0]
  | r :: rows => by simp [PyData.canLayAll0, PyData.canLay0, lay_ints, lay_rows rows]
theorem ok_words : PyData.strOk ("words" : Str) = true := by decide +kernel
theorem ok_sets : PyData.strOk ("sets" : Str) = true := by decide +kernel
theorem ok_listedS : PyData.strOk ("listed" : Str) = true := by decide +kernel
theorem ok_product : PyData.strOk ("product" : Str) = true := by decide +kernel
theorem layt : ∀ T : Tr, PyData.canLay0 T.data = true
  | .words n k => by simp [Tr.data, PyData.canLay0, PyData.canLayAll0, ok_words]
  | .sets n k => by simp [Tr.data, PyData.canLay0, PyData.canLayAll0, ok_sets]
  | .listed rows => by simp [Tr.data, PyData.canLay0, PyData.canLayAll0, lay_rows, ok_listedS]
  | .prod s t => by simp [Tr.data, PyData.canLay0, PyData.canLayAll0, layt s, layt t, ok_product]
theorem depth_rows : ∀ rows : List (List Int), PyData.depthAll (rows.map rowD) ≤ 2
  | [] => by simp [PyData.depthAll]
  | r :: rows => by
    have a := depth_rows rows
    have b := depth_ints r
    simp only [List.map_cons, PyData.depthAll, PyData.depth]
    omega
theorem depth_tree : ∀ T : Tr, T.data.depth ≤ T.ht + 4
  | .words n k => by
    simp only [Tr.data, PyData.depth, PyData.depthAll]
    show _ ≤ 1 + 4
    omega
  | .sets n k => by
    simp only [Tr.data, PyData.depth, PyData.depthAll]
    show _ ≤ 1 + 4
    omega
  | .listed rows => by
    have a := depth_rows rows
    simp only [Tr.data, PyData.depth, PyData.depthAll]
    show _ ≤ 1 + 4
    omega
  | .prod s t => by
    have a := depth_tree s
    have b := depth_tree t
    obtain ⟨h1, h2⟩ := Tr.ht_prod s t
    simp only [Tr.data, PyData.depth, PyData.depthAll]
    omega
theorem Tr.Ok.shaped {T : Tr} (h : T.Ok) : SeqAt.shaped T.data = true := by
  have a := depth_tree T
  have b := T.ht_parts
  have c := h.parts_le
  unfold SeqAt.shaped
  rw [Bool.and_eq_true]
  exact ⟨layt T, decide_eq_true (by omega)⟩
theorem TyX.tup {K : PySem.W.Frag} {H : Hp} {a : Addr} {xs : List V} (h : SqT K H a xs) : TyX K H (.ref a) (.type "tuple") := by
  rcases h with (h | ⟨o, h⟩) | ⟨o, its, n, h, c, _⟩
  · exact .base (.tup h)
  · exact .fTuple h
  · exact .kTuple h c
theorem TreeT.ty {K : PySem.W.Frag} {H : Hp} : ∀ {T : Tr} {v : V}, TreeT K H T v → TyX K H v (.type "tuple")
  | .words _ _, _, ⟨a, e, h⟩ => by subst e; exact TyX.tup h
  | .sets _ _, _, ⟨a, e, h⟩ => by subst e; exact TyX.tup h
  | .listed _, _, ⟨a, b, xs, e, h1, _⟩ => by subst e; exact TyX.tup h1
  | .prod _ _, _, ⟨a, x, y, e, h1, _⟩ => by subst e; exact TyX.tup h1
/-! ### the small text -/
def small : Tr := .prod (.listed [[0, 1], [1, 0]]) (.sets 4 2)
theorem small_text : small.text = "scheme\nproduct\nlisted 2\nrow 0 1\nrow 1 0\nsets 4 2" := by decide +kernel
theorem small_ok : small.Ok := by
  refine ⟨(chk_lsd (by decide +kernel)).1, ⟨by decide, by decide, by decide, by decide⟩, ?_, ?_, ?_⟩
  · decide +kernel
  · decide +kernel
  · decide +kernel
def spLaw (K : PySem.W.Frag) : Sp := fun vs H Q _ => ∃ (a : Addr) (ns : List Int), vs = [.ref a] ∧ SqL K H a (Ints ns) ∧ ∀ H', Q (.bl true) H'
theorem four {α : Type} {a b c d x : α} {n : Nat} (h : n < 4) (e : ([a, b, c, d] : List α)[n]? = some x) : x = a ∨ x = b ∨ x = c ∨ x = d := by
  have := List.mem_of_getElem? e
  simpa using this
section
variable {P : Program} {w : World} {K : PySem.W.Frag} {mg : Str → Option Value} {base : Heap}
theorem ok_law (T : Txt w K mg) : FnOk P w K mg base CX0 15 T.a_law T.d_law p_law (spLaw K) := by
  have FN := ok_Lnumbers (P := P) (base := base) T
  have FT := ok_Ltree (P := P) (base := base) T
  have FL := Llines_all (P := P) (base := base) T 8
  have FF := ok_format_scheme (P := P) (base := base) T
  have FP := ok_parse_scheme (P := P) (base := base) T
  have FX := ok_Lrefused (P := P) (base := base) T
  refine T.F_law.ok sc_law (fun vs H Q E h => ?_) (fun cdv A outer s H vs Q E hr h => ?_)
  · obtain ⟨_, _, rfl, _⟩ := h
    rfl
  obtain ⟨a, ns, rfl, hS, kont⟩ := h
  have nd := sc_law.nd
  have hr13 : Room 13 _ := hr.mono (by omega)
  refine ⟨_, pss_cons (ps_set (i := 1) nd rfl (.inl rfl) (pe_call FN (hr.mono (by omega)) rfl T.m_Lnumbers T.k_Lnumbers T.b_Lnumbers .nil pass0 (pa_cons (pv 0) (pa_cons pe_int pa_nil))))
    (pss_cons (ps_set (i := 2) nd rfl (.inl rfl) (pe_call FT (hr.mono (by omega)) rfl T.m_Ltree T.k_Ltree T.b_Ltree .nil pass0 (pa_cons (pv 1) (pa_cons pe_int pa_nil))))
    (pss_cons (ps_set (i := 3) nd rfl (.inl rfl) (pe_join pe_str (pe_op op_cat (pe_lst (pa_cons pe_str pa_nil)) (pe_call FL (hr.mono (by omega)) rfl T.m_Llines T.k_Llines T.b_Llines .nil pass0 (pa_cons (pv 2) pa_nil)))))
    (pss_cons (ps_set (i := 4) nd rfl (.inl rfl) (pe_call FF hr13 rfl T.m_format_scheme T.k_format_scheme T.b_format_scheme .nil passL (pa_cons (pv 2) pa_nil)))
    (pss_cons (ps_if (PW.pt (pw_or (pt_not (pt_val (pe_callB call_isi (by rfl) T.z_isinstance PyProof.Rows.boot_isinstance (pa_cons (pv 4) (pa_cons (pe_bltn (v := .ty "str") rfl T.z_str PyProof.Rows.boot_str rfl) pa_nil)))))
        (pw_or (pt_cmpR op_ne (pv 4) (pv 3) (nomark _)) (pw_or1 (pt_cmpR op_ne (pe_call FF hr13 rfl T.m_format_scheme T.k_format_scheme T.b_format_scheme .nil passL (pa_cons (pv 2) pa_nil)) (pv 3) (nomark _))))))
      (pss_one (ps_ret pe_bl)) pss_nil)
    (pss_cons (ps_set (i := 5) nd rfl (.inl rfl) (pe_call FP hr13 rfl T.m_parse_scheme T.k_parse_scheme T.b_parse_scheme .nil passL (pa_cons (pv 3) pa_nil)))
    (pss_cons (ps_set (i := 6) nd rfl (.inl rfl) (pe_call FP hr13 rfl T.m_parse_scheme T.k_parse_scheme T.b_parse_scheme .nil passL (pa_cons pe_str pa_nil)))
    (pss_cons (ps_if (PW.pt (pw_or (pt_not (pt_val (pe_callB call_isi (by rfl) T.z_isinstance PyProof.Rows.boot_isinstance (pa_cons (pv 5) (pa_cons (pe_bltn (v := .ty "tuple") rfl T.z_tuple PyProof.Rows.boot_tuple rfl) pa_nil)))))
        (pw_or (pt_cmpR (op_neD hr.units) (pv 5) (pv 2) (nomark _)) (pw_or (pt_cmpR op_ne (pe_call FF hr13 rfl T.m_format_scheme T.k_format_scheme T.b_format_scheme .nil passL (pa_cons (pv 5) pa_nil)) (pv 3) (nomark _))
          (pw_or1 (pt_cmpR (op_neD hr.units) (pv 6) (pe_tup (pa_cons pe_str (pa_cons (pe_tup (pa_cons pe_str (pa_cons (pe_tup (pa_cons (pe_tup (pa_cons pe_int (pa_cons pe_int pa_nil))) (pa_cons (pe_tup (pa_cons pe_int (pa_cons pe_int pa_nil))) pa_nil))) pa_nil))) (pa_cons (pe_tup (pa_cons pe_str (pa_cons pe_int (pa_cons pe_int pa_nil)))) pa_nil)))) (nomark _)))))))
      (pss_one (ps_ret pe_bl)) pss_nil)
    (pss_cons (ps_set (i := 7) nd rfl (.inl rfl) (pe_lst (pa_cons (pe_tup (pa_cons pe_str (pa_cons pe_int (pa_cons pe_int pa_nil)))) (pa_cons (pe_tup (pa_cons pe_str (pa_cons pe_int (pa_cons pe_int pa_nil))))
        (pa_cons (pe_tup (pa_cons pe_str (pa_cons (pe_tup (pa_cons (pe_tup (pa_cons pe_int (pa_cons pe_int pa_nil))) (pa_cons (pe_tup (pa_cons pe_int (pa_cons pe_int pa_nil))) pa_nil))) pa_nil))) (pa_cons (pe_tup (pa_cons pe_str (pa_cons (pv 2) pa_nil))) pa_nil))))))
    (pss_one (ps_ret (pe_and (pe_call FX hr rfl T.m_Lrefused T.k_Lrefused T.b_Lrefused .nil pass0 (pa_cons (pe_ix ix_list (pv 7) (pe_op op_mod (pe_callTy call_int1N (by rfl) T.z_int PyProof.Rows.boot_int (pa_cons (pe_ix ix_list (pv 1) pe_int (fun _ _ => rfl)) pa_nil)) pe_int) (fun _ _ => rfl)) pa_nil))
      (pe_one (pe_call FX hr rfl T.m_Lrefused T.k_Lrefused T.b_Lrefused .nil pass0 (pa_cons (pe_tup (pa_cons pe_str (pa_cons (pe_ix ix_list (pv 7) (pe_op op_mod (pe_callTy call_int1N (by rfl) T.z_int PyProof.Rows.boot_int (pa_cons (pe_ix ix_list (pv 1) pe_int (fun _ _ => rfl)) pa_nil)) pe_int) (fun _ _ => rfl))
        (pa_cons (pe_tup (pa_cons pe_str (pa_cons pe_int (pa_cons pe_int pa_nil)))) pa_nil)))) pa_nil)))))))))))))), ?_⟩
  -- numbers, tree
  refine ⟨_, rfl, a, ns, rfl, hS, fun N ms H1 s1 hN hl => ?_⟩
  refine ⟨_, rfl, N, ms, rfl, SqL.of hN, hl, fun x t H2 s2 ht ok => ?_⟩
  have h1 := t.ht_parts
  have h2 := ok.parts_le
  have lw := ok.lw200
  -- text
  refine ⟨⟨_, rfl⟩, fits (by show 1 ≤ 100000; decide), fun l hl0 => ?_⟩
  have s3 := same_new hl0 (.lst [V.str "scheme"])
  refine ⟨_, rfl, x, t, rfl, TreeT.same s3 ht, ok, by omega, fun b H3 s4 hb => ?_⟩
  refine ⟨l, b, _, _, rfl, rfl, s4 _ _ upd_same, hb, fits (by unfold Tr.lines; rw [List.length_map, List.length_map]; show 1 + t.lw.length ≤ 100000; omega), fun p hp => ?_⟩
  refine ⟨_, p, ("scheme" : Str) :: t.lines, rfl, rfl, .inl (SqL.of upd_same), Nat.le_trans ok.text_sum (by decide), ?_⟩
  have s5 := same_new hp (.lst ([V.str "scheme"] ++ t.lines.map V.str))
  have s25 := s3.trans (s4.trans s5)
  generalize upd H3 p (.lst ([V.str "scheme"] ++ t.lines.map V.str)) = H5 at s25
  have ht5 := TreeT.same s25 ht
  have ne0 : (!decide (V.str t.text = V.str (Txt.join "\n" (("scheme" : Str) :: t.lines)))) = false := by
    rw [decide_eq_true (show V.str t.text = V.str (Txt.join "\n" (("scheme" : Str) :: t.lines)) from rfl)]
    rfl
  -- actual
  refine ⟨_, rfl, x, rfl, .inl ⟨t, ht5.at, ok, fun H6 s6 => ?_⟩⟩
  refine ⟨_, rfl, .str t.text, .ty "str", .type "str", .type "str", true, rfl, .ty _, .base (.str _), kit_ty (by decide +kernel), _, rfl, iteF ?_⟩
  refine ⟨_, rfl, _, rfl, rfl, _, rfl, iteQ ne0 ?_⟩
  have ht6 := TreeT.same s6 ht5
  refine ⟨_, rfl, x, rfl, .inl ⟨t, ht6.at, ok, fun H7 s7 => ⟨_, rfl, rfl, _, rfl, iteQ ne0 ?_⟩⟩⟩
  have ht7 := TreeT.same s7 ht6
  -- read, small
  refine ⟨_, rfl, t, rfl, ok, fun y H8 s8 hy => ?_⟩
  refine ⟨small, by rw [small_text]; rfl, small_ok, fun z H9 s9 hz => ?_⟩
  have ht9 := TreeT.same s9 (TreeT.same s8 ht7)
  have hy9 := TreeT.same s9 hy
  refine ⟨_, rfl, y, .ty "tuple", .type "tuple", .type "tuple", true, rfl, .ty _, hy9.ty, kit_ty (by decide +kernel), _, rfl, iteF ?_⟩
  refine ⟨_, rfl, _, rfl, t.data, t.data, hy9.dp, ht9.dp, ok.shaped, ok.shaped, _, rfl, iteQ (by rw [eqv_tree]; rfl) ?_⟩
  refine ⟨_, rfl, y, rfl, .inl ⟨t, hy9.at, ok, fun H10 s10 => ⟨_, rfl, rfl, _, rfl, iteQ ne0 ?_⟩⟩⟩
  have ht10 := TreeT.same s10 ht9
  have hz10 := TreeT.same s10 hz
  have hN10 : H10 N = some (.lst (Ints ms)) := s10 _ _ (s9 _ _ (s8 _ _ (s7 _ _ (s6 _ _ (s25 _ _ (s2 _ _ hN))))))
  -- small != (...)
  refine ⟨_, rfl, fits (by show 2 ≤ 100000; decide), fun a1 ha1 => ⟨fits (by show 2 ≤ 100000; decide), fun a2 ha2 => ⟨fits (by show 2 ≤ 100000; decide), fun a3 ha3 => ⟨fits (by show 2 ≤ 100000; decide), fun a4 ha4 => ⟨fits (by show 3 ≤ 100000; decide), fun a5 ha5 => ⟨fits (by show 3 ≤ 100000; decide), fun a6 ha6 => ?_⟩⟩⟩⟩⟩⟩
  have q1 := same_new ha1 (.tup [V.int 0, V.int 1])
  have q2 := same_new ha2 (.tup [V.int 1, V.int 0])
  have q3 := same_new ha3 (.tup [V.ref a1, V.ref a2])
  have q4 := same_new ha4 (.tup [V.str "listed", V.ref a3])
  have q5 := same_new ha5 (.tup [V.str "sets", V.int 4, V.int 2])
  have q6 := same_new ha6 (.tup [V.str "product", V.ref a4, V.ref a5])
  have q56 := q5.trans q6
  have q46 := q4.trans q56
  have q36 := q3.trans q46
  have q26 := q2.trans q36
  have q16 := q1.trans q26
  have hsm : TreeT K _ small (.ref a6) := ⟨a6, .ref a4, .ref a5, rfl, SqT.of upd_same, ⟨a4, a3, [.ref a1, .ref a2], rfl, SqT.of (q56 _ _ upd_same), SqT.of (q46 _ _ upd_same), .cons ⟨a1, rfl, SqT.of (q26 _ _ upd_same)⟩ (.cons ⟨a2, rfl, SqT.of (q36 _ _ upd_same)⟩ .nil)⟩, ⟨a5, rfl, SqT.of (q6 _ _ upd_same)⟩⟩
  refine ⟨small.data, small.data, (TreeT.same q16 hz10).dp, hsm.dp, small_ok.shaped, small_ok.shaped, _, rfl, iteQ (by rw [eqv_tree]; rfl) ?_⟩
  generalize upd (upd (upd (upd (upd (upd H10 a1 (.tup [V.int 0, V.int 1])) a2 (.tup [V.int 1, V.int 0])) a3 (.tup [V.ref a1, V.ref a2])) a4 (.tup [V.str "listed", V.ref a3])) a5 (.tup [V.str "sets", V.int 4, V.int 2])) a6 (.tup [V.str "product", V.ref a4, V.ref a5]) = H11 at q16
  have hN11 := q16 _ _ hN10
  -- bad
  refine ⟨fits (by show 3 ≤ 100000; decide), fun b1 hb1 => ⟨fits (by show 3 ≤ 100000; decide), fun b2 hb2 => ⟨fits (by show 2 ≤ 100000; decide), fun b3 hb3 => ⟨fits (by show 2 ≤ 100000; decide), fun b4 hb4 => ⟨fits (by show 2 ≤ 100000; decide), fun b5 hb5 => ⟨fits (by show 2 ≤ 100000; decide), fun b6 hb6 => ⟨_, rfl, fits (by show 2 ≤ 100000; decide), fun b7 hb7 => ⟨fits (by show 4 ≤ 100000; decide), fun b8 hb8 => ?_⟩⟩⟩⟩⟩⟩⟩⟩
  have r1 := same_new hb1 (.tup [V.str "words", V.int 0, V.int 2])
  have r2 := same_new hb2 (.tup [V.str "sets", V.int 3, V.int 2])
  have r3 := same_new hb3 (.tup [V.int 0, V.int 1])
  have r4 := same_new hb4 (.tup [V.int 0, V.int 0])
  have r5 := same_new hb5 (.tup [V.ref b3, V.ref b4])
  have r6 := same_new hb6 (.tup [V.str "listed", V.ref b5])
  have r7 := same_new hb7 (.tup [V.str "product", x])
  have r8 := same_new hb8 (.lst [V.ref b1, V.ref b2, V.ref b6, V.ref b7])
  have r78 := r7.trans r8
  have r68 := r6.trans r78
  have r58 := r5.trans r68
  have r48 := r4.trans r58
  have r38 := r3.trans r48
  have r28 := r2.trans r38
  have r18 := r1.trans r28
  have c1 := r28 _ _ (upd_same (H := H11) (a := b1) (o := .tup [V.str "words", V.int 0, V.int 2]))
  have c2 := r38 _ _ (upd_same (a := b2) (o := .tup [V.str "sets", V.int 3, V.int 2]))
  have c3 := r48 _ _ (upd_same (a := b3) (o := .tup [V.int 0, V.int 1]))
  have c4 := r58 _ _ (upd_same (a := b4) (o := .tup [V.int 0, V.int 0]))
  have c5 := r68 _ _ (upd_same (a := b5) (o := .tup [V.ref b3, V.ref b4]))
  have c6 := r78 _ _ (upd_same (a := b6) (o := .tup [V.str "listed", V.ref b5]))
  have c7 := r8 _ _ (upd_same (a := b7) (o := .tup [V.str "product", x]))
  have bad : ∀ i : Int, 0 ≤ i → i < 4 → ∃ v, atI [V.ref b1, V.ref b2, V.ref b6, V.ref b7] i = some v ∧ BadAt K (upd (upd (upd (upd (upd (upd (upd (upd H11 b1 (.tup [V.str "words", V.int 0, V.int 2])) b2 (.tup [V.str "sets", V.int 3, V.int 2])) b3 (.tup [V.int 0, V.int 1])) b4 (.tup [V.int 0, V.int 0])) b5 (.tup [V.ref b3, V.ref b4])) b6 (.tup [V.str "listed", V.ref b5])) b7 (.tup [V.str "product", x])) b8 (.lst [V.ref b1, V.ref b2, V.ref b6, V.ref b7])) 0 v := by
    intro i i0 i1
    have hi : i = 0 ∨ i = 1 ∨ i = 2 ∨ i = 3 := by omega
    rcases hi with e | e | e | e <;> subst e
    · exact ⟨_, at_of (j := 0) rfl rfl, b1, rfl, .inl (SqT.of c1)⟩
    · exact ⟨_, at_of (j := 1) rfl rfl, b2, rfl, .inr (.inl (SqT.of c2))⟩
    · exact ⟨_, at_of (j := 2) rfl rfl, b6, rfl, .inr (.inr (.inl ⟨b5, [.ref b3, .ref b4], SqT.of c6, SqT.of c5, .cons ⟨b3, rfl, SqT.of c3⟩ (.cons ⟨b4, rfl, SqT.of c4⟩ .nil)⟩))⟩
    · exact ⟨_, at_of (j := 3) rfl rfl, b7, rfl, .inr (.inr (.inr ⟨x, SqT.of c7⟩))⟩
  have hN12 := r18 _ _ hN11
  have hb12 := upd_same (H := upd (upd (upd (upd (upd (upd (upd H11 b1 (.tup [V.str "words", V.int 0, V.int 2])) b2 (.tup [V.str "sets", V.int 3, V.int 2])) b3 (.tup [V.int 0, V.int 1])) b4 (.tup [V.int 0, V.int 0])) b5 (.tup [V.ref b3, V.ref b4])) b6 (.tup [V.str "listed", V.ref b5])) b7 (.tup [V.str "product", x])) (a := b8) (o := .lst [V.ref b1, V.ref b2, V.ref b6, V.ref b7])
  generalize upd (upd (upd (upd (upd (upd (upd (upd H11 b1 (.tup [V.str "words", V.int 0, V.int 2])) b2 (.tup [V.str "sets", V.int 3, V.int 2])) b3 (.tup [V.int 0, V.int 1])) b4 (.tup [V.int 0, V.int 0])) b5 (.tup [V.ref b3, V.ref b4])) b6 (.tup [V.str "listed", V.ref b5])) b7 (.tup [V.str "product", x])) b8 (.lst [V.ref b1, V.ref b2, V.ref b6, V.ref b7]) = H12 at bad hN12 hb12
  obtain ⟨m0, m1⟩ := mod_b (x := ms.getD 100 0) (m := 4) (by decide)
  obtain ⟨v1, e1, hB1⟩ := bad _ m0 m1
  obtain ⟨m2, m3⟩ := mod_b (x := ms.getD 101 0) (m := 4) (by decide)
  obtain ⟨v2, e2, hB2⟩ := bad _ m2 m3
  refine ⟨_, rfl, _, rfl, N, _, _, _, rfl, rfl, SqL.of hN12, at_of (j := 100) rfl (gnum (by omega)), .inl ⟨_, rfl, _, _, rfl, rfl, (show (0 : Int) < 4 by decide), b8, _, _, _, rfl, rfl, SqL.of hb12, e1, v1, 0, rfl, by decide, hB1, fun H13 s13 => ⟨true, rfl, iteT ?_⟩⟩⟩
  refine ⟨_, rfl, _, rfl, N, _, _, _, rfl, rfl, SqL.of (s13 _ _ hN12), at_of (j := 101) rfl (gnum (by omega)), .inl ⟨_, rfl, _, _, rfl, rfl, (show (0 : Int) < 4 by decide), b8, _, _, _, rfl, rfl, SqL.of (s13 _ _ hb12), e2, fits (by show 3 ≤ 100000; decide), fun w1 hw1 => ⟨fits (by show 3 ≤ 100000; decide), fun u hu => ?_⟩⟩⟩
  have t1 := same_new hw1 (.tup [V.str "words", V.int 1, V.int 2])
  have t2 := same_new hu (.tup [V.str "product", v2, V.ref w1])
  exact ⟨.ref u, 1, rfl, by decide, ⟨u, v2, .ref w1, rfl, SqT.of upd_same, hB2.same (s13.trans (t1.trans t2))⟩, fun H' _ => kont H'⟩
end
end K5
set_option Elab.async false
set_option linter.all false
set_option maxRecDepth 100000
set_option maxHeartbeats 8000000
/-! The end: what the top has written, put together. -/
namespace K5
open PySem PySem.Spec PyProof.Rows L2
theorem kit_ve {K : PySem.W.Frag} {C : Addr} (h : PySem.W.subIn K (.ref C) (.type "ValueError") = some true) : PySem.W.kitOne K (.ref C) (.type "ValueError") = some true := by
  have m : PySem.W.kitMeta "ValueError" = true := by decide +kernel
  have n : ¬ (Value.ref C == Value.type "ValueError") = true := fun z => nomatch (beq_iff_eq.mp z)
  unfold PySem.W.kitOne
  rw [if_neg n]
  show (if PySem.W.kitMeta "ValueError" = true then PySem.W.subIn K (.ref C) (.type "ValueError") else none) = some true
  rw [if_pos m]
  exact h
theorem all_mk {P : Program} {w : World} {K : PySem.W.Frag} {h : Heap} {mg : Str → Option Value} {fa : Addr} (X : K.In h) (G : h.Ns mainGlobals mg) (hfa : mg "law" = some (.ref fa))
    {f_require : Addr} {od_require an_require : Option Addr} {sl_require : Array (Option Value)} {oc_require kV_require dc_require pm_require cd_require ct_require : Value}
    {f_choose : Addr} {od_choose an_choose : Option Addr} {sl_choose : Array (Option Value)} {oc_choose kV_choose dc_choose pm_choose cd_choose ct_choose : Value}
    {f_power_of : Addr} {od_power_of an_power_of : Option Addr} {sl_power_of : Array (Option Value)} {oc_power_of kV_power_of dc_power_of pm_power_of cd_power_of ct_power_of : Value}
    {f_ways_of : Addr} {od_ways_of an_ways_of : Option Addr} {sl_ways_of : Array (Option Value)} {oc_ways_of kV_ways_of dc_ways_of pm_ways_of cd_ways_of ct_ways_of : Value}
    {f_checked_rows : Addr} {od_checked_rows an_checked_rows : Option Addr} {sl_checked_rows : Array (Option Value)} {oc_checked_rows kV_checked_rows dc_checked_rows pm_checked_rows cd_checked_rows ct_checked_rows : Value}
    {f_checked_part : Addr} {od_checked_part an_checked_part : Option Addr} {sl_checked_part : Array (Option Value)} {oc_checked_part kV_checked_part dc_checked_part pm_checked_part cd_checked_part ct_checked_part : Value}
    {T_checked_part : Addr} {oT_checked_part : Value} {dT_checked_part : Option Addr} {tT_checked_part : Tok} {nT_checked_part : Nat} {sT_checked_part : Array (Option Value)}
    {f_checked : Addr} {od_checked an_checked : Option Addr} {sl_checked : Array (Option Value)} {oc_checked kV_checked dc_checked pm_checked cd_checked ct_checked : Value}
    {f_line_of : Addr} {od_line_of an_line_of : Option Addr} {sl_line_of : Array (Option Value)} {oc_line_of kV_line_of dc_line_of pm_line_of cd_line_of ct_line_of : Value}
    {f_lines_of : Addr} {od_lines_of an_lines_of : Option Addr} {sl_lines_of : Array (Option Value)} {oc_lines_of kV_lines_of dc_lines_of pm_lines_of cd_lines_of ct_lines_of : Value}
    {f_format_scheme : Addr} {od_format_scheme an_format_scheme : Option Addr} {sl_format_scheme : Array (Option Value)} {oc_format_scheme kV_format_scheme dc_format_scheme pm_format_scheme cd_format_scheme ct_format_scheme : Value}
    {f_is_number : Addr} {od_is_number an_is_number : Option Addr} {sl_is_number : Array (Option Value)} {oc_is_number kV_is_number dc_is_number pm_is_number cd_is_number ct_is_number : Value}
    {f_are_numbers : Addr} {od_are_numbers an_are_numbers : Option Addr} {sl_are_numbers : Array (Option Value)} {oc_are_numbers kV_are_numbers dc_are_numbers pm_are_numbers cd_are_numbers ct_are_numbers : Value}
    {f_is_head : Addr} {od_is_head an_is_head : Option Addr} {sl_is_head : Array (Option Value)} {oc_is_head kV_is_head dc_is_head pm_is_head cd_is_head ct_is_head : Value}
    {f_is_row : Addr} {od_is_row an_is_row : Option Addr} {sl_is_row : Array (Option Value)} {oc_is_row kV_is_row dc_is_row pm_is_row cd_is_row ct_is_row : Value}
    {f_numbers_of : Addr} {od_numbers_of an_numbers_of : Option Addr} {sl_numbers_of : Array (Option Value)} {oc_numbers_of kV_numbers_of dc_numbers_of pm_numbers_of cd_numbers_of ct_numbers_of : Value}
    {f_rows_from : Addr} {od_rows_from an_rows_from : Option Addr} {sl_rows_from : Array (Option Value)} {oc_rows_from kV_rows_from dc_rows_from pm_rows_from cd_rows_from ct_rows_from : Value}
    {f_joined : Addr} {od_joined an_joined : Option Addr} {sl_joined : Array (Option Value)} {oc_joined kV_joined dc_joined pm_joined cd_joined ct_joined : Value}
    {f_parse_scheme : Addr} {od_parse_scheme an_parse_scheme : Option Addr} {sl_parse_scheme : Array (Option Value)} {oc_parse_scheme kV_parse_scheme dc_parse_scheme pm_parse_scheme cd_parse_scheme ct_parse_scheme : Value}
    {f_Lrow : Addr} {od_Lrow an_Lrow : Option Addr} {sl_Lrow : Array (Option Value)} {oc_Lrow kV_Lrow dc_Lrow pm_Lrow cd_Lrow ct_Lrow : Value}
    {f_Lnumbers : Addr} {od_Lnumbers an_Lnumbers : Option Addr} {sl_Lnumbers : Array (Option Value)} {oc_Lnumbers kV_Lnumbers dc_Lnumbers pm_Lnumbers cd_Lnumbers ct_Lnumbers : Value}
    {f_Lsets : Addr} {od_Lsets an_Lsets : Option Addr} {sl_Lsets : Array (Option Value)} {oc_Lsets kV_Lsets dc_Lsets pm_Lsets cd_Lsets ct_Lsets : Value}
    {f_Lrows : Addr} {od_Lrows an_Lrows : Option Addr} {sl_Lrows : Array (Option Value)} {oc_Lrows kV_Lrows dc_Lrows pm_Lrows cd_Lrows ct_Lrows : Value}
    {f_Llisted : Addr} {od_Llisted an_Llisted : Option Addr} {sl_Llisted : Array (Option Value)} {oc_Llisted kV_Llisted dc_Llisted pm_Llisted cd_Llisted ct_Llisted : Value}
    {f_Lleaf : Addr} {od_Lleaf an_Lleaf : Option Addr} {sl_Lleaf : Array (Option Value)} {oc_Lleaf kV_Lleaf dc_Lleaf pm_Lleaf cd_Lleaf ct_Lleaf : Value}
    {f_Lpower : Addr} {od_Lpower an_Lpower : Option Addr} {sl_Lpower : Array (Option Value)} {oc_Lpower kV_Lpower dc_Lpower pm_Lpower cd_Lpower ct_Lpower : Value}
    {f_Lchoose : Addr} {od_Lchoose an_Lchoose : Option Addr} {sl_Lchoose : Array (Option Value)} {oc_Lchoose kV_Lchoose dc_Lchoose pm_Lchoose cd_Lchoose ct_Lchoose : Value}
    {f_Lpoints : Addr} {od_Lpoints an_Lpoints : Option Addr} {sl_Lpoints : Array (Option Value)} {oc_Lpoints kV_Lpoints dc_Lpoints pm_Lpoints cd_Lpoints ct_Lpoints : Value}
    {f_Lkinds : Addr} {od_Lkinds an_Lkinds : Option Addr} {sl_Lkinds : Array (Option Value)} {oc_Lkinds kV_Lkinds dc_Lkinds pm_Lkinds cd_Lkinds ct_Lkinds : Value}
    {f_Lmany : Addr} {od_Lmany an_Lmany : Option Addr} {sl_Lmany : Array (Option Value)} {oc_Lmany kV_Lmany dc_Lmany pm_Lmany cd_Lmany ct_Lmany : Value}
    {f_Ltree : Addr} {od_Ltree an_Ltree : Option Addr} {sl_Ltree : Array (Option Value)} {oc_Ltree kV_Ltree dc_Ltree pm_Ltree cd_Ltree ct_Ltree : Value}
    {f_Llines : Addr} {od_Llines an_Llines : Option Addr} {sl_Llines : Array (Option Value)} {oc_Llines kV_Llines dc_Llines pm_Llines cd_Llines ct_Llines : Value}
    {f_Lrefused : Addr} {od_Lrefused an_Lrefused : Option Addr} {sl_Lrefused : Array (Option Value)} {oc_Lrefused kV_Lrefused dc_Lrefused pm_Lrefused cd_Lrefused ct_Lrefused : Value}
    {f_law : Addr} {od_law an_law : Option Addr} {sl_law : Array (Option Value)} {oc_law kV_law dc_law pm_law cd_law ct_law : Value}
    {t_MOST_PARTS : Tok}
    {t_MOST_KINDS : Tok}
    {t_MOST_LISTED : Tok}
    {t_MOST_LISTED_KINDS : Tok}
    {t_MOST_LENGTH : Tok}
    {t_MOST_FIGURES : Tok}
    {t_MOST_MEMBERS : Tok}
    {t_MOST_DIGITS : Tok}
    {t_ARMS : Tok}
    {t_MOST_POINTS : Tok}
    {t_DIGITS : Tok}
    {A_MEMBERS : Addr} {N_MEMBERS : Nat} {tk_MEMBERS_words tv_MEMBERS_words tw_MEMBERS_words : Tok} {tk_MEMBERS_sets tv_MEMBERS_sets tw_MEMBERS_sets : Tok} {tk_MEMBERS_listed tv_MEMBERS_listed tw_MEMBERS_listed : Tok} {tk_MEMBERS_product tv_MEMBERS_product tw_MEMBERS_product : Tok}
    {A_NUMBERS : Addr} {N_NUMBERS : Nat} {tk_NUMBERS_words tv_NUMBERS_words tw_NUMBERS_words : Tok} {tk_NUMBERS_sets tv_NUMBERS_sets tw_NUMBERS_sets : Tok} {tk_NUMBERS_listed tv_NUMBERS_listed tw_NUMBERS_listed : Tok} {tk_NUMBERS_product tv_NUMBERS_product tw_NUMBERS_product : Tok}
    {C : Addr}
    (a_require : PySem.W.nsIn K mainGlobals "require" = some (some (.ref f_require)))
    (l_require : K.lookup f_require = some ⟨oc_require, od_require, .func (PySem.W.fnOf "require" "require" (defArgs s_require) (defBody s_require) (defScope s_require) .none kV_require dc_require pm_require an_require cd_require ct_require), sl_require⟩)
    (c_require : PySem.W.codeIn K cd_require "require" = true)
    (k_require : PySem.W.keepIn K (.ref f_require) = true)
    (a_choose : PySem.W.nsIn K mainGlobals "choose" = some (some (.ref f_choose)))
    (l_choose : K.lookup f_choose = some ⟨oc_choose, od_choose, .func (PySem.W.fnOf "choose" "choose" (defArgs s_choose) (defBody s_choose) (defScope s_choose) .none kV_choose dc_choose pm_choose an_choose cd_choose ct_choose), sl_choose⟩)
    (c_choose : PySem.W.codeIn K cd_choose "choose" = true)
    (k_choose : PySem.W.keepIn K (.ref f_choose) = true)
    (a_power_of : PySem.W.nsIn K mainGlobals "power_of" = some (some (.ref f_power_of)))
    (l_power_of : K.lookup f_power_of = some ⟨oc_power_of, od_power_of, .func (PySem.W.fnOf "power_of" "power_of" (defArgs s_power_of) (defBody s_power_of) (defScope s_power_of) .none kV_power_of dc_power_of pm_power_of an_power_of cd_power_of ct_power_of), sl_power_of⟩)
    (c_power_of : PySem.W.codeIn K cd_power_of "power_of" = true)
    (k_power_of : PySem.W.keepIn K (.ref f_power_of) = true)
    (a_ways_of : PySem.W.nsIn K mainGlobals "ways_of" = some (some (.ref f_ways_of)))
    (l_ways_of : K.lookup f_ways_of = some ⟨oc_ways_of, od_ways_of, .func (PySem.W.fnOf "ways_of" "ways_of" (defArgs s_ways_of) (defBody s_ways_of) (defScope s_ways_of) .none kV_ways_of dc_ways_of pm_ways_of an_ways_of cd_ways_of ct_ways_of), sl_ways_of⟩)
    (c_ways_of : PySem.W.codeIn K cd_ways_of "ways_of" = true)
    (k_ways_of : PySem.W.keepIn K (.ref f_ways_of) = true)
    (a_checked_rows : PySem.W.nsIn K mainGlobals "checked_rows" = some (some (.ref f_checked_rows)))
    (l_checked_rows : K.lookup f_checked_rows = some ⟨oc_checked_rows, od_checked_rows, .func (PySem.W.fnOf "checked_rows" "checked_rows" (defArgs s_checked_rows) (defBody s_checked_rows) (defScope s_checked_rows) .none kV_checked_rows dc_checked_rows pm_checked_rows an_checked_rows cd_checked_rows ct_checked_rows), sl_checked_rows⟩)
    (c_checked_rows : PySem.W.codeIn K cd_checked_rows "checked_rows" = true)
    (k_checked_rows : PySem.W.keepIn K (.ref f_checked_rows) = true)
    (a_checked_part : PySem.W.nsIn K mainGlobals "checked_part" = some (some (.ref f_checked_part)))
    (l_checked_part : K.lookup f_checked_part = some ⟨oc_checked_part, od_checked_part, .func (PySem.W.fnOf "checked_part" "checked_part" (defArgs s_checked_part) (defBody s_checked_part) (defScope s_checked_part) (.ref T_checked_part) kV_checked_part dc_checked_part pm_checked_part an_checked_part cd_checked_part ct_checked_part), sl_checked_part⟩)
    (t_checked_part : K.lookup T_checked_part = some ⟨oT_checked_part, dT_checked_part, .seq (([Value.int 1 tT_checked_part] : List Value).toArray) nT_checked_part, sT_checked_part⟩)
    (c_checked_part : PySem.W.codeIn K cd_checked_part "checked_part" = true)
    (k_checked_part : PySem.W.keepIn K (.ref f_checked_part) = true)
    (a_checked : PySem.W.nsIn K mainGlobals "checked" = some (some (.ref f_checked)))
    (l_checked : K.lookup f_checked = some ⟨oc_checked, od_checked, .func (PySem.W.fnOf "checked" "checked" (defArgs s_checked) (defBody s_checked) (defScope s_checked) .none kV_checked dc_checked pm_checked an_checked cd_checked ct_checked), sl_checked⟩)
    (c_checked : PySem.W.codeIn K cd_checked "checked" = true)
    (k_checked : PySem.W.keepIn K (.ref f_checked) = true)
    (a_line_of : PySem.W.nsIn K mainGlobals "line_of" = some (some (.ref f_line_of)))
    (l_line_of : K.lookup f_line_of = some ⟨oc_line_of, od_line_of, .func (PySem.W.fnOf "line_of" "line_of" (defArgs s_line_of) (defBody s_line_of) (defScope s_line_of) .none kV_line_of dc_line_of pm_line_of an_line_of cd_line_of ct_line_of), sl_line_of⟩)
    (c_line_of : PySem.W.codeIn K cd_line_of "line_of" = true)
    (k_line_of : PySem.W.keepIn K (.ref f_line_of) = true)
    (a_lines_of : PySem.W.nsIn K mainGlobals "lines_of" = some (some (.ref f_lines_of)))
    (l_lines_of : K.lookup f_lines_of = some ⟨oc_lines_of, od_lines_of, .func (PySem.W.fnOf "lines_of" "lines_of" (defArgs s_lines_of) (defBody s_lines_of) (defScope s_lines_of) .none kV_lines_of dc_lines_of pm_lines_of an_lines_of cd_lines_of ct_lines_of), sl_lines_of⟩)
    (c_lines_of : PySem.W.codeIn K cd_lines_of "lines_of" = true)
    (k_lines_of : PySem.W.keepIn K (.ref f_lines_of) = true)
    (a_format_scheme : PySem.W.nsIn K mainGlobals "format_scheme" = some (some (.ref f_format_scheme)))
    (l_format_scheme : K.lookup f_format_scheme = some ⟨oc_format_scheme, od_format_scheme, .func (PySem.W.fnOf "format_scheme" "format_scheme" (defArgs s_format_scheme) (defBody s_format_scheme) (defScope s_format_scheme) .none kV_format_scheme dc_format_scheme pm_format_scheme an_format_scheme cd_format_scheme ct_format_scheme), sl_format_scheme⟩)
    (c_format_scheme : PySem.W.codeIn K cd_format_scheme "format_scheme" = true)
    (k_format_scheme : PySem.W.keepIn K (.ref f_format_scheme) = true)
    (a_is_number : PySem.W.nsIn K mainGlobals "is_number" = some (some (.ref f_is_number)))
    (l_is_number : K.lookup f_is_number = some ⟨oc_is_number, od_is_number, .func (PySem.W.fnOf "is_number" "is_number" (defArgs s_is_number) (defBody s_is_number) (defScope s_is_number) .none kV_is_number dc_is_number pm_is_number an_is_number cd_is_number ct_is_number), sl_is_number⟩)
    (c_is_number : PySem.W.codeIn K cd_is_number "is_number" = true)
    (k_is_number : PySem.W.keepIn K (.ref f_is_number) = true)
    (a_are_numbers : PySem.W.nsIn K mainGlobals "are_numbers" = some (some (.ref f_are_numbers)))
    (l_are_numbers : K.lookup f_are_numbers = some ⟨oc_are_numbers, od_are_numbers, .func (PySem.W.fnOf "are_numbers" "are_numbers" (defArgs s_are_numbers) (defBody s_are_numbers) (defScope s_are_numbers) .none kV_are_numbers dc_are_numbers pm_are_numbers an_are_numbers cd_are_numbers ct_are_numbers), sl_are_numbers⟩)
    (c_are_numbers : PySem.W.codeIn K cd_are_numbers "are_numbers" = true)
    (k_are_numbers : PySem.W.keepIn K (.ref f_are_numbers) = true)
    (a_is_head : PySem.W.nsIn K mainGlobals "is_head" = some (some (.ref f_is_head)))
    (l_is_head : K.lookup f_is_head = some ⟨oc_is_head, od_is_head, .func (PySem.W.fnOf "is_head" "is_head" (defArgs s_is_head) (defBody s_is_head) (defScope s_is_head) .none kV_is_head dc_is_head pm_is_head an_is_head cd_is_head ct_is_head), sl_is_head⟩)
    (c_is_head : PySem.W.codeIn K cd_is_head "is_head" = true)
    (k_is_head : PySem.W.keepIn K (.ref f_is_head) = true)
    (a_is_row : PySem.W.nsIn K mainGlobals "is_row" = some (some (.ref f_is_row)))
    (l_is_row : K.lookup f_is_row = some ⟨oc_is_row, od_is_row, .func (PySem.W.fnOf "is_row" "is_row" (defArgs s_is_row) (defBody s_is_row) (defScope s_is_row) .none kV_is_row dc_is_row pm_is_row an_is_row cd_is_row ct_is_row), sl_is_row⟩)
    (c_is_row : PySem.W.codeIn K cd_is_row "is_row" = true)
    (k_is_row : PySem.W.keepIn K (.ref f_is_row) = true)
    (a_numbers_of : PySem.W.nsIn K mainGlobals "numbers_of" = some (some (.ref f_numbers_of)))
    (l_numbers_of : K.lookup f_numbers_of = some ⟨oc_numbers_of, od_numbers_of, .func (PySem.W.fnOf "numbers_of" "numbers_of" (defArgs s_numbers_of) (defBody s_numbers_of) (defScope s_numbers_of) .none kV_numbers_of dc_numbers_of pm_numbers_of an_numbers_of cd_numbers_of ct_numbers_of), sl_numbers_of⟩)
    (c_numbers_of : PySem.W.codeIn K cd_numbers_of "numbers_of" = true)
    (k_numbers_of : PySem.W.keepIn K (.ref f_numbers_of) = true)
    (a_rows_from : PySem.W.nsIn K mainGlobals "rows_from" = some (some (.ref f_rows_from)))
    (l_rows_from : K.lookup f_rows_from = some ⟨oc_rows_from, od_rows_from, .func (PySem.W.fnOf "rows_from" "rows_from" (defArgs s_rows_from) (defBody s_rows_from) (defScope s_rows_from) .none kV_rows_from dc_rows_from pm_rows_from an_rows_from cd_rows_from ct_rows_from), sl_rows_from⟩)
    (c_rows_from : PySem.W.codeIn K cd_rows_from "rows_from" = true)
    (k_rows_from : PySem.W.keepIn K (.ref f_rows_from) = true)
    (a_joined : PySem.W.nsIn K mainGlobals "joined" = some (some (.ref f_joined)))
    (l_joined : K.lookup f_joined = some ⟨oc_joined, od_joined, .func (PySem.W.fnOf "joined" "joined" (defArgs s_joined) (defBody s_joined) (defScope s_joined) .none kV_joined dc_joined pm_joined an_joined cd_joined ct_joined), sl_joined⟩)
    (c_joined : PySem.W.codeIn K cd_joined "joined" = true)
    (k_joined : PySem.W.keepIn K (.ref f_joined) = true)
    (a_parse_scheme : PySem.W.nsIn K mainGlobals "parse_scheme" = some (some (.ref f_parse_scheme)))
    (l_parse_scheme : K.lookup f_parse_scheme = some ⟨oc_parse_scheme, od_parse_scheme, .func (PySem.W.fnOf "parse_scheme" "parse_scheme" (defArgs s_parse_scheme) (defBody s_parse_scheme) (defScope s_parse_scheme) .none kV_parse_scheme dc_parse_scheme pm_parse_scheme an_parse_scheme cd_parse_scheme ct_parse_scheme), sl_parse_scheme⟩)
    (c_parse_scheme : PySem.W.codeIn K cd_parse_scheme "parse_scheme" = true)
    (k_parse_scheme : PySem.W.keepIn K (.ref f_parse_scheme) = true)
    (a_Lrow : PySem.W.nsIn K mainGlobals "_law_row" = some (some (.ref f_Lrow)))
    (l_Lrow : K.lookup f_Lrow = some ⟨oc_Lrow, od_Lrow, .func (PySem.W.fnOf "_law_row" "_law_row" (defArgs s_Lrow) (defBody s_Lrow) (defScope s_Lrow) .none kV_Lrow dc_Lrow pm_Lrow an_Lrow cd_Lrow ct_Lrow), sl_Lrow⟩)
    (c_Lrow : PySem.W.codeIn K cd_Lrow "_law_row" = true)
    (k_Lrow : PySem.W.keepIn K (.ref f_Lrow) = true)
    (a_Lnumbers : PySem.W.nsIn K mainGlobals "_law_numbers" = some (some (.ref f_Lnumbers)))
    (l_Lnumbers : K.lookup f_Lnumbers = some ⟨oc_Lnumbers, od_Lnumbers, .func (PySem.W.fnOf "_law_numbers" "_law_numbers" (defArgs s_Lnumbers) (defBody s_Lnumbers) (defScope s_Lnumbers) .none kV_Lnumbers dc_Lnumbers pm_Lnumbers an_Lnumbers cd_Lnumbers ct_Lnumbers), sl_Lnumbers⟩)
    (c_Lnumbers : PySem.W.codeIn K cd_Lnumbers "_law_numbers" = true)
    (k_Lnumbers : PySem.W.keepIn K (.ref f_Lnumbers) = true)
    (a_Lsets : PySem.W.nsIn K mainGlobals "_law_sets" = some (some (.ref f_Lsets)))
    (l_Lsets : K.lookup f_Lsets = some ⟨oc_Lsets, od_Lsets, .func (PySem.W.fnOf "_law_sets" "_law_sets" (defArgs s_Lsets) (defBody s_Lsets) (defScope s_Lsets) .none kV_Lsets dc_Lsets pm_Lsets an_Lsets cd_Lsets ct_Lsets), sl_Lsets⟩)
    (c_Lsets : PySem.W.codeIn K cd_Lsets "_law_sets" = true)
    (k_Lsets : PySem.W.keepIn K (.ref f_Lsets) = true)
    (a_Lrows : PySem.W.nsIn K mainGlobals "_law_rows" = some (some (.ref f_Lrows)))
    (l_Lrows : K.lookup f_Lrows = some ⟨oc_Lrows, od_Lrows, .func (PySem.W.fnOf "_law_rows" "_law_rows" (defArgs s_Lrows) (defBody s_Lrows) (defScope s_Lrows) .none kV_Lrows dc_Lrows pm_Lrows an_Lrows cd_Lrows ct_Lrows), sl_Lrows⟩)
    (c_Lrows : PySem.W.codeIn K cd_Lrows "_law_rows" = true)
    (k_Lrows : PySem.W.keepIn K (.ref f_Lrows) = true)
    (a_Llisted : PySem.W.nsIn K mainGlobals "_law_listed" = some (some (.ref f_Llisted)))
    (l_Llisted : K.lookup f_Llisted = some ⟨oc_Llisted, od_Llisted, .func (PySem.W.fnOf "_law_listed" "_law_listed" (defArgs s_Llisted) (defBody s_Llisted) (defScope s_Llisted) .none kV_Llisted dc_Llisted pm_Llisted an_Llisted cd_Llisted ct_Llisted), sl_Llisted⟩)
    (c_Llisted : PySem.W.codeIn K cd_Llisted "_law_listed" = true)
    (k_Llisted : PySem.W.keepIn K (.ref f_Llisted) = true)
    (a_Lleaf : PySem.W.nsIn K mainGlobals "_law_leaf" = some (some (.ref f_Lleaf)))
    (l_Lleaf : K.lookup f_Lleaf = some ⟨oc_Lleaf, od_Lleaf, .func (PySem.W.fnOf "_law_leaf" "_law_leaf" (defArgs s_Lleaf) (defBody s_Lleaf) (defScope s_Lleaf) .none kV_Lleaf dc_Lleaf pm_Lleaf an_Lleaf cd_Lleaf ct_Lleaf), sl_Lleaf⟩)
    (c_Lleaf : PySem.W.codeIn K cd_Lleaf "_law_leaf" = true)
    (k_Lleaf : PySem.W.keepIn K (.ref f_Lleaf) = true)
    (a_Lpower : PySem.W.nsIn K mainGlobals "_law_power" = some (some (.ref f_Lpower)))
    (l_Lpower : K.lookup f_Lpower = some ⟨oc_Lpower, od_Lpower, .func (PySem.W.fnOf "_law_power" "_law_power" (defArgs s_Lpower) (defBody s_Lpower) (defScope s_Lpower) .none kV_Lpower dc_Lpower pm_Lpower an_Lpower cd_Lpower ct_Lpower), sl_Lpower⟩)
    (c_Lpower : PySem.W.codeIn K cd_Lpower "_law_power" = true)
    (k_Lpower : PySem.W.keepIn K (.ref f_Lpower) = true)
    (a_Lchoose : PySem.W.nsIn K mainGlobals "_law_choose" = some (some (.ref f_Lchoose)))
    (l_Lchoose : K.lookup f_Lchoose = some ⟨oc_Lchoose, od_Lchoose, .func (PySem.W.fnOf "_law_choose" "_law_choose" (defArgs s_Lchoose) (defBody s_Lchoose) (defScope s_Lchoose) .none kV_Lchoose dc_Lchoose pm_Lchoose an_Lchoose cd_Lchoose ct_Lchoose), sl_Lchoose⟩)
    (c_Lchoose : PySem.W.codeIn K cd_Lchoose "_law_choose" = true)
    (k_Lchoose : PySem.W.keepIn K (.ref f_Lchoose) = true)
    (a_Lpoints : PySem.W.nsIn K mainGlobals "_law_points" = some (some (.ref f_Lpoints)))
    (l_Lpoints : K.lookup f_Lpoints = some ⟨oc_Lpoints, od_Lpoints, .func (PySem.W.fnOf "_law_points" "_law_points" (defArgs s_Lpoints) (defBody s_Lpoints) (defScope s_Lpoints) .none kV_Lpoints dc_Lpoints pm_Lpoints an_Lpoints cd_Lpoints ct_Lpoints), sl_Lpoints⟩)
    (c_Lpoints : PySem.W.codeIn K cd_Lpoints "_law_points" = true)
    (k_Lpoints : PySem.W.keepIn K (.ref f_Lpoints) = true)
    (a_Lkinds : PySem.W.nsIn K mainGlobals "_law_kinds" = some (some (.ref f_Lkinds)))
    (l_Lkinds : K.lookup f_Lkinds = some ⟨oc_Lkinds, od_Lkinds, .func (PySem.W.fnOf "_law_kinds" "_law_kinds" (defArgs s_Lkinds) (defBody s_Lkinds) (defScope s_Lkinds) .none kV_Lkinds dc_Lkinds pm_Lkinds an_Lkinds cd_Lkinds ct_Lkinds), sl_Lkinds⟩)
    (c_Lkinds : PySem.W.codeIn K cd_Lkinds "_law_kinds" = true)
    (k_Lkinds : PySem.W.keepIn K (.ref f_Lkinds) = true)
    (a_Lmany : PySem.W.nsIn K mainGlobals "_law_many" = some (some (.ref f_Lmany)))
    (l_Lmany : K.lookup f_Lmany = some ⟨oc_Lmany, od_Lmany, .func (PySem.W.fnOf "_law_many" "_law_many" (defArgs s_Lmany) (defBody s_Lmany) (defScope s_Lmany) .none kV_Lmany dc_Lmany pm_Lmany an_Lmany cd_Lmany ct_Lmany), sl_Lmany⟩)
    (c_Lmany : PySem.W.codeIn K cd_Lmany "_law_many" = true)
    (k_Lmany : PySem.W.keepIn K (.ref f_Lmany) = true)
    (a_Ltree : PySem.W.nsIn K mainGlobals "_law_tree" = some (some (.ref f_Ltree)))
    (l_Ltree : K.lookup f_Ltree = some ⟨oc_Ltree, od_Ltree, .func (PySem.W.fnOf "_law_tree" "_law_tree" (defArgs s_Ltree) (defBody s_Ltree) (defScope s_Ltree) .none kV_Ltree dc_Ltree pm_Ltree an_Ltree cd_Ltree ct_Ltree), sl_Ltree⟩)
    (c_Ltree : PySem.W.codeIn K cd_Ltree "_law_tree" = true)
    (k_Ltree : PySem.W.keepIn K (.ref f_Ltree) = true)
    (a_Llines : PySem.W.nsIn K mainGlobals "_law_lines" = some (some (.ref f_Llines)))
    (l_Llines : K.lookup f_Llines = some ⟨oc_Llines, od_Llines, .func (PySem.W.fnOf "_law_lines" "_law_lines" (defArgs s_Llines) (defBody s_Llines) (defScope s_Llines) .none kV_Llines dc_Llines pm_Llines an_Llines cd_Llines ct_Llines), sl_Llines⟩)
    (c_Llines : PySem.W.codeIn K cd_Llines "_law_lines" = true)
    (k_Llines : PySem.W.keepIn K (.ref f_Llines) = true)
    (a_Lrefused : PySem.W.nsIn K mainGlobals "_law_refused" = some (some (.ref f_Lrefused)))
    (l_Lrefused : K.lookup f_Lrefused = some ⟨oc_Lrefused, od_Lrefused, .func (PySem.W.fnOf "_law_refused" "_law_refused" (defArgs s_Lrefused) (defBody s_Lrefused) (defScope s_Lrefused) .none kV_Lrefused dc_Lrefused pm_Lrefused an_Lrefused cd_Lrefused ct_Lrefused), sl_Lrefused⟩)
    (c_Lrefused : PySem.W.codeIn K cd_Lrefused "_law_refused" = true)
    (k_Lrefused : PySem.W.keepIn K (.ref f_Lrefused) = true)
    (a_law : PySem.W.nsIn K mainGlobals "law" = some (some (.ref f_law)))
    (l_law : K.lookup f_law = some ⟨oc_law, od_law, .func (PySem.W.fnOf "law" "law" (defArgs s_law) (defBody s_law) (defScope s_law) .none kV_law dc_law pm_law an_law cd_law ct_law), sl_law⟩)
    (c_law : PySem.W.codeIn K cd_law "law" = true)
    (k_law : PySem.W.keepIn K (.ref f_law) = true)
    (z_len : PySem.W.nsIn K mainGlobals "len" = some none)
    (z_all : PySem.W.nsIn K mainGlobals "all" = some none)
    (z_tuple : PySem.W.nsIn K mainGlobals "tuple" = some none)
    (z_sorted : PySem.W.nsIn K mainGlobals "sorted" = some none)
    (z_list : PySem.W.nsIn K mainGlobals "list" = some none)
    (z_range : PySem.W.nsIn K mainGlobals "range" = some none)
    (z_zip : PySem.W.nsIn K mainGlobals "zip" = some none)
    (z_max : PySem.W.nsIn K mainGlobals "max" = some none)
    (z_str : PySem.W.nsIn K mainGlobals "str" = some none)
    (z_int : PySem.W.nsIn K mainGlobals "int" = some none)
    (z_isinstance : PySem.W.nsIn K mainGlobals "isinstance" = some none)
    (z_abs : PySem.W.nsIn K mainGlobals "abs" = some none)
    (z_ValueError : PySem.W.nsIn K mainGlobals "ValueError" = some none)
    (g_MOST_PARTS : PySem.W.nsIn K mainGlobals "MOST_PARTS" = some (some (.int 8 t_MOST_PARTS)))
    (g_MOST_KINDS : PySem.W.nsIn K mainGlobals "MOST_KINDS" = some (some (.int 60 t_MOST_KINDS)))
    (g_MOST_LISTED : PySem.W.nsIn K mainGlobals "MOST_LISTED" = some (some (.int 24 t_MOST_LISTED)))
    (g_MOST_LISTED_KINDS : PySem.W.nsIn K mainGlobals "MOST_LISTED_KINDS" = some (some (.int 8 t_MOST_LISTED_KINDS)))
    (g_MOST_LENGTH : PySem.W.nsIn K mainGlobals "MOST_LENGTH" = some (some (.int 40 t_MOST_LENGTH)))
    (g_MOST_FIGURES : PySem.W.nsIn K mainGlobals "MOST_FIGURES" = some (some (.int 1000 t_MOST_FIGURES)))
    (g_MOST_MEMBERS : PySem.W.nsIn K mainGlobals "MOST_MEMBERS" = some (some (.int 80 t_MOST_MEMBERS)))
    (g_MOST_DIGITS : PySem.W.nsIn K mainGlobals "MOST_DIGITS" = some (some (.int 61 t_MOST_DIGITS)))
    (g_ARMS : PySem.W.nsIn K mainGlobals "ARMS" = some (some (.int 2 t_ARMS)))
    (g_MOST_POINTS : PySem.W.nsIn K mainGlobals "MOST_POINTS" = some (some (.int 1000000000000000000000000000000000000000000000000000000000000 t_MOST_POINTS)))
    (g_DIGITS : PySem.W.nsIn K mainGlobals "DIGITS" = some (some (.str "0123456789" t_DIGITS)))
    (a_MEMBERS : PySem.W.nsIn K mainGlobals "MEMBERS" = some (some (.ref A_MEMBERS)))
    (l_MEMBERS : K.lookup A_MEMBERS = some ⟨.type "dict", none, .dict #[{ hash := PyData.keyHash w.params "words", key := .str "words" tk_MEMBERS_words, val := .int 3 tv_MEMBERS_words }, { hash := PyData.keyHash w.params "sets", key := .str "sets" tk_MEMBERS_sets, val := .int 3 tv_MEMBERS_sets }, { hash := PyData.keyHash w.params "listed", key := .str "listed" tk_MEMBERS_listed, val := .int 2 tv_MEMBERS_listed }, { hash := PyData.keyHash w.params "product", key := .str "product" tk_MEMBERS_product, val := .int 3 tv_MEMBERS_product }] N_MEMBERS, #[]⟩)
    (w_MEMBERS : (A_MEMBERS == sysModules) = false)
    (v_MEMBERS_words : PySem.W.nsIn K A_MEMBERS "words" = some (some (.int 3 tw_MEMBERS_words)))
    (v_MEMBERS_sets : PySem.W.nsIn K A_MEMBERS "sets" = some (some (.int 3 tw_MEMBERS_sets)))
    (v_MEMBERS_listed : PySem.W.nsIn K A_MEMBERS "listed" = some (some (.int 2 tw_MEMBERS_listed)))
    (v_MEMBERS_product : PySem.W.nsIn K A_MEMBERS "product" = some (some (.int 3 tw_MEMBERS_product)))
    (a_NUMBERS : PySem.W.nsIn K mainGlobals "NUMBERS" = some (some (.ref A_NUMBERS)))
    (l_NUMBERS : K.lookup A_NUMBERS = some ⟨.type "dict", none, .dict #[{ hash := PyData.keyHash w.params "words", key := .str "words" tk_NUMBERS_words, val := .int 2 tv_NUMBERS_words }, { hash := PyData.keyHash w.params "sets", key := .str "sets" tk_NUMBERS_sets, val := .int 2 tv_NUMBERS_sets }, { hash := PyData.keyHash w.params "listed", key := .str "listed" tk_NUMBERS_listed, val := .int 1 tv_NUMBERS_listed }, { hash := PyData.keyHash w.params "product", key := .str "product" tk_NUMBERS_product, val := .int 0 tv_NUMBERS_product }] N_NUMBERS, #[]⟩)
    (w_NUMBERS : (A_NUMBERS == sysModules) = false)
    (v_NUMBERS_words : PySem.W.nsIn K A_NUMBERS "words" = some (some (.int 2 tw_NUMBERS_words)))
    (v_NUMBERS_sets : PySem.W.nsIn K A_NUMBERS "sets" = some (some (.int 2 tw_NUMBERS_sets)))
    (v_NUMBERS_listed : PySem.W.nsIn K A_NUMBERS "listed" = some (some (.int 1 tw_NUMBERS_listed)))
    (v_NUMBERS_product : PySem.W.nsIn K A_NUMBERS "product" = some (some (.int 0 tw_NUMBERS_product)))
    (gC : PySem.W.nsIn K mainGlobals "InvalidScheme" = some (some (.ref C)))
    (xC : PySem.W.excIn K C [.type "ValueError", .type "Exception", .type "BaseException", .type "object"] "ValueError.__new__" = true)
    (kC : PySem.W.keepIn K (.ref C) = true)
    (bC : PySem.W.subIn K (.ref C) (.type "BaseException") = some true)
    (tC : PySem.W.typeIn K (.ref C) = some (.type "type"))
    (sC : PySem.W.subIn K (.ref C) (.ref C) = some true)
    (eg : PySem.W.findIn K (.ref C) "__getattribute__" = some (some (.builtin "BaseException.__getattribute__")))
    (ek : PySem.W.findIn K (.ref C) "__getattr__" = some none)
    (ed : PySem.W.hasDictIn K C = true)
    (ea : PySem.W.findIn K (.ref C) "__class__" = some (some (.builtin "object.__class__")))
    (en : PySem.W.specialIn K (.builtin "object.__class__") "__get__" = some (some (.builtin "getset_descriptor.__get__")))
    (et : PySem.W.takesIn K (.builtin "object.__class__") = some true)
    (em : PySem.W.mroIn K C (.type "object") = some true)
    (vS : PySem.W.subIn K (.ref C) (.type "ValueError") = some true) :
    ∃ fd : FuncData, (∀ (s : Shared) (v : Value), BindsTo s fd ⟨[v], []⟩ [("_law_script", v)]) ∧ ∀ base : Heap, K.In base → base.Ns mainGlobals mg → FnOk P w K mg base CX0 15 fa fd ["_law_script"] (spLaw K) := by
  have e := hfa.symm.trans (PySem.W.mg_of X G a_law)
  cases e
  have F_require := fun_mk (st := s_require) l_require c_require k_require
  have b_require := F_require.binds (ps := p_require) fun _ _ _ _ _ _ us hl => match us, hl with | [_], _ => rfl
  have F_choose := fun_mk (st := s_choose) l_choose c_choose k_choose
  have b_choose := F_choose.binds (ps := p_choose) fun _ _ _ _ _ _ us hl => match us, hl with | [_, _], _ => rfl
  have F_power_of := fun_mk (st := s_power_of) l_power_of c_power_of k_power_of
  have b_power_of := F_power_of.binds (ps := p_power_of) fun _ _ _ _ _ _ us hl => match us, hl with | [_, _], _ => rfl
  have F_ways_of := fun_mk (st := s_ways_of) l_ways_of c_ways_of k_ways_of
  have b_ways_of := F_ways_of.binds (ps := p_ways_of) fun _ _ _ _ _ _ us hl => match us, hl with | [_, _, _], _ => rfl
  have F_checked_rows := fun_mk (st := s_checked_rows) l_checked_rows c_checked_rows k_checked_rows
  have b_checked_rows := F_checked_rows.binds (ps := p_checked_rows) fun _ _ _ _ _ _ us hl => match us, hl with | [_], _ => rfl
  have F_checked_part : FunD K "checked_part" "checked_part" (defArgs s_checked_part) (defBody s_checked_part) (defScope s_checked_part) [.int 1] [] f_checked_part (PySem.W.fnOf "checked_part" "checked_part" (defArgs s_checked_part) (defBody s_checked_part) (defScope s_checked_part) (.ref T_checked_part) kV_checked_part dc_checked_part pm_checked_part an_checked_part cd_checked_part ct_checked_part) := ⟨⟨_, _, _, _, _, _, _, _, _, _, rfl, l_checked_part, c_checked_part, .inr ⟨by simp, _, _, _, _, rfl, t_checked_part, rfl, .cons ⟨_, rfl⟩ .nil⟩, .inl rfl⟩, k_checked_part⟩
  have b1_checked_part := F_checked_part.binds1 (ps := p_checked_part) 1 0 (by simp) rfl fun T kV doc pm an cdv ct us its hu hi => match us, its, hu, hi with | [_], [_], _, _ => ⟨_, rfl, rfl⟩
  obtain ⟨ds2, hv2, b2_checked_part⟩ := F_checked_part.binds1 (ps := p_checked_part) 2 1 (by simp) rfl fun T kV doc pm an cdv ct us its hu hi => match us, its, hu, hi with | [_, _], [_], _, _ => ⟨_, rfl, rfl⟩
  cases hv2
  have F_checked := fun_mk (st := s_checked) l_checked c_checked k_checked
  have b_checked := F_checked.binds (ps := p_checked) fun _ _ _ _ _ _ us hl => match us, hl with | [_], _ => rfl
  have F_line_of := fun_mk (st := s_line_of) l_line_of c_line_of k_line_of
  have b_line_of := F_line_of.binds (ps := p_line_of) fun _ _ _ _ _ _ us hl => match us, hl with | [_, _], _ => rfl
  have F_lines_of := fun_mk (st := s_lines_of) l_lines_of c_lines_of k_lines_of
  have b_lines_of := F_lines_of.binds (ps := p_lines_of) fun _ _ _ _ _ _ us hl => match us, hl with | [_], _ => rfl
  have F_format_scheme := fun_mk (st := s_format_scheme) l_format_scheme c_format_scheme k_format_scheme
  have b_format_scheme := F_format_scheme.binds (ps := p_format_scheme) fun _ _ _ _ _ _ us hl => match us, hl with | [_], _ => rfl
  have F_is_number := fun_mk (st := s_is_number) l_is_number c_is_number k_is_number
  have b_is_number := F_is_number.binds (ps := p_is_number) fun _ _ _ _ _ _ us hl => match us, hl with | [_], _ => rfl
  have F_are_numbers := fun_mk (st := s_are_numbers) l_are_numbers c_are_numbers k_are_numbers
  have b_are_numbers := F_are_numbers.binds (ps := p_are_numbers) fun _ _ _ _ _ _ us hl => match us, hl with | [_], _ => rfl
  have F_is_head := fun_mk (st := s_is_head) l_is_head c_is_head k_is_head
  have b_is_head := F_is_head.binds (ps := p_is_head) fun _ _ _ _ _ _ us hl => match us, hl with | [_], _ => rfl
  have F_is_row := fun_mk (st := s_is_row) l_is_row c_is_row k_is_row
  have b_is_row := F_is_row.binds (ps := p_is_row) fun _ _ _ _ _ _ us hl => match us, hl with | [_], _ => rfl
  have F_numbers_of := fun_mk (st := s_numbers_of) l_numbers_of c_numbers_of k_numbers_of
  have b_numbers_of := F_numbers_of.binds (ps := p_numbers_of) fun _ _ _ _ _ _ us hl => match us, hl with | [_], _ => rfl
  have F_rows_from := fun_mk (st := s_rows_from) l_rows_from c_rows_from k_rows_from
  have b_rows_from := F_rows_from.binds (ps := p_rows_from) fun _ _ _ _ _ _ us hl => match us, hl with | [_, _], _ => rfl
  have F_joined := fun_mk (st := s_joined) l_joined c_joined k_joined
  have b_joined := F_joined.binds (ps := p_joined) fun _ _ _ _ _ _ us hl => match us, hl with | [_, _], _ => rfl
  have F_parse_scheme := fun_mk (st := s_parse_scheme) l_parse_scheme c_parse_scheme k_parse_scheme
  have b_parse_scheme := F_parse_scheme.binds (ps := p_parse_scheme) fun _ _ _ _ _ _ us hl => match us, hl with | [_], _ => rfl
  have F_Lrow := fun_mk (st := s_Lrow) l_Lrow c_Lrow k_Lrow
  have b_Lrow := F_Lrow.binds (ps := p_Lrow) fun _ _ _ _ _ _ us hl => match us, hl with | [_, _], _ => rfl
  have F_Lnumbers := fun_mk (st := s_Lnumbers) l_Lnumbers c_Lnumbers k_Lnumbers
  have b_Lnumbers := F_Lnumbers.binds (ps := p_Lnumbers) fun _ _ _ _ _ _ us hl => match us, hl with | [_, _], _ => rfl
  have F_Lsets := fun_mk (st := s_Lsets) l_Lsets c_Lsets k_Lsets
  have b_Lsets := F_Lsets.binds (ps := p_Lsets) fun _ _ _ _ _ _ us hl => match us, hl with | [_, _], _ => rfl
  have F_Lrows := fun_mk (st := s_Lrows) l_Lrows c_Lrows k_Lrows
  have b_Lrows := F_Lrows.binds (ps := p_Lrows) fun _ _ _ _ _ _ us hl => match us, hl with | [_], _ => rfl
  have F_Llisted := fun_mk (st := s_Llisted) l_Llisted c_Llisted k_Llisted
  have b_Llisted := F_Llisted.binds (ps := p_Llisted) fun _ _ _ _ _ _ us hl => match us, hl with | [_, _], _ => rfl
  have F_Lleaf := fun_mk (st := s_Lleaf) l_Lleaf c_Lleaf k_Lleaf
  have b_Lleaf := F_Lleaf.binds (ps := p_Lleaf) fun _ _ _ _ _ _ us hl => match us, hl with | [_, _], _ => rfl
  have F_Lpower := fun_mk (st := s_Lpower) l_Lpower c_Lpower k_Lpower
  have b_Lpower := F_Lpower.binds (ps := p_Lpower) fun _ _ _ _ _ _ us hl => match us, hl with | [_, _], _ => rfl
  have F_Lchoose := fun_mk (st := s_Lchoose) l_Lchoose c_Lchoose k_Lchoose
  have b_Lchoose := F_Lchoose.binds (ps := p_Lchoose) fun _ _ _ _ _ _ us hl => match us, hl with | [_, _], _ => rfl
  have F_Lpoints := fun_mk (st := s_Lpoints) l_Lpoints c_Lpoints k_Lpoints
  have b_Lpoints := F_Lpoints.binds (ps := p_Lpoints) fun _ _ _ _ _ _ us hl => match us, hl with | [_], _ => rfl
  have F_Lkinds := fun_mk (st := s_Lkinds) l_Lkinds c_Lkinds k_Lkinds
  have b_Lkinds := F_Lkinds.binds (ps := p_Lkinds) fun _ _ _ _ _ _ us hl => match us, hl with | [_], _ => rfl
  have F_Lmany := fun_mk (st := s_Lmany) l_Lmany c_Lmany k_Lmany
  have b_Lmany := F_Lmany.binds (ps := p_Lmany) fun _ _ _ _ _ _ us hl => match us, hl with | [_], _ => rfl
  have F_Ltree := fun_mk (st := s_Ltree) l_Ltree c_Ltree k_Ltree
  have b_Ltree := F_Ltree.binds (ps := p_Ltree) fun _ _ _ _ _ _ us hl => match us, hl with | [_, _], _ => rfl
  have F_Llines := fun_mk (st := s_Llines) l_Llines c_Llines k_Llines
  have b_Llines := F_Llines.binds (ps := p_Llines) fun _ _ _ _ _ _ us hl => match us, hl with | [_], _ => rfl
  have F_Lrefused := fun_mk (st := s_Lrefused) l_Lrefused c_Lrefused k_Lrefused
  have b_Lrefused := F_Lrefused.binds (ps := p_Lrefused) fun _ _ _ _ _ _ us hl => match us, hl with | [_], _ => rfl
  have F_law := fun_mk (st := s_law) l_law c_law k_law
  have b_law := F_law.binds (ps := p_law) fun _ _ _ _ _ _ us hl => match us, hl with | [_], _ => rfl
  let T : Txt w K mg :=
    { a_require := f_require, d_require := _, F_require := F_require,
      b_require := b_require,
      k_require := k_require, m_require := PySem.W.mg_of X G a_require,
      a_choose := f_choose, d_choose := _, F_choose := F_choose,
      b_choose := b_choose,
      k_choose := k_choose, m_choose := PySem.W.mg_of X G a_choose,
      a_power_of := f_power_of, d_power_of := _, F_power_of := F_power_of,
      b_power_of := b_power_of,
      k_power_of := k_power_of, m_power_of := PySem.W.mg_of X G a_power_of,
      a_ways_of := f_ways_of, d_ways_of := _, F_ways_of := F_ways_of,
      b_ways_of := b_ways_of,
      k_ways_of := k_ways_of, m_ways_of := PySem.W.mg_of X G a_ways_of,
      a_checked_rows := f_checked_rows, d_checked_rows := _, F_checked_rows := F_checked_rows,
      b_checked_rows := b_checked_rows,
      k_checked_rows := k_checked_rows, m_checked_rows := PySem.W.mg_of X G a_checked_rows,
      a_checked_part := f_checked_part, d_checked_part := _, F_checked_part := F_checked_part,
      b_checked_part := b2_checked_part, bd_checked_part := b1_checked_part,
      k_checked_part := k_checked_part, m_checked_part := PySem.W.mg_of X G a_checked_part,
      a_checked := f_checked, d_checked := _, F_checked := F_checked,
      b_checked := b_checked,
      k_checked := k_checked, m_checked := PySem.W.mg_of X G a_checked,
      a_line_of := f_line_of, d_line_of := _, F_line_of := F_line_of,
      b_line_of := b_line_of,
      k_line_of := k_line_of, m_line_of := PySem.W.mg_of X G a_line_of,
      a_lines_of := f_lines_of, d_lines_of := _, F_lines_of := F_lines_of,
      b_lines_of := b_lines_of,
      k_lines_of := k_lines_of, m_lines_of := PySem.W.mg_of X G a_lines_of,
      a_format_scheme := f_format_scheme, d_format_scheme := _, F_format_scheme := F_format_scheme,
      b_format_scheme := b_format_scheme,
      k_format_scheme := k_format_scheme, m_format_scheme := PySem.W.mg_of X G a_format_scheme,
      a_is_number := f_is_number, d_is_number := _, F_is_number := F_is_number,
      b_is_number := b_is_number,
      k_is_number := k_is_number, m_is_number := PySem.W.mg_of X G a_is_number,
      a_are_numbers := f_are_numbers, d_are_numbers := _, F_are_numbers := F_are_numbers,
      b_are_numbers := b_are_numbers,
      k_are_numbers := k_are_numbers, m_are_numbers := PySem.W.mg_of X G a_are_numbers,
      a_is_head := f_is_head, d_is_head := _, F_is_head := F_is_head,
      b_is_head := b_is_head,
      k_is_head := k_is_head, m_is_head := PySem.W.mg_of X G a_is_head,
      a_is_row := f_is_row, d_is_row := _, F_is_row := F_is_row,
      b_is_row := b_is_row,
      k_is_row := k_is_row, m_is_row := PySem.W.mg_of X G a_is_row,
      a_numbers_of := f_numbers_of, d_numbers_of := _, F_numbers_of := F_numbers_of,
      b_numbers_of := b_numbers_of,
      k_numbers_of := k_numbers_of, m_numbers_of := PySem.W.mg_of X G a_numbers_of,
      a_rows_from := f_rows_from, d_rows_from := _, F_rows_from := F_rows_from,
      b_rows_from := b_rows_from,
      k_rows_from := k_rows_from, m_rows_from := PySem.W.mg_of X G a_rows_from,
      a_joined := f_joined, d_joined := _, F_joined := F_joined,
      b_joined := b_joined,
      k_joined := k_joined, m_joined := PySem.W.mg_of X G a_joined,
      a_parse_scheme := f_parse_scheme, d_parse_scheme := _, F_parse_scheme := F_parse_scheme,
      b_parse_scheme := b_parse_scheme,
      k_parse_scheme := k_parse_scheme, m_parse_scheme := PySem.W.mg_of X G a_parse_scheme,
      a_Lrow := f_Lrow, d_Lrow := _, F_Lrow := F_Lrow,
      b_Lrow := b_Lrow,
      k_Lrow := k_Lrow, m_Lrow := PySem.W.mg_of X G a_Lrow,
      a_Lnumbers := f_Lnumbers, d_Lnumbers := _, F_Lnumbers := F_Lnumbers,
      b_Lnumbers := b_Lnumbers,
      k_Lnumbers := k_Lnumbers, m_Lnumbers := PySem.W.mg_of X G a_Lnumbers,
      a_Lsets := f_Lsets, d_Lsets := _, F_Lsets := F_Lsets,
      b_Lsets := b_Lsets,
      k_Lsets := k_Lsets, m_Lsets := PySem.W.mg_of X G a_Lsets,
      a_Lrows := f_Lrows, d_Lrows := _, F_Lrows := F_Lrows,
      b_Lrows := b_Lrows,
      k_Lrows := k_Lrows, m_Lrows := PySem.W.mg_of X G a_Lrows,
      a_Llisted := f_Llisted, d_Llisted := _, F_Llisted := F_Llisted,
      b_Llisted := b_Llisted,
      k_Llisted := k_Llisted, m_Llisted := PySem.W.mg_of X G a_Llisted,
      a_Lleaf := f_Lleaf, d_Lleaf := _, F_Lleaf := F_Lleaf,
      b_Lleaf := b_Lleaf,
      k_Lleaf := k_Lleaf, m_Lleaf := PySem.W.mg_of X G a_Lleaf,
      a_Lpower := f_Lpower, d_Lpower := _, F_Lpower := F_Lpower,
      b_Lpower := b_Lpower,
      k_Lpower := k_Lpower, m_Lpower := PySem.W.mg_of X G a_Lpower,
      a_Lchoose := f_Lchoose, d_Lchoose := _, F_Lchoose := F_Lchoose,
      b_Lchoose := b_Lchoose,
      k_Lchoose := k_Lchoose, m_Lchoose := PySem.W.mg_of X G a_Lchoose,
      a_Lpoints := f_Lpoints, d_Lpoints := _, F_Lpoints := F_Lpoints,
      b_Lpoints := b_Lpoints,
      k_Lpoints := k_Lpoints, m_Lpoints := PySem.W.mg_of X G a_Lpoints,
      a_Lkinds := f_Lkinds, d_Lkinds := _, F_Lkinds := F_Lkinds,
      b_Lkinds := b_Lkinds,
      k_Lkinds := k_Lkinds, m_Lkinds := PySem.W.mg_of X G a_Lkinds,
      a_Lmany := f_Lmany, d_Lmany := _, F_Lmany := F_Lmany,
      b_Lmany := b_Lmany,
      k_Lmany := k_Lmany, m_Lmany := PySem.W.mg_of X G a_Lmany,
      a_Ltree := f_Ltree, d_Ltree := _, F_Ltree := F_Ltree,
      b_Ltree := b_Ltree,
      k_Ltree := k_Ltree, m_Ltree := PySem.W.mg_of X G a_Ltree,
      a_Llines := f_Llines, d_Llines := _, F_Llines := F_Llines,
      b_Llines := b_Llines,
      k_Llines := k_Llines, m_Llines := PySem.W.mg_of X G a_Llines,
      a_Lrefused := f_Lrefused, d_Lrefused := _, F_Lrefused := F_Lrefused,
      b_Lrefused := b_Lrefused,
      k_Lrefused := k_Lrefused, m_Lrefused := PySem.W.mg_of X G a_Lrefused,
      a_law := fa, d_law := _, F_law := F_law,
      b_law := b_law,
      k_law := k_law, m_law := PySem.W.mg_of X G a_law,
      z_len := PySem.W.mg_none_of X G z_len,
      z_all := PySem.W.mg_none_of X G z_all,
      z_tuple := PySem.W.mg_none_of X G z_tuple,
      z_sorted := PySem.W.mg_none_of X G z_sorted,
      z_list := PySem.W.mg_none_of X G z_list,
      z_range := PySem.W.mg_none_of X G z_range,
      z_zip := PySem.W.mg_none_of X G z_zip,
      z_max := PySem.W.mg_none_of X G z_max,
      z_str := PySem.W.mg_none_of X G z_str,
      z_int := PySem.W.mg_none_of X G z_int,
      z_isinstance := PySem.W.mg_none_of X G z_isinstance,
      z_abs := PySem.W.mg_none_of X G z_abs,
      z_ValueError := PySem.W.mg_none_of X G z_ValueError,
      c_MOST_PARTS := ⟨_, PySem.W.mg_of X G g_MOST_PARTS⟩,
      c_MOST_KINDS := ⟨_, PySem.W.mg_of X G g_MOST_KINDS⟩,
      c_MOST_LISTED := ⟨_, PySem.W.mg_of X G g_MOST_LISTED⟩,
      c_MOST_LISTED_KINDS := ⟨_, PySem.W.mg_of X G g_MOST_LISTED_KINDS⟩,
      c_MOST_LENGTH := ⟨_, PySem.W.mg_of X G g_MOST_LENGTH⟩,
      c_MOST_FIGURES := ⟨_, PySem.W.mg_of X G g_MOST_FIGURES⟩,
      c_MOST_MEMBERS := ⟨_, PySem.W.mg_of X G g_MOST_MEMBERS⟩,
      c_MOST_DIGITS := ⟨_, PySem.W.mg_of X G g_MOST_DIGITS⟩,
      c_ARMS := ⟨_, PySem.W.mg_of X G g_ARMS⟩,
      c_MOST_POINTS := ⟨_, PySem.W.mg_of X G g_MOST_POINTS⟩,
      c_DIGITS := ⟨_, PySem.W.mg_of X G g_DIGITS⟩,
      a_MEMBERS := A_MEMBERS, m_MEMBERS := PySem.W.mg_of X G a_MEMBERS, e_MEMBERS := _, n_MEMBERS := _,
      D_MEMBERS := ⟨l_MEMBERS, ⟨⟨_, _, rfl, rfl⟩, ⟨_, _, rfl, rfl⟩, ⟨_, _, rfl, rfl⟩, ⟨_, _, rfl, rfl⟩, trivial⟩, w_MEMBERS⟩,
      v_MEMBERS_words := ⟨_, v_MEMBERS_words⟩,
      v_MEMBERS_sets := ⟨_, v_MEMBERS_sets⟩,
      v_MEMBERS_listed := ⟨_, v_MEMBERS_listed⟩,
      v_MEMBERS_product := ⟨_, v_MEMBERS_product⟩,
      a_NUMBERS := A_NUMBERS, m_NUMBERS := PySem.W.mg_of X G a_NUMBERS, e_NUMBERS := _, n_NUMBERS := _,
      D_NUMBERS := ⟨l_NUMBERS, ⟨⟨_, _, rfl, rfl⟩, ⟨_, _, rfl, rfl⟩, ⟨_, _, rfl, rfl⟩, ⟨_, _, rfl, rfl⟩, trivial⟩, w_NUMBERS⟩,
      v_NUMBERS_words := ⟨_, v_NUMBERS_words⟩,
      v_NUMBERS_sets := ⟨_, v_NUMBERS_sets⟩,
      v_NUMBERS_listed := ⟨_, v_NUMBERS_listed⟩,
      v_NUMBERS_product := ⟨_, v_NUMBERS_product⟩,
      CI := C, gC := PySem.W.mg_of X G gC, xC := xC, kC := kC, bC := bC, tC := tC, eC := PySem.W.exm_ref bC ed tC sC,
      iC := ⟨eg, ek, bC, ed, ea, en, et, em⟩, vC := kit_ve vS }
  exact ⟨_, fun s v => .of_eq rfl, fun base _ _ => ok_law T⟩
theorem walk {l : PySem.W.OpenLaw} {q : Program} {loose : List Str} {XP : (Str → Option Value) → Heap → Prop} {YP : World → Heap → Prop} {d : DefRec} {K : Params → PySem.W.Frag} (hn : l.most = some 63) (hdf : d.params.defaults = [])
    (hY : ∀ (w : World) (h : Heap), YP w h → (K w.params).In h)
    (F : ∀ (w : World) (mg : Str → Option Value) (fa : Addr) (h : Heap), (K w.params).In h → h.Ns mainGlobals mg → mg d.name = some (.ref fa) →
      ∃ fd : FuncData, (∀ (s : Shared) (u : Value), BindsTo s fd ⟨[u], []⟩ [("_law_script", u)]) ∧ ∀ base : Heap, (K w.params).In base → base.Ns mainGlobals mg → FnOk l.prog w (K w.params) mg base CX0 15 fa fd ["_law_script"] (spLaw (K w.params))) :
    PySem.W.WalkO q loose XP YP l.row.toRowW d [] (fun f vs => PySem.call f vs) :=
  L2.walk_of (n := 63) (k := 15) (x := "_law_script") (CX := fun _ => CX0) (sp := fun w => spLaw (K w.params)) hn (by decide) hdf ⟨rfl, by decide, by decide⟩ hY F (fun _ _ a ns _ _ hS => ⟨a, ns, rfl, hS, fun _ => rfl⟩) fun _ _ _ _ _ z => z
end K5
section
set_option Elab.async false
set_option linter.all false
set_option maxRecDepth 100000
set_option maxHeartbeats 0
open PySem PySem.W PyProof.Rows
theorem PySem.Challenge.cw_schemebound_k05_whole_text_and_back_holds : PySem.Challenge.rw_schemebound_k05_whole_text_and_back.Holds :=
  K5.tp (by
    k_fill
    refine K5.walk (l := PySem.Challenge.rw_schemebound_k05_whole_text_and_back) rfl rfl (fun w h Y => PySem.W.kIn_of Y) ?F
    case F =>
      intro w mg fa h KX G hmg
      refine' K5.all_mk KX G hmg ?a_require ?l_require ?c_require ?k_require ?a_choose ?l_choose ?c_choose ?k_choose ?a_power_of ?l_power_of ?c_power_of ?k_power_of ?a_ways_of ?l_ways_of ?c_ways_of ?k_ways_of ?a_checked_rows ?l_checked_rows ?c_checked_rows ?k_checked_rows ?a_checked_part ?l_checked_part ?t_checked_part ?c_checked_part ?k_checked_part ?a_checked ?l_checked ?c_checked ?k_checked ?a_line_of ?l_line_of ?c_line_of ?k_line_of ?a_lines_of ?l_lines_of ?c_lines_of ?k_lines_of ?a_format_scheme ?l_format_scheme ?c_format_scheme ?k_format_scheme ?a_is_number ?l_is_number ?c_is_number ?k_is_number ?a_are_numbers ?l_are_numbers ?c_are_numbers ?k_are_numbers ?a_is_head ?l_is_head ?c_is_head ?k_is_head ?a_is_row ?l_is_row ?c_is_row ?k_is_row ?a_numbers_of ?l_numbers_of ?c_numbers_of ?k_numbers_of ?a_rows_from ?l_rows_from ?c_rows_from ?k_rows_from ?a_joined ?l_joined ?c_joined ?k_joined ?a_parse_scheme ?l_parse_scheme ?c_parse_scheme ?k_parse_scheme ?a_Lrow ?l_Lrow ?c_Lrow ?k_Lrow ?a_Lnumbers ?l_Lnumbers ?c_Lnumbers ?k_Lnumbers ?a_Lsets ?l_Lsets ?c_Lsets ?k_Lsets ?a_Lrows ?l_Lrows ?c_Lrows ?k_Lrows ?a_Llisted ?l_Llisted ?c_Llisted ?k_Llisted ?a_Lleaf ?l_Lleaf ?c_Lleaf ?k_Lleaf ?a_Lpower ?l_Lpower ?c_Lpower ?k_Lpower ?a_Lchoose ?l_Lchoose ?c_Lchoose ?k_Lchoose ?a_Lpoints ?l_Lpoints ?c_Lpoints ?k_Lpoints ?a_Lkinds ?l_Lkinds ?c_Lkinds ?k_Lkinds ?a_Lmany ?l_Lmany ?c_Lmany ?k_Lmany ?a_Ltree ?l_Ltree ?c_Ltree ?k_Ltree ?a_Llines ?l_Llines ?c_Llines ?k_Llines ?a_Lrefused ?l_Lrefused ?c_Lrefused ?k_Lrefused ?a_law ?l_law ?c_law ?k_law ?z_len ?z_all ?z_tuple ?z_sorted ?z_list ?z_range ?z_zip ?z_max ?z_str ?z_int ?z_isinstance ?z_abs ?z_ValueError ?g_MOST_PARTS ?g_MOST_KINDS ?g_MOST_LISTED ?g_MOST_LISTED_KINDS ?g_MOST_LENGTH ?g_MOST_FIGURES ?g_MOST_MEMBERS ?g_MOST_DIGITS ?g_ARMS ?g_MOST_POINTS ?g_DIGITS ?a_MEMBERS ?l_MEMBERS ?w_MEMBERS ?v_MEMBERS_words ?v_MEMBERS_sets ?v_MEMBERS_listed ?v_MEMBERS_product ?a_NUMBERS ?l_NUMBERS ?w_NUMBERS ?v_NUMBERS_words ?v_NUMBERS_sets ?v_NUMBERS_listed ?v_NUMBERS_product ?gC ?xC ?kC ?bC ?tC ?sC ?eg ?ek ?ed ?ea ?en ?et ?em ?vS
      (case a_require => k_is)
      (case l_require => k_is)
      (case c_require => k_is)
      (case k_require => k_is)
      (case a_choose => k_is)
      (case l_choose => k_is)
      (case c_choose => k_is)
      (case k_choose => k_is)
      (case a_power_of => k_is)
      (case l_power_of => k_is)
      (case c_power_of => k_is)
      (case k_power_of => k_is)
      (case a_ways_of => k_is)
      (case l_ways_of => k_is)
      (case c_ways_of => k_is)
      (case k_ways_of => k_is)
      (case a_checked_rows => k_is)
      (case l_checked_rows => k_is)
      (case c_checked_rows => k_is)
      (case k_checked_rows => k_is)
      (case a_checked_part => k_is)
      (case l_checked_part => k_is)
      (case t_checked_part => k_is)
      (case c_checked_part => k_is)
      (case k_checked_part => k_is)
      (case a_checked => k_is)
      (case l_checked => k_is)
      (case c_checked => k_is)
      (case k_checked => k_is)
      (case a_line_of => k_is)
      (case l_line_of => k_is)
      (case c_line_of => k_is)
      (case k_line_of => k_is)
      (case a_lines_of => k_is)
      (case l_lines_of => k_is)
      (case c_lines_of => k_is)
      (case k_lines_of => k_is)
      (case a_format_scheme => k_is)
      (case l_format_scheme => k_is)
      (case c_format_scheme => k_is)
      (case k_format_scheme => k_is)
      (case a_is_number => k_is)
      (case l_is_number => k_is)
      (case c_is_number => k_is)
      (case k_is_number => k_is)
      (case a_are_numbers => k_is)
      (case l_are_numbers => k_is)
      (case c_are_numbers => k_is)
      (case k_are_numbers => k_is)
      (case a_is_head => k_is)
      (case l_is_head => k_is)
      (case c_is_head => k_is)
      (case k_is_head => k_is)
      (case a_is_row => k_is)
      (case l_is_row => k_is)
      (case c_is_row => k_is)
      (case k_is_row => k_is)
      (case a_numbers_of => k_is)
      (case l_numbers_of => k_is)
      (case c_numbers_of => k_is)
      (case k_numbers_of => k_is)
      (case a_rows_from => k_is)
      (case l_rows_from => k_is)
      (case c_rows_from => k_is)
      (case k_rows_from => k_is)
      (case a_joined => k_is)
      (case l_joined => k_is)
      (case c_joined => k_is)
      (case k_joined => k_is)
      (case a_parse_scheme => k_is)
      (case l_parse_scheme => k_is)
      (case c_parse_scheme => k_is)
      (case k_parse_scheme => k_is)
      (case a_Lrow => k_is)
      (case l_Lrow => k_is)
      (case c_Lrow => k_is)
      (case k_Lrow => k_is)
      (case a_Lnumbers => k_is)
      (case l_Lnumbers => k_is)
      (case c_Lnumbers => k_is)
      (case k_Lnumbers => k_is)
      (case a_Lsets => k_is)
      (case l_Lsets => k_is)
      (case c_Lsets => k_is)
      (case k_Lsets => k_is)
      (case a_Lrows => k_is)
      (case l_Lrows => k_is)
      (case c_Lrows => k_is)
      (case k_Lrows => k_is)
      (case a_Llisted => k_is)
      (case l_Llisted => k_is)
      (case c_Llisted => k_is)
      (case k_Llisted => k_is)
      (case a_Lleaf => k_is)
      (case l_Lleaf => k_is)
      (case c_Lleaf => k_is)
      (case k_Lleaf => k_is)
      (case a_Lpower => k_is)
      (case l_Lpower => k_is)
      (case c_Lpower => k_is)
      (case k_Lpower => k_is)
      (case a_Lchoose => k_is)
      (case l_Lchoose => k_is)
      (case c_Lchoose => k_is)
      (case k_Lchoose => k_is)
      (case a_Lpoints => k_is)
      (case l_Lpoints => k_is)
      (case c_Lpoints => k_is)
      (case k_Lpoints => k_is)
      (case a_Lkinds => k_is)
      (case l_Lkinds => k_is)
      (case c_Lkinds => k_is)
      (case k_Lkinds => k_is)
      (case a_Lmany => k_is)
      (case l_Lmany => k_is)
      (case c_Lmany => k_is)
      (case k_Lmany => k_is)
      (case a_Ltree => k_is)
      (case l_Ltree => k_is)
      (case c_Ltree => k_is)
      (case k_Ltree => k_is)
      (case a_Llines => k_is)
      (case l_Llines => k_is)
      (case c_Llines => k_is)
      (case k_Llines => k_is)
      (case a_Lrefused => k_is)
      (case l_Lrefused => k_is)
      (case c_Lrefused => k_is)
      (case k_Lrefused => k_is)
      (case a_law => k_is)
      (case l_law => k_is)
      (case c_law => k_is)
      (case k_law => k_is)
      (case z_len => k_is)
      (case z_all => k_is)
      (case z_tuple => k_is)
      (case z_sorted => k_is)
      (case z_list => k_is)
      (case z_range => k_is)
      (case z_zip => k_is)
      (case z_max => k_is)
      (case z_str => k_is)
      (case z_int => k_is)
      (case z_isinstance => k_is)
      (case z_abs => k_is)
      (case z_ValueError => k_is)
      (case g_MOST_PARTS => k_is)
      (case g_MOST_KINDS => k_is)
      (case g_MOST_LISTED => k_is)
      (case g_MOST_LISTED_KINDS => k_is)
      (case g_MOST_LENGTH => k_is)
      (case g_MOST_FIGURES => k_is)
      (case g_MOST_MEMBERS => k_is)
      (case g_MOST_DIGITS => k_is)
      (case g_ARMS => k_is)
      (case g_MOST_POINTS => k_is)
      (case g_DIGITS => k_is)
      (case a_MEMBERS => k_is)
      (case l_MEMBERS => k_is)
      (case w_MEMBERS => first | rfl | decide)
      (case v_MEMBERS_words => k_is)
      (case v_MEMBERS_sets => k_is)
      (case v_MEMBERS_listed => k_is)
      (case v_MEMBERS_product => k_is)
      (case a_NUMBERS => k_is)
      (case l_NUMBERS => k_is)
      (case w_NUMBERS => first | rfl | decide)
      (case v_NUMBERS_words => k_is)
      (case v_NUMBERS_sets => k_is)
      (case v_NUMBERS_listed => k_is)
      (case v_NUMBERS_product => k_is)
      (case gC => k_is)
      (case xC => k_exc)
      (case kC => k_is)
      (case bC => k_is)
      (case tC => k_is)
      (case sC => first | rfl | k_is)
      (case eg => k_is)
      (case ek => k_is)
      (case ed => k_is)
      (case ea => k_is)
      (case en => k_is)
      (case et => k_is)
      (case em => k_is)
      (case vS => k_is)
    )
end
