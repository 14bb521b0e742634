import PyProof.Rows.All
import Wide.All
import OpenK.AllK
import Wide.FinOn
import HandS.ForMost
import HandS.ForExc
import KE.GoesComp
import KE.GoesRaise
import HandS.IsInst
import HandS.TupAny
import HandS.StrMore
import HandS.Codes
import HandS.RaiseMore
import HandS.TupLe
import HandS.CallSlots
import HandS.HeadEnd
import HandS.HeadHook2
import HandS.WordsExc
import HandS.ExcOwn
import HandS.TryOnly
import HandS.ExcIs
import HandS.Zip
import PySem.Challenge.RW_feastrobes_k76_robes_written_and_read
import KE.KStateDown
import HandS.Head0
import HandS.Head1
import HandS.Head2
import HandS.HeadHook3
import HandS.HeadHook4
set_option Elab.async false
set_option linter.all false
set_option maxRecDepth 100000
set_option maxHeartbeats 2000000
/-! Fr1: semantic forms of the hand layer's judgements; a comprehension whose element may raise. -/
namespace Fr
open PySem PySem.Spec PyProof.Rows L2

/-! ### semantic forms -/
section
variable (X : Cx)
def wE (e : Expr) : TE := fun σ H Q => ∀ pins s, Inv X pins σ H s → wpAny (model X.prog X.w) X.A (eval e X.env) (EP X pins σ Q) X.xe s
def wT (e : Expr) : TT := fun σ H Q => ∀ pins s, Inv X pins σ H s → wpAny (model X.prog X.w) X.A (isTrue e X.env (eval e X.env)) (TP X pins σ Q) X.xe s
def wTs (ifs : List Expr) : TT := fun σ H Q => ∀ pins s, Inv X pins σ H s → wpAny (model X.prog X.w) X.A (forIn ifs true fun c r => if r = true then do let ok ← isTrue c X.env (eval c X.env); pure (ForInStep.yield ok) else pure (ForInStep.yield r)) (TP X pins σ Q) X.xe s
def wA (es : List Expr) : TA := fun σ H Q => ∀ pos pins s, Inv X pins σ H s → wpAny (model X.prog X.w) X.A (spliced (backTo pos (starEach es X.env))) (AP X pins σ Q) X.xe s
def wS (st : Stmt) : TS := fun D σ H => ∀ pins s, Inv X pins σ H s → wpAny (model X.prog X.w) X.A (exec st X.env) (SP X pins D) X.xe s
def wSs (st : List Stmt) : TS := fun D σ H => ∀ pins s, Inv X pins σ H s → wpAny (model X.prog X.w) X.A (execs st X.env) (SP X pins D) X.xe s
def wG (tg : Expr) : TG := fun v σ H Q => ∀ pins s u, Inv X pins σ H s → RelV v u → wpAny (model X.prog X.w) X.A (assign tg X.env u) (fun _ s' => ∃ σ' H', Inv X pins σ' H' s' ∧ Q σ' H') X.xe s
def wI (tg iter : Expr) : TI := fun σ H R => ∀ pins s, Inv X pins σ H s → wpAny (model X.prog X.w) X.A (eval iter X.env) (fun v s1 => wpAny (model X.prog X.w) X.A (pyIter v) (PIE X pins σ tg R) X.xe s1) X.xe s
end
section
variable {X : Cx} {e tg iter : Expr} {es ifs : List Expr} {st : Stmt} {sts : List Stmt}
theorem pe_w : PE X e (wE X e) := ⟨fun pins s _ _ _ I h => h pins s I⟩
theorem pt_w : PT X e (wT X e) := ⟨fun pins s _ _ _ I h => h pins s I⟩
theorem pts_w : PTs X ifs (wTs X ifs) := ⟨fun pins s _ _ _ I h => h pins s I⟩
theorem pa_w : PA X es (wA X es) := ⟨fun pos pins s _ _ _ I h => h pos pins s I⟩
theorem ps_w : PS X st (wS X st) := ⟨fun pins s _ _ _ I h => h pins s I⟩
theorem pss_w : PSs X sts (wSs X sts) := ⟨fun pins s _ _ _ I h => h pins s I⟩
theorem pg_w : PG X tg (wG X tg) := ⟨fun pins s _ _ _ u _ I r h => h pins s u I r⟩
theorem pi_w : PI X tg iter (wI X tg iter) := ⟨fun pins s _ _ _ I h => h pins s I⟩
theorem w_e {t : TE} (p : PE X e t) {σ H Q} (h : t σ H Q) : wE X e σ H Q := fun pins s I => p.run pins s σ H Q I h
theorem w_t {t : TT} (p : PT X e t) {σ H Q} (h : t σ H Q) : wT X e σ H Q := fun pins s I => p.run pins s σ H Q I h
theorem w_ts {t : TT} (p : PTs X ifs t) {σ H Q} (h : t σ H Q) : wTs X ifs σ H Q := fun pins s I => p.run pins s σ H Q I h
theorem w_a {t : TA} (p : PA X es t) {σ H Q} (h : t σ H Q) : wA X es σ H Q := fun pos pins s I => p.run pos pins s σ H Q I h
theorem w_s {t : TS} (p : PS X st t) {D σ H} (h : t D σ H) : wS X st D σ H := fun pins s I => p.run pins s σ H D I h
theorem w_ss {t : TS} (p : PSs X sts t) {D σ H} (h : t D σ H) : wSs X sts D σ H := fun pins s I => p.run pins s σ H D I h
theorem w_g {t : TG} (p : PG X tg t) {v σ H Q} (h : t v σ H Q) : wG X tg v σ H Q := fun pins s u I r => p.run pins s σ H v u Q I r h
theorem w_i {t : TI} (p : PI X tg iter t) {σ H R} (h : t σ H R) : wI X tg iter σ H R := fun pins s I => p.run pins s σ H R I h
theorem wE.mono {σ H} {Q Q' : VK} (h : wE X e σ H Q) (k : ∀ v H', Q v H' → Q' v H') : wE X e σ H Q' := fun pins s I =>
  thn (h pins s I) fun _ _ ⟨v, H', I', r, q⟩ => ⟨v, H', I', r, k _ _ q⟩
end

/-! ### an exception noted by a block's frame that is not the holder's -/
section
open HandSPX
variable {M : Model} {A : Around} {E : Value → Shared → Prop} {s : Shared} {Z : Obj → Prop} {base : Heap} {env : Env} {outer l : List Env} {L L' e : Addr}
theorem looks_overZ {Q : Unit → Shared → Prop} (hZ : Steady Z) (hfr : A.frames = some (env :: outer)) (hf : env.frame = some L) (hne : L' ≠ L) (hfl : HeldZ base (env :: outer) e Z L' s.heap)
    (hQ : ∀ h', HeldZ base (env :: outer) e Z L h' → s.heap.UpToSlots h' → Q () { s with heap := h' }) : wpAny M A (noteFrame (.ref e) env) Q E s := by
  obtain ⟨hkb, hen, hl, oe, vs, T, oT, ts, he, hz, hd, h1, hnT, hTe, hT, hdT, h3⟩ := hfl
  unfold noteFrame
  simp only [hf]
  refine wpAny_bind (wpAny_field he hd h1 ?_)
  rw [if_pos (show (Value.ref T != Value.none) = true from by simp)]
  refine wpAny_bind (wpAny_field hT hdT h3 ?_)
  have hne' : ((L' : Nat) : Int) ≠ ((L : Nat) : Int) := fun z => hne (Int.ofNat.inj z)
  rw [if_neg (show ¬ ((rawInt L' == rawInt L) = true) from by simp [rawInt, hne'])]
  refine wpAny_bind (wpAny_setField hT hdT (Array.getElem?_eq_some_iff.mp h3).1 ?_)
  have other : ∀ b, b ≠ T → (s.heap.update T (Obj.mapFields (·.setIfInBounds 3 Value.none))).get? b = s.heap.get? b := fun b hb => Heap.get?_update_other _ _ (Ne.symm hb)
  have noRecord : ∀ b o, s.heap.get? b = some o → (∀ vs, o.data ≠ .fields vs) → b ≠ T := fun b o hb hnf q => by
    rw [q, hT] at hb; injection hb with hb; subst hb; exact hnf ts hdT
  refine wpAny_entryZ hZ hfr (hl.of_keeps fun b o hb hnf => ⟨o, (other b (noRecord b o hb hnf)).trans hb, rfl⟩) hf ((other e (Ne.symm hTe)).trans he)
    (fun b o hbo => (other b fun q => by rw [q, hnT] at hbo; cases hbo).trans (hkb b o hbo)) hen hd (Array.getElem?_eq_some_iff.mp h1).1 hz fun h' hN => ?_
  obtain ⟨x1, x2, x3, x4⟩ := hN
  exact hQ h' ⟨x1, hen, x2, x3⟩ fun b o hb hnf => x4 b o ((other b (noRecord b o hb hnf)).trans hb) hnf
end

/-! ### out of a comprehension's block -/
abbrev Blk (X : Cx) (s : Shared) (H : Hp) (scope : Scope) (cenv : Env) (fp : List Addr) (xe : Value → Shared → Prop) : Cx := (X.blk s H scope cenv fp).wish xe
def BlkIs (X : Cx) (scope : Scope) (B : Cx) : Prop := ∃ s H cl C fp xe, B = Blk X s H scope (compEnvC scope cl C X.env) fp xe
section
variable {X : Cx}
theorem out_of_block {pins : List (Addr × Obj)} {σ : L2.St} {H3 : Hp} {s3 s' : Shared} {scope : Scope} {ce : Env} {fp : List Addr} {xe : Value → Shared → Prop} {W : WX} {u : Value} {use : Option (Value → Sem Unit)} {Qf : Value → Shared → Prop} {acc : Value}
    (tk : Takes X W) (hs : X.stack = X.env :: X.outer) (hf : X.env.frame = some X.env.locals) (hcf : ce.frame = X.env.frame) (I3 : Inv X pins σ H3 s3) (f3 : ∀ b ∈ fp, FpOk X pins H3 b ∧ b < s3.heap.objs.size) (cL : s3.heap.objs.size = ce.locals)
    (x : XE (Blk X s3 H3 scope ce fp xe) (fun cls d _ H' => W cls d σ H') u s') :
    notedBy (model X.prog X.w) X.A ce (fun e s'' => compEnds (model X.prog X.w) X.A X.xe use Qf acc ce (.error e) s'') u s' := by
  obtain ⟨a, B, sI, pinsb, σb, H, cls, d, rfl, Ib', nb, up, sky, na, os, ag, w⟩ := x
  have Ib : Inv (X.blk s3 H3 scope ce fp) pinsb σb H sI := Ib'.unwish
  have I7 : Inv X pins σ H sI := I3.call' (ch := fp) Ib.os Ib.base Ib.hok Ib.bare fun b hb => ⟨(f3 b hb).1.2.2.2.1, (f3 b hb).1.2.1, (f3 b hb).1.2.2.2.2.1, (f3 b hb).1.2.2.2.2.2⟩
  have hfr : X.A.frames = some (X.env :: X.outer) := by rw [I7.ok.frames, hs]
  have nC : H ce.locals = none := Ib.free
  obtain ⟨m, hn, _⟩ := Ib.loc
  have hn : sI.heap.Ns ce.locals m := hn
  have hn' : s'.heap.Ns ce.locals m := up.ns hn
  have nst : (Blk X s3 H3 scope ce fp xe).stack = X.env :: X.outer := hs
  rw [nst] at sky
  have nb : ∀ b o, sI.heap.get? b = some o → b ∉ frs X.stack → B.get? b = some o := nb
  have hcn : ce.locals ∉ frs X.stack := fun hm => by
    have z := I3.stkSub _ hm
    rw [← cL] at z
    rcases List.mem_cons.mp z with z | z
    · exact absurd I3.lt (by rw [← z]; exact Nat.lt_irrefl _)
    · exact I3.nofs (Nat.le_refl _) z
  have hLC : X.env.locals ≠ ce.locals := fun z => hcn (by
    rw [← z, hs]
    unfold frs
    rw [List.filterMap_cons, hf]
    exact List.mem_cons_self)
  show wpAny _ _ (noteFrame (.ref a) ce) _ _ s'
  rw [noteFrame_env _ hcf]
  have fin : ∀ h1, HandSPX.HeldZ B (X.env :: X.outer) a (Zc cls d) X.env.locals h1 → s'.heap.UpToSlots h1 →
      compEnds (model X.prog X.w) X.A X.xe use Qf acc ce (.error (.ref a)) { s' with heap := h1 } := fun h1 hh up1 => by
    have key : CompFails (model X.prog X.w) X.A X.xe ce (.ref a) { s' with heap := h1 } := by
      refine ⟨m, up1.ns hn', fun h' m' hn2 sb => ?_⟩
      obtain ⟨b1, b0, fr1, oe, vs, T, oT, ts, he, hz, hd, h1v, hnT, hTe, hT, hdT, h3v⟩ := hh
      have hn1 : h1.Ns ce.locals m := up1.ns hn'
      have aC : a ≠ ce.locals := fun z => by
        obtain ⟨o, es, ep, ho, hdd, _⟩ := hn1
        rw [← z] at ho
        rw [he] at ho
        cases ho
        rw [hd] at hdd
        cases hdd
      have TC : T ≠ ce.locals := fun z => by
        obtain ⟨o, es, ep, ho, hdd, _⟩ := hn1
        rw [← z] at ho
        rw [hT] at ho
        cases ho
        rw [hdT] at hdd
        cases hdd
      have kp : ∀ b, b ≠ ce.locals → h'.get? b = h1.get? b := fun b hb => sb.2 b hb
      have gB : ∀ b o, (PySem.W.hideAll B [ce.locals]).get? b = some o → B.get? b = some o ∧ b ≠ ce.locals := fun b o e => by
        refine ⟨PySem.W.of_hideAll _ e, fun z => ?_⟩
        rw [z, PySem.W.hideAll_none _ (List.mem_singleton.mpr rfl)] at e
        cases e
      have hn0 : ∀ b, B.get? b = none → (PySem.W.hideAll B [ce.locals]).get? b = none := fun b e => by
        cases q : (PySem.W.hideAll B [ce.locals]).get? b with
        | none => rfl
        | some o =>
          rw [(gB b o q).1] at e
          cases e
      have fB : ∀ L ∈ frs (X.env :: X.outer), B.get? L = none := by
        have gen : ∀ l : List Env, h1.FunFrames B l → ∀ L ∈ frs l, B.get? L = none := by
          intro l
          induction l with
          | nil => intro _ L hL; cases hL
          | cons e r ih =>
            rintro ⟨_, ⟨L', _, q1, q2, _⟩, q3⟩ L hL
            unfold frs at hL
            rw [List.filterMap_cons, q1] at hL
            rcases List.mem_cons.mp hL with z | z
            · rw [z]; exact q2
            · exact ih q3 L z
        exact gen _ fr1
      have held : HandSPX.HeldZ (PySem.W.hideAll B [ce.locals]) (X.env :: X.outer) a (Zc cls d) X.env.locals h' :=
        ⟨fun b o e => by
          obtain ⟨e1, e2⟩ := gB b o e
          rw [kp b e2]
          exact b1 b o e1, hn0 a b0, funFrames_none (Heap.FunFrames.sameBut sb hn2 fr1) fun L hL => hn0 L (fB L hL), oe, vs, T, oT, ts, by rw [kp a aC]; exact he, hz, hd, h1v, hn0 T hnT, hTe, by rw [kp T TC]; exact hT, hdT, h3v⟩
      unfold PySem.passOn
      refine wpAny_bind (wpAny_field (by rw [kp a aC]; exact he) hd h1v ?_)
      rw [if_neg (show ¬ ((Value.ref T == Value.none) = true) from by simp)]
      rw [hcf, hf]
      refine wpAny_bind (HandSPX.setFlight_onZ held fun h2 held2 up2 => wpAny_throw ?_)
      refine tk _ _ ⟨a, PySem.W.hideAll B [ce.locals], { sI with heap := PySem.W.hideAll sI.heap [ce.locals] }, pins, σ, H, cls, d, rfl, ?_, fun b o e hb => ?_, fun b o e hnf => ?_, .inr (.inr (by rw [hs]; exact held2)), na, os, ag, w⟩
      · have fC : FpOk X pins H ce.locals := by
          rw [← cL]
          exact I3.fpOk (Nat.le_refl _) (by rw [cL]; exact nC)
        obtain ⟨g0, g1, g2, g3, g4, g5⟩ := fC
        exact I7.turned (t' := sI.toks) (fun b o hb e => PySem.W.hideAll_get _ e fun z => hb (List.mem_singleton.mp z)) g0 g1 g3 g4 g5
      · have e' : (PySem.W.hideAll sI.heap [ce.locals]).get? b = some o := e
        have e1 := PySem.W.of_hideAll _ e'
        have e2 : b ≠ ce.locals := fun z => by
          rw [z, PySem.W.hideAll_none _ (List.mem_singleton.mpr rfl)] at e'
          cases e'
        exact PySem.W.hideAll_get _ (nb b o e1 hb) fun z => e2 (List.mem_singleton.mp z)
      · have e' : (PySem.W.hideAll sI.heap [ce.locals]).get? b = some o := e
        have e1 := PySem.W.of_hideAll _ e'
        have e2 : b ≠ ce.locals := fun z => by
          rw [z, PySem.W.hideAll_none _ (List.mem_singleton.mpr rfl)] at e'
          cases e'
        obtain ⟨sl1, q1⟩ := up b o e1 hnf
        obtain ⟨sl2, q2⟩ := up1 b _ q1 hnf
        have q3 : h'.get? b = some _ := (kp b e2).trans q2
        obtain ⟨sl3, q4⟩ := up2 b _ q3 hnf
        exact ⟨sl3, q4⟩
    cases use <;> exact key
  rcases sky with ⟨hB, hn0, hl, oe, vs, he, hz, hd, h1⟩ | fl | hh
  · exact HandSPX.look_newZ Zc.steady hfr hl hf he hB hn0 hd h1 hz fin
  · exact HandSPX.looks_onZ Zc.steady hfr hf fl fin
  · exact looks_overZ Zc.steady hfr hf (Ne.symm hLC) hh fin

/-! ### a list comprehension over semantic forms; the element may raise -/
theorem Blk.start {pins : List (Addr × Obj)} {σ σ' : L2.St} {H H' : Hp} {s s' : Shared} {scope : Scope} {ce : Env} {fp : List Addr} {xe : Value → Shared → Prop} (I : Inv (X.blk s H scope ce fp) pins σ' H' s') : Inv (Blk X s H scope ce fp xe) pins σ' H' s' := I.wish xe
theorem lc_coreX {W : WX} {pins : List (Addr × Obj)} {s : Shared} {σ : L2.St} {H : Hp} {Q : VK} {elt tg iter : Expr} {ifs : List Expr} {scope : Scope} {own : List (Str × Nat)} {pos pos' : Pos} {use : Option (Value → Sem Unit)} {Qf : Value → Shared → Prop}
    (htk : (Takes X W ∧ X.stack = X.env :: X.outer ∧ X.env.frame = some X.env.locals) ∨ ∀ cls d σ H, ¬ W cls d σ H) (hc : X.calm = true) (hN : X.N.Nodup) (I : Inv X pins σ H s) (ok : BlkOk X.N X.env.scope scope own)
    (hs : ∀ x, foldedSetIterable iter X.env x = pure x)
    (h : wI X tg iter σ H fun J H1 => ∀ D, H1 D = none → ∃ Wv : Nat → Nat → Hp → Prop, (∃ m, Wv 0 m (upd H1 D (.lst []))) ∧ ∀ i m H, Wv i m H →
      (J.stop i H ∧ Q (.ref D) H) ∨ (J.go i H ∧ ∃ Nx : Hp → Prop, (∀ H', Nx H' → ∃ m', m' < m ∧ Wv (i + 1) m' H') ∧ ∀ B, BlkIs X scope B → Takes B (fun cls d _ H' => W cls d σ H') → ∀ x H', J.yld i H x H' →
        wG B tg x (wipe σ (own.map (·.2))) H' fun σ2 H2 => wipe σ2 (own.map (·.2)) = wipe σ (own.map (·.2)) ∧ wTs B ifs σ2 H2 fun b H3 =>
          if b = true then wE B elt σ2 H3 fun y H4 => ∃ acc, H4 D = some (.lst acc) ∧ acc.length < sizeLine ∧ Nx (upd H4 D (.lst (acc ++ [y]))) else Nx H3))
    (hRR : ∀ D C s' m H', Inv X pins σ H' s' → Q (.ref D) H' → s'.heap.Ns C m → FpOk X pins H' C → compPost (model X.prog X.w) X.A X.xe use Qf (.ref D) C (.ok .next) s') :
    wpAny (model X.prog X.w) X.A (comprehension (.ListComp elt [⟨tg, iter, ifs, 0⟩] scope pos) scope X.env pos' (newList []) false (eval iter X.env) use) Qf X.xe s := by
  have hfree : ∀ y ∈ scope.names, y.2 = .free → ∃ c, X.env.cells.lookup y.1 = some c := fun y hy e => by
    rcases ok.free y hy e with k | k
    · exact I.ok.has _ (.inl k)
    · exact I.ok.has _ (.inr k)
  refine comprehension_at (use := use) rfl hs (closure_ok hfree) ok.kind (fun y hy e => by rw [ok.uniq y hy, e])
    (thn (h pins s I) fun xv s1 hx => thn hx fun itv s2 h2 => ?_)
  obtain ⟨it, fp, tn, J, H2, e, I2, T, st2, f2, q⟩ := h2
  subst e
  refine wpAny_newObj_type (newEnv_comp ?_) (by show 0 ≤ sizeLine; decide)
  generalize hD : s2.heap.objs.size = D
  have hDn : H2 D = none := I2.hok.fresh (Nat.le_of_eq hD)
  obtain ⟨Wv, ⟨m0, w0⟩, turn⟩ := q D hDn
  generalize hs3 : ({ s2 with heap := s2.heap.push { cls := .type "list", data := .seq ([] : List Value).toArray } } : Shared) = s3
  have I3 : Inv X pins σ (upd H2 D (.lst [])) s3 := by
    rw [← hs3]
    refine I2.laid (t' := s2.toks) (fun b o e => Heap.get?_push_of_some _ e) (Nat.le_of_eq hD) ⟨Nat.zero_le _, [], 0, .nil, ?_⟩
    rw [← hD]
    exact Heap.get?_push_size _ rfl
  have h3 : s3.heap = s2.heap.push { cls := .type "list", data := .seq ([] : List Value).toArray } := by rw [← hs3]
  have sz : ∀ b ∈ fp, b < s2.heap.objs.size := fun b hb => by
    obtain ⟨o, e, _⟩ := T.obj _ _ st2 b hb
    exact Heap.lt_size e
  have f3 : ∀ b ∈ fp, FpOk X pins (upd H2 D (.lst [])) b ∧ b < s3.heap.objs.size := fun b hb => by
    have hlt := sz b hb
    refine ⟨⟨?_, (f2 b hb).2⟩, by rw [h3, Heap.size_push]; exact Nat.lt_succ_of_lt hlt⟩
    rw [upd_ne (by rw [← hD]; exact Nat.ne_of_lt hlt)]
    exact (f2 b hb).1
  have st3 : tn 0 s3.heap := T.keep _ _ _ st2 fun b _ o e => by rw [h3]; exact Heap.get?_push_of_some _ e
  have I4 := block_start I3 ok hN f3
  show codeAny _ _ (.compStart (.ListComp elt [⟨tg, iter, ifs, 0⟩] scope pos) 0 (.ref it) (.ref D) (compEnvC scope (cellsFrom (s3.heap.objs.size + 1) scope.names (cloFrom X.env.cells scope.names [])) s3.heap.objs.size X.env))
    (compEnds (model X.prog X.w) X.A X.xe use Qf (.ref D) (compEnvC scope (cellsFrom (s3.heap.objs.size + 1) scope.names (cloFrom X.env.cells scope.names [])) s3.heap.objs.size X.env)) { s3 with heap := pushCells (s3.heap.push { cls := .type "dict", data := .dict #[] }) scope.names }
  have nfp : ∀ b ∈ fp, (upd H2 D (.lst [])) b = none := fun b hb => (f3 b hb).1.1
  have bis : ∀ xe, BlkIs X scope (Blk X s3 (upd H2 D (.lst [])) scope (compEnvC scope (cellsFrom (s3.heap.objs.size + 1) scope.names (cloFrom X.env.cells scope.names [])) s3.heap.objs.size X.env) fp xe) := fun xe => ⟨_, _, _, _, _, _, rfl⟩
  have hcf : (compEnvC scope (cellsFrom (s3.heap.objs.size + 1) scope.names (cloFrom X.env.cells scope.names [])) s3.heap.objs.size X.env).frame = X.env.frame := rfl
  have hcl : s3.heap.objs.size = (compEnvC scope (cellsFrom (s3.heap.objs.size + 1) scope.names (cloFrom X.env.cells scope.names [])) s3.heap.objs.size X.env).locals := rfl
  generalize hce : compEnvC scope (cellsFrom (s3.heap.objs.size + 1) scope.names (cloFrom X.env.cells scope.names [])) s3.heap.objs.size X.env = ce at I4 bis hcf hcl ⊢
  generalize hH3 : upd H2 D (.lst []) = H3 at I3 I4 bis w0 nfp f3
  have tkB : Takes (Blk X s3 H3 scope ce fp (notedBy (model X.prog X.w) X.A ce fun e s'' => compEnds (model X.prog X.w) X.A X.xe use Qf (.ref D) ce (.error e) s'')) (fun cls d _ H' => W cls d σ H') :=
    fun u s' x => by
      rcases htk with ⟨tk, hst, hfr⟩ | hno
      · exact out_of_block (use := use) (Qf := Qf) (acc := .ref D) tk hst hfr hcf I3 f3 hcl x
      · obtain ⟨_, _, _, _, _, _, _, _, _, _, _, _, _, _, _, _, w⟩ := x
        exact absurd w (hno _ _ _ _)
  generalize hxe : (notedBy (model X.prog X.w) X.A ce fun e s'' => compEnds (model X.prog X.w) X.A X.xe use Qf (.ref D) ce (.error e) s'') = xe at tkB
  have I4 : Inv (Blk X s3 H3 scope ce fp xe) [] (wipe σ (own.map (·.2))) H3 { s3 with heap := pushCells (s3.heap.push { cls := .type "dict", data := .dict #[] }) scope.names } := I4.wish xe
  generalize hs4 : ({ s3 with heap := pushCells (s3.heap.push { cls := .type "dict", data := .dict #[] }) scope.names } : Shared) = s4 at I4 ⊢
  have st4 : tn 0 s4.heap := T.keep _ _ _ st3 fun b _ o e => by rw [← hs4]; exact pushCells_keeps _ _ _ _ (Heap.get?_push_of_some _ e)
  have stat : ∀ {σ' : L2.St} {H' : Hp} {s' : Shared}, Inv (Blk X s3 H3 scope ce fp xe) [] σ' H' s' → (∀ b ∈ fp, H' b = none) → ∀ b ∈ fp, FpOk (Blk X s3 H3 scope ce fp xe) [] H' b := fun {σ' H' s'} I' hn b hb =>
    ⟨hn b hb, (I'.ok.exf b hb).1, I'.ok.exfs b hb, .inl hb, fun x c e => (I'.ok.exf b hb).2 x c e, fun p hp => absurd (show p ∈ ([] : List (Addr × Obj)) ++ [] from hp) (by simp)⟩
  have loop : codeAny (model X.prog X.w) X.A (.compLoop (.ListComp elt [⟨tg, iter, ifs, 0⟩] scope pos) 0 (.ref it) (.ref D) ce) (compEnds (model X.prog X.w) X.A X.xe use Qf (.ref D) ce) s4 := by
    refine compLoop_any (fun n s' => ∃ i H', Inv (Blk X s3 H3 scope ce fp xe) [] (wipe σ (own.map (·.2))) H' s' ∧ tn i s'.heap ∧ (∀ b ∈ fp, H' b = none) ∧ Wv i n H') ?_ m0 ⟨0, H3, I4, st4, nfp, w0⟩
    rintro n s5 ⟨i, H5, I5, st5, n5, w5⟩
    rw [hxe]
    rcases turn i n H5 w5 with ⟨stop, qq⟩ | ⟨go, Nx, hNx, step⟩
    · have td := T.done (Blk X s3 H3 scope ce fp xe) rfl rfl rfl hc i [] s5 _ H5 (fun _ _ => False) I5 (stat I5 n5) st5 stop
      refine thnF td fun r s6 ⟨hr, I6'⟩ => ?_
      subst hr
      have I6 : Inv (X.blk s3 H3 scope ce fp) [] (wipe σ (own.map (·.2))) H5 s6 := I6'.unwish
      have I7 : Inv X pins σ H5 s6 := I3.call' (ch := fp) I6.os I6.base I6.hok I6.bare fun b hb => ⟨(f3 b hb).1.2.2.2.1, (f3 b hb).1.2.1, (f3 b hb).1.2.2.2.2.1, (f3 b hb).1.2.2.2.2.2⟩
      have nC : H5 ce.locals = none := I6.free
      obtain ⟨m, hn, _⟩ := I6.loc
      have hn : s6.heap.Ns ce.locals m := hn
      have z := hRR D ce.locals s6 m H5 I7 qq hn (I3.fpOk (by rw [hcl]; exact Nat.le_refl _) nC)
      cases use <;> exact z
    · have ti := T.item (Blk X s3 H3 scope ce fp xe) rfl rfl rfl hc i [] s5 _ H5 (fun _ _ => False) I5 (stat I5 n5) st5 go
      refine thnF ti fun r s6 ⟨u, hr, h6⟩ => ?_
      subst hr
      refine thnF h6 fun _ s7 ⟨x, H7, I7, r7, y7, st7, n7⟩ => ?_
      have I7' := I7.pinned (stat I7 n7) (T.obj _ _ st7)
      refine thn (step _ (bis xe) tkB x H7 y7 _ s7 u I7' r7) fun _ s8 ⟨σ8, H8, I8, hw8, q8⟩ => ?_
      refine thn (q8 _ s8 I8) fun b s9 ⟨H9, I9, q9⟩ => ?_
      have fin : ∀ {s' : Shared} {H' : Hp}, Inv (Blk X s3 H3 scope ce fp xe) ([] ++ pinsAt fp s7.heap) σ8 H' s' → Nx H' → ∃ m, m < n ∧ ∃ i H', Inv (Blk X s3 H3 scope ce fp xe) [] (wipe σ (own.map (·.2))) H' s' ∧ tn i s'.heap ∧ (∀ b ∈ fp, H' b = none) ∧ Wv i m H' := fun {s' H'} I' nx => by
        obtain ⟨m', hm, w'⟩ := hNx H' nx
        have pin' : ∀ b ∈ fp, ∀ o, s7.heap.get? b = some o → s'.heap.get? b = some o ∧ H' b = none := fun b hb o e =>
          let z := I'.pin (b, o) (List.mem_append_right _ (List.mem_append_right _ (mem_pinsAt hb e)))
          ⟨z.1, z.2.1⟩
        have hl : (wipe σ (own.map (·.2))).length = σ8.length := by rw [← hw8, wipe_length]
        refine ⟨m', hm, i + 1, H', (I'.unpinned (pins := [])).weak hl (fun j v e => ?_), T.keep _ _ _ st7 fun b hb o e => (pin' b hb o e).1, fun b hb => ?_, w'⟩
        · rw [← hw8] at e
          exact (wipe_some e).1
        · obtain ⟨o, e, _⟩ := T.obj _ _ st7 b hb
          exact (pin' b hb o e).2
      cases b with
      | false =>
        simp only [Bool.false_eq_true, if_false] at q9 ⊢
        exact fin I9 q9
      | true =>
        simp only [if_true] at q9 ⊢
        refine thn (q9 _ s9 I9) fun z s10 ⟨yv, H10, I10, r10, acc, hD10, hz10, nx⟩ => ?_
        exact app_ok (X := Blk X s3 H3 scope ce fp xe) I10 hD10 hz10 r10 fun s11 I11 => fin I11 nx
  exact codeAny_compStart_list loop (T.self X.A 0 _ _ _ st4 loop)
end

end Fr

set_option Elab.async false
set_option linter.all false
set_option maxRecDepth 100000
set_option maxHeartbeats 2000000
/-! Fr2: frozen data, owned values, states by slots. -/
namespace Fr
open PySem PySem.Spec PyProof.Rows L2

/-- frozen data -/
inductive D where
  | non | bl (b : Bool) | int (i : Int) | str (s : Str) | tup (xs : List D) | lst (xs : List D) | dic (ks : List Key) (xs : List D) | scr (ns : List Int) | exn (a : Addr)
/-- a value: frozen, or a list or a dict that one slot alone holds -/
inductive O where
  | fz (d : D) | lst (os : List O) | dic (ks : List Key) (os : List O)
mutual
def O.frz : O → D
  | .fz d => d
  | .lst os => .lst (frzL os)
  | .dic ks os => .dic ks (frzL os)
def frzL : List O → List D
  | [] => []
  | o :: os => o.frz :: frzL os
end
@[simp] theorem frz_fz (d : D) : (O.fz d).frz = d := by unfold O.frz; rfl
@[simp] theorem frz_lst (os : List O) : (O.lst os).frz = .lst (frzL os) := by rw [O.frz]
@[simp] theorem frz_dic (ks : List Key) (os : List O) : (O.dic ks os).frz = .dic ks (frzL os) := by rw [O.frz]
@[simp] theorem frzL_nil : frzL [] = [] := by rw [frzL]
@[simp] theorem frzL_cons (o : O) (os : List O) : frzL (o :: os) = o.frz :: frzL os := by rw [frzL]
theorem frzL_map (os : List O) : frzL os = os.map O.frz := by
  induction os with
  | nil => simp
  | cons o os ih => simp [ih]
@[simp] theorem frzL_fz (ds : List D) : frzL (ds.map .fz) = ds := by
  induction ds with
  | nil => simp
  | cons d ds ih => simp [ih]
@[simp] theorem frzL_append (a b : List O) : frzL (a ++ b) = frzL a ++ frzL b := by simp [frzL_map]
theorem frzL_length (os : List O) : (frzL os).length = os.length := by simp [frzL_map]

mutual
inductive At (K : PySem.W.Frag) (F : Hp) : V → D → Prop
  | non : At K F .non .non
  | bl (b : Bool) : At K F (.bl b) (.bl b)
  | int (i : Int) : At K F (.int i) (.int i)
  | str (s : Str) : At K F (.str s) (.str s)
  | tup {a : Addr} {vs : List V} {ds : List D} : SqT K F a vs → AtL K F vs ds → At K F (.ref a) (.tup ds)
  | lst {a : Addr} {vs : List V} {ds : List D} : F a = some (.lst vs) → AtL K F vs ds → At K F (.ref a) (.lst ds)
  | scr {a : Addr} {ns : List Int} : SqL K F a (ns.map .int) → At K F (.ref a) (.scr ns)
  | exn {a : Addr} : At K F (.ref a) (.exn a)
  | dic {a : Addr} {kvs : List (Key × V)} {ks : List Key} {ds : List D} : F a = some (.dK kvs) → kvs.map (·.1) = ks → AtL K F (kvs.map (·.2)) ds → At K F (.ref a) (.dic ks ds)
inductive AtL (K : PySem.W.Frag) (F : Hp) : List V → List D → Prop
  | nil : AtL K F [] []
  | cons {v : V} {vs : List V} {d : D} {ds : List D} : At K F v d → AtL K F vs ds → AtL K F (v :: vs) (d :: ds)
end
def Ex (F H : Hp) : Prop := ∀ a o, F a = some o → H a = some o
theorem Ex.refl (H : Hp) : Ex H H := fun _ _ h => h
theorem Ex.trans {F H G : Hp} (a : Ex F H) (b : Ex H G) : Ex F G := fun x o h => b x o (a x o h)
theorem Ex.new {H : Hp} {p : Addr} {o : HO} (h : H p = none) : Ex H (upd H p o) := fun a u e => by
  rw [upd_ne (ne_of_none e h)]
  exact e
theorem Ex.l {K : PySem.W.Frag} {F H : Hp} {a : Addr} {xs : List V} (e : Ex F H) (h : SqL K F a xs) : SqL K H a xs := by
  rcases h with (h | ⟨o, h⟩) | h
  · exact .inl (.inl (e _ _ h))
  · exact .inl (.inr ⟨o, e _ _ h⟩)
  · exact .inr h
theorem Ex.t {K : PySem.W.Frag} {F H : Hp} {a : Addr} {xs : List V} (e : Ex F H) (h : SqT K F a xs) : SqT K H a xs := by
  rcases h with (h | ⟨o, h⟩) | h
  · exact .inl (.inl (e _ _ h))
  · exact .inl (.inr ⟨o, e _ _ h⟩)
  · exact .inr h
theorem Ex.free {F H : Hp} (e : Ex F H) {p : Addr} (h : H p = none) : F p = none := by
  cases q : F p with
  | none => rfl
  | some o =>
    rw [e p o q] at h
    cases h
section
variable {K : PySem.W.Frag} {F H F' H' : Hp}
mutual
theorem At.mono (e : Ex F F') : ∀ {v : V} {d : D}, At K F v d → At K F' v d
  | _, _, .non => .non
  | _, _, .bl b => .bl b
  | _, _, .int i => .int i
  | _, _, .str s => .str s
  | _, _, .tup h t => .tup (e.t h) (AtL.mono e t)
  | _, _, .lst h t => .lst (e _ _ h) (AtL.mono e t)
  | _, _, .scr h => .scr (e.l h)
  | _, _, .exn => .exn
  | _, _, .dic h k t => .dic (e _ _ h) k (AtL.mono e t)
theorem AtL.mono (e : Ex F F') : ∀ {vs : List V} {ds : List D}, AtL K F vs ds → AtL K F' vs ds
  | _, _, .nil => .nil
  | _, _, .cons h t => .cons (At.mono e h) (AtL.mono e t)
end
theorem AtL.length : ∀ {vs : List V} {ds : List D}, AtL K F vs ds → vs.length = ds.length
  | _, _, .nil => rfl
  | _, _, .cons _ t => by rw [List.length_cons, List.length_cons, AtL.length t]
theorem AtL.append : ∀ {vs ws : List V} {ds es : List D}, AtL K F vs ds → AtL K F ws es → AtL K F (vs ++ ws) (ds ++ es)
  | _, _, _, _, .nil, b => b
  | _, _, _, _, .cons h t, b => .cons h (AtL.append t b)
theorem AtL.get : ∀ {vs : List V} {ds : List D} {i : Nat} {d : D}, AtL K F vs ds → ds[i]? = some d → ∃ v, vs[i]? = some v ∧ At K F v d
  | _, _, _, _, .nil, e => by simp at e
  | _, _, 0, _, .cons h _, e => by simp at e; subst e; exact ⟨_, rfl, h⟩
  | _, _, i + 1, _, .cons _ t, e => by
    obtain ⟨v, e1, h⟩ := AtL.get (i := i) t (by simpa using e)
    exact ⟨v, by simpa using e1, h⟩
theorem AtL.get' : ∀ {vs : List V} {ds : List D} {i : Nat} {v : V}, AtL K F vs ds → vs[i]? = some v → ∃ d, ds[i]? = some d ∧ At K F v d
  | _, _, _, _, .nil, e => by simp at e
  | _, _, 0, _, .cons h _, e => by simp at e; subst e; exact ⟨_, rfl, h⟩
  | _, _, i + 1, _, .cons _ t, e => by
    obtain ⟨v, e1, h⟩ := AtL.get' (i := i) t (by simpa using e)
    exact ⟨v, by simpa using e1, h⟩
theorem AtL.take : ∀ {vs : List V} {ds : List D} (n : Nat), AtL K F vs ds → AtL K F (vs.take n) (ds.take n)
  | _, _, 0, _ => by simp; exact .nil
  | _, _, n + 1, .nil => by simp; exact .nil
  | _, _, n + 1, .cons h t => by simp; exact .cons h (AtL.take n t)
theorem AtL.drop : ∀ {vs : List V} {ds : List D} (n : Nat), AtL K F vs ds → AtL K F (vs.drop n) (ds.drop n)
  | _, _, 0, h => by simpa using h
  | _, _, n + 1, .nil => by simp; exact .nil
  | _, _, n + 1, .cons h t => by simp; exact AtL.drop n t
theorem AtL.strs : ∀ {vs : List V} {zs : List Str}, AtL K F vs (zs.map .str) → vs = zs.map .str
  | _, [], .nil => rfl
  | _, z :: zs, .cons h t => by
    cases h
    rw [AtL.strs t]
    rfl
theorem AtL.ints : ∀ {vs : List V} {zs : List Int}, AtL K F vs (zs.map .int) → vs = zs.map .int
  | _, [], .nil => rfl
  | _, z :: zs, .cons h t => by
    cases h
    rw [AtL.ints t]
    rfl
theorem AtL.of_strs : ∀ (zs : List Str), AtL K F (zs.map .str) (zs.map .str)
  | [] => .nil
  | z :: zs => .cons (.str z) (AtL.of_strs zs)
theorem AtL.of_ints : ∀ (zs : List Int), AtL K F (zs.map .int) (zs.map .int)
  | [] => .nil
  | z :: zs => .cons (.int z) (AtL.of_ints zs)

mutual
/-- a value and what it is, S the objects that it alone holds -/
inductive Rep (K : PySem.W.Frag) (F H : Hp) : V → O → List Addr → Prop
  | fz {v : V} {d : D} : At K F v d → Rep K F H v (.fz d) []
  | lst {p : Addr} {vs : List V} {os : List O} {S : List Addr} : H p = some (.lst vs) → F p = none → p ∉ S → Reps K F H vs os S → Rep K F H (.ref p) (.lst os) (p :: S)
  | dic {p : Addr} {kvs : List (Key × V)} {ks : List Key} {os : List O} {S : List Addr} : H p = some (.dK kvs) → F p = none → p ∉ S → kvs.map (·.1) = ks → Reps K F H (kvs.map (·.2)) os S → Rep K F H (.ref p) (.dic ks os) (p :: S)
inductive Reps (K : PySem.W.Frag) (F H : Hp) : List V → List O → List Addr → Prop
  | nil : Reps K F H [] [] []
  | cons {v : V} {vs : List V} {o : O} {os : List O} {S T : List Addr} : Rep K F H v o S → Reps K F H vs os T → (∀ q ∈ S, q ∉ T) → Reps K F H (v :: vs) (o :: os) (S ++ T)
end
mutual
theorem Rep.mono (e : Ex F F') : ∀ {v : V} {o : O} {S : List Addr}, (∀ q ∈ S, F' q = none) → (∀ q ∈ S, H' q = H q) → Rep K F H v o S → Rep K F' H' v o S
  | _, _, _, _, _, .fz h => .fz (h.mono e)
  | _, _, _, hf, hh, .lst h1 h2 h3 t => .lst (by rw [hh _ (List.mem_cons_self ..)]; exact h1) (hf _ (List.mem_cons_self ..)) h3 (Reps.mono e (fun q hq => hf q (List.mem_cons_of_mem _ hq)) (fun q hq => hh q (List.mem_cons_of_mem _ hq)) t)
  | _, _, _, hf, hh, .dic h1 h2 h3 hk t => .dic (by rw [hh _ (List.mem_cons_self ..)]; exact h1) (hf _ (List.mem_cons_self ..)) h3 hk (Reps.mono e (fun q hq => hf q (List.mem_cons_of_mem _ hq)) (fun q hq => hh q (List.mem_cons_of_mem _ hq)) t)
theorem Reps.mono (e : Ex F F') : ∀ {vs : List V} {os : List O} {S : List Addr}, (∀ q ∈ S, F' q = none) → (∀ q ∈ S, H' q = H q) → Reps K F H vs os S → Reps K F' H' vs os S
  | _, _, _, _, _, .nil => .nil
  | _, _, _, hf, hh, .cons h t d => .cons (Rep.mono e (fun q hq => hf q (List.mem_append_left _ hq)) (fun q hq => hh q (List.mem_append_left _ hq)) h) (Reps.mono e (fun q hq => hf q (List.mem_append_right _ hq)) (fun q hq => hh q (List.mem_append_right _ hq)) t) d
end
mutual
theorem Rep.none : ∀ {v : V} {o : O} {S : List Addr}, Rep K F H v o S → ∀ q ∈ S, F q = none ∧ ∃ u, H q = some u
  | _, _, _, .fz _, q, hq => by cases hq
  | _, _, _, .lst h1 h2 _ t, q, hq => by
    rcases List.mem_cons.mp hq with e | hq
    · rw [e]; exact ⟨h2, _, h1⟩
    · exact Reps.none t q hq
  | _, _, _, .dic h1 h2 _ _ t, q, hq => by
    rcases List.mem_cons.mp hq with e | hq
    · rw [e]; exact ⟨h2, _, h1⟩
    · exact Reps.none t q hq
theorem Reps.none : ∀ {vs : List V} {os : List O} {S : List Addr}, Reps K F H vs os S → ∀ q ∈ S, F q = none ∧ ∃ u, H q = some u
  | _, _, _, .nil, q, hq => by cases hq
  | _, _, _, .cons h t _, q, hq => by
    rcases List.mem_append.mp hq with hq | hq
    · exact Rep.none h q hq
    · exact Reps.none t q hq
end
mutual
/-- frozen where it stands -/
theorem Rep.freeze : ∀ {F : Hp} {v : V} {o : O} {S : List Addr}, Ex F H → Rep K F H v o S → ∃ F', Ex F F' ∧ Ex F' H ∧ At K F' v o.frz ∧ ∀ q, q ∉ S → F' q = F q
  | F, _, _, _, e, .fz h => ⟨F, Ex.refl F, e, by simpa using h, fun _ _ => rfl⟩
  | F, _, _, _, e, @Rep.lst _ _ _ p vs os S h1 h2 h3 t => by
    obtain ⟨F', e1, e2, a, k⟩ := Reps.freeze e t
    have hp : F' p = Option.none := by rw [k p h3]; exact h2
    refine ⟨upd F' p (.lst vs), e1.trans (Ex.new hp), fun a o ha => ?_, ?_, fun q hq => ?_⟩
    · by_cases hb : a = p
      · subst hb
        rw [upd_same] at ha
        cases ha
        exact h1
      · rw [upd_ne hb] at ha
        exact e2 a o ha
    · rw [frz_lst]
      exact .lst upd_same (a.mono (Ex.new hp))
    · simp only [List.mem_cons, not_or] at hq
      rw [upd_ne hq.1]
      exact k q hq.2
  | F, _, _, _, e, @Rep.dic _ _ _ p kvs ks os S h1 h2 h3 hk t => by
    obtain ⟨F', e1, e2, a, k⟩ := Reps.freeze e t
    have hp : F' p = Option.none := by rw [k p h3]; exact h2
    refine ⟨upd F' p (.dK kvs), e1.trans (Ex.new hp), fun a o ha => ?_, ?_, fun q hq => ?_⟩
    · by_cases hb : a = p
      · subst hb
        rw [upd_same] at ha
        cases ha
        exact h1
      · rw [upd_ne hb] at ha
        exact e2 a o ha
    · rw [frz_dic]
      exact .dic upd_same hk (a.mono (Ex.new hp))
    · simp only [List.mem_cons, not_or] at hq
      rw [upd_ne hq.1]
      exact k q hq.2
theorem Reps.freeze : ∀ {F : Hp} {vs : List V} {os : List O} {S : List Addr}, Ex F H → Reps K F H vs os S → ∃ F', Ex F F' ∧ Ex F' H ∧ AtL K F' vs (frzL os) ∧ ∀ q, q ∉ S → F' q = F q
  | F, _, _, _, e, .nil => ⟨F, Ex.refl F, e, by simp; exact .nil, fun _ _ => rfl⟩
  | F, _, _, _, e, @Reps.cons _ _ _ v vs o os S T h t d => by
    obtain ⟨F1, e1, e2, a, k⟩ := Rep.freeze e h
    have t' : Reps K F1 H vs os T := Reps.mono e1 (fun q hq => by
      rw [k q fun z => d q z hq]
      exact (Reps.none t q hq).1) (fun _ _ => rfl) t
    obtain ⟨F2, e3, e4, a2, k2⟩ := Reps.freeze e2 t'
    refine ⟨F2, e1.trans e3, e4, ?_, fun q hq => ?_⟩
    · rw [frzL_cons]
      exact .cons (a.mono e3) a2
    · simp only [List.mem_append, not_or] at hq
      rw [k2 q hq.2, k q hq.1]
end
theorem Reps.length : ∀ {vs : List V} {os : List O} {S : List Addr}, Reps K F H vs os S → vs.length = os.length
  | _, _, _, .nil => rfl
  | _, _, _, .cons _ t _ => by rw [List.length_cons, List.length_cons, Reps.length t]
theorem Reps.of_at : ∀ {vs : List V} {ds : List D}, AtL K F vs ds → Reps K F H vs (ds.map .fz) []
  | _, _, .nil => .nil
  | _, _, .cons h t => Reps.cons (S := []) (T := []) (.fz h) (Reps.of_at t) (fun _ z => by cases z)
theorem Reps.append : ∀ {vs ws : List V} {os ps : List O} {S T : List Addr}, Reps K F H vs os S → Reps K F H ws ps T → (∀ q ∈ S, q ∉ T) → Reps K F H (vs ++ ws) (os ++ ps) (S ++ T)
  | _, _, _, _, _, _, .nil, b, _ => b
  | _, _, _, _, _, T, @Reps.cons _ _ _ v vs o os S1 S2 h t d, b, x => by
    rw [List.append_assoc]
    refine .cons h (Reps.append t b fun q hq => x q (List.mem_append_right _ hq)) fun q hq hm => ?_
    rcases List.mem_append.mp hm with z | z
    · exact d q hq z
    · exact x q (List.mem_append_left _ hq) z
end

/-! ### states -/
abbrev Rho := List (Option O)
def own (fp : Nat → List Addr) (q : Addr) : Prop := ∃ i, q ∈ fp i
structure SR (K : PySem.W.Frag) (F H : Hp) (σ : L2.St) (ρ : Rho) (fp : Nat → List Addr) : Prop where
  len : ρ.length = σ.length
  ex : Ex F H
  slot : ∀ i o, ρ[i]? = some (some o) → ∃ v, σ[i]? = some (some v) ∧ Rep K F H v o (fp i)
  nil : ∀ i, (∀ o, ρ[i]? ≠ some (some o)) → fp i = []
  dis : ∀ i j, i ≠ j → ∀ q ∈ fp i, q ∉ fp j
/-- what may have changed between two states: what A holds, and what is new; B holds then -/
structure Mv (A : Addr → Prop) (F H : Hp) (B : Addr → Prop) (F' H' : Hp) : Prop where
  ef : Ex F F'
  keep : ∀ q o, H q = some o → ¬ A q → H' q = some o ∧ F' q = F q
  new : ∀ q, B q → A q ∨ H q = none
theorem Mv.refl {A : Addr → Prop} {F H : Hp} : Mv A F H A F H := ⟨Ex.refl F, fun _ _ h _ => ⟨h, rfl⟩, fun _ h => .inl h⟩
theorem Mv.trans {A A1 A2 : Addr → Prop} {F H F1 H1 F2 H2 : Hp} (a : Mv A F H A1 F1 H1) (b : Mv A1 F1 H1 A2 F2 H2) : Mv A F H A2 F2 H2 := by
  have key : ∀ q o, H q = some o → ¬ A q → ¬ A1 q := fun q o h hn h1 => by
    rcases a.new q h1 with z | z
    · exact hn z
    · rw [h] at z; cases z
  refine ⟨a.ef.trans b.ef, fun q o h hn => ?_, fun q h => ?_⟩
  · obtain ⟨h1, f1⟩ := a.keep q o h hn
    obtain ⟨h2, f2⟩ := b.keep q o h1 (key q o h hn)
    exact ⟨h2, f2.trans f1⟩
  · rcases b.new q h with z | z
    · exact a.new q z
    · by_cases hq : A q
      · exact .inl hq
      · refine .inr ?_
        cases e : H q with
        | none => rfl
        | some o =>
          rw [(a.keep q o e hq).1] at z
          cases z
theorem Mv.less {A B B' : Addr → Prop} {F H F' H' : Hp} (m : Mv A F H B F' H') (h : ∀ q, B' q → B q) : Mv A F H B' F' H' := ⟨m.ef, m.keep, fun q hq => m.new q (h q hq)⟩
theorem Mv.more {A A' B : Addr → Prop} {F H F' H' : Hp} (m : Mv A F H B F' H') (h : ∀ q, A q → A' q) : Mv A' F H B F' H' := ⟨m.ef, fun q o e n => m.keep q o e fun z => n (h q z), fun q hq => (m.new q hq).imp (h q) id⟩
section
variable {K : PySem.W.Frag} {F H F' H' : Hp} {σ : L2.St} {ρ : Rho} {fp fp' : Nat → List Addr} {A B : Addr → Prop}
theorem SR.owned (s : SR K F H σ ρ fp) {q : Addr} (h : own fp q) : F q = none ∧ ∃ u, H q = some u := by
  obtain ⟨i, hi⟩ := h
  by_cases e : ∃ o, ρ[i]? = some (some o)
  · obtain ⟨o, e⟩ := e
    obtain ⟨v, _, r⟩ := s.slot i o e
    exact r.none q hi
  · rw [s.nil i fun o z => e ⟨o, z⟩] at hi
    cases hi
/-- the heaps change off what is held -/
theorem SR.mono (s : SR K F H σ ρ fp) (e : Ex F F') (x : Ex F' H') (hf : ∀ q, own fp q → F' q = none) (hh : ∀ q, own fp q → H' q = H q) : SR K F' H' σ ρ fp :=
  ⟨s.len, x, fun i o h => by
    obtain ⟨v, e1, r⟩ := s.slot i o h
    exact ⟨v, e1, r.mono e (fun q hq => hf q ⟨i, hq⟩) (fun q hq => hh q ⟨i, hq⟩)⟩, s.nil, s.dis⟩
theorem Rep.along {v : V} {o : O} {S : List Addr} (r : Rep K F H v o S) (m : Mv A F H B F' H') (d : ∀ q ∈ S, ¬ A q) : Rep K F' H' v o S :=
  r.mono m.ef (fun q hq => by
    obtain ⟨h1, u, h2⟩ := r.none q hq
    rw [(m.keep q u h2 (d q hq)).2]
    exact h1) (fun q hq => by
    obtain ⟨h1, u, h2⟩ := r.none q hq
    rw [h2]
    exact (m.keep q u h2 (d q hq)).1)
theorem Reps.along {vs : List V} {os : List O} {S : List Addr} (r : Reps K F H vs os S) (m : Mv A F H B F' H') (d : ∀ q ∈ S, ¬ A q) : Reps K F' H' vs os S :=
  r.mono m.ef (fun q hq => by
    obtain ⟨h1, u, h2⟩ := r.none q hq
    rw [(m.keep q u h2 (d q hq)).2]
    exact h1) (fun q hq => by
    obtain ⟨h1, u, h2⟩ := r.none q hq
    rw [h2]
    exact (m.keep q u h2 (d q hq)).1)
/-- what stays off the held things of the state behind -/
theorem Mv.off {S : List Addr} (m : Mv A F H B F' H') (d : ∀ q ∈ S, ¬ A q) (hs : ∀ q ∈ S, ∃ u, H q = some u) : ∀ q ∈ S, ¬ B q := fun q hq h => by
  rcases m.new q h with z | z
  · exact d q hq z
  · obtain ⟨u, e⟩ := hs q hq
    rw [e] at z
    cases z
/-- a value is frozen: the state stays -/
theorem SR.freeze (s : SR K F H σ ρ fp) {v : V} {o : O} {S : List Addr} (r : Rep K F H v o S) (d : ∀ q ∈ S, ¬ own fp q) : ∃ F', SR K F' H σ ρ fp ∧ At K F' v o.frz ∧ Ex F F' ∧ ∀ q, q ∉ S → F' q = F q := by
  obtain ⟨F', e1, e2, a, k⟩ := r.freeze s.ex
  refine ⟨F', s.mono e1 e2 (fun q hq => ?_) (fun _ _ => rfl), a, e1, k⟩
  rw [k q fun z => d q z hq]
  exact (s.owned hq).1
end
end Fr

set_option Elab.async false
set_option linter.all false
set_option maxRecDepth 100000
set_option maxHeartbeats 2000000
/-! Fr3: contexts, the judgements EV (expressions), ET (tests), EVs (argument lists), names, constants, operators. -/
namespace Fr
open PySem PySem.Spec PyProof.Rows L2

structure Exc where
  name : Str
  fld : Option (Str × D) := none
structure Gx where
  P : Program
  w : World
  K : PySem.W.Frag
  mg : Str → Option Value
  base : Heap
structure Ctx where
  G : Gx
  lv : Nat
  N : List Str
  sc : Scope
  top : Bool
  su : Option (Addr × Exc) := none
abbrev Ctx.K (C : Ctx) := C.G.K
structure XIs (C : Ctx) (X : Cx) : Prop where
  P : X.prog = C.G.P
  w : X.w = C.G.w
  K : X.K = C.G.K
  mg : X.mg = C.G.mg
  base : X.base = C.G.base
  N : X.N = C.N
  nd : X.N.Nodup
  sc : X.env.scope = C.sc
  rm : C.su = none → Room C.lv X.A
  calm : C.su = none → X.calm = true
  un : X.A.units + 64 < cLine
  exn : ∀ a c, C.su = some (a, c) → ∃ (X0 : Cx) (oe : Obj) (pn : List (Addr × Obj)) (cls : Value) (d : Option Addr), X = X0.suite a ((a, oe) :: pn) ∧ Zc cls d oe ∧ (∃ vs, oe.data = .fields vs) ∧ ∃ ca, C.G.mg c.name = some (.ref ca) ∧ cls = .ref ca ∧ (match c.fld with
    | none => d = none
    | some (f, dv) => ∃ dd, d = some dd)
  top : C.top = true → X.stack = X.env :: X.outer ∧ X.env.frame = some X.env.locals
  fn : C.top = true → ∀ x, X.fn x = true
/-- an exception of the text's own classes, as it lies -/
def XR (G : Gx) (c : Exc) (cls : Value) (d : Option Addr) (F H : Hp) : Prop :=
  ∃ a, G.mg c.name = some (.ref a) ∧ cls = .ref a ∧ (match c.fld with
    | none => d = none
    | some (f, dv) => ∃ dd v, d = some dd ∧ H dd = some (.xd [(f, v)]) ∧ At G.K F v dv)

/-- the ends of an expression: a value, a frozen value, an exception -/
def VP (K : PySem.W.Frag) (σ : L2.St) (A : Addr → Prop) (F H : Hp) (k : O → Rho → Prop) : VK := fun v H' => ∃ o ρ' F' fp' S, k o ρ' ∧ SR K F' H' σ ρ' fp' ∧ Rep K F' H' v o S ∧ (∀ q ∈ S, ¬ own fp' q) ∧ Mv A F H (fun q => own fp' q ∨ q ∈ S) F' H'
def DP (K : PySem.W.Frag) (σ : L2.St) (A : Addr → Prop) (F H : Hp) (k : D → Rho → Prop) : VK := fun v H' => ∃ d ρ' F' fp', k d ρ' ∧ SR K F' H' σ ρ' fp' ∧ At K F' v d ∧ Mv A F H (own fp') F' H'
def BP (K : PySem.W.Frag) (σ : L2.St) (A : Addr → Prop) (F H : Hp) (k : Bool → Rho → Prop) : Bool → Hp → Prop := fun b H' => ∃ ρ' F' fp', k b ρ' ∧ SR K F' H' σ ρ' fp' ∧ Mv A F H (own fp') F' H'
def LP (K : PySem.W.Frag) (σ : L2.St) (A : Addr → Prop) (F H : Hp) (k : List D → Rho → Prop) : List V → Hp → Prop := fun vs H' => ∃ ds ρ' F' fp', k ds ρ' ∧ SR K F' H' σ ρ' fp' ∧ AtL K F' vs ds ∧ Mv A F H (own fp') F' H'
def XP (G : Gx) (W : WX) (σ : L2.St) (A : Addr → Prop) (F H : Hp) (Ξ : Exc → Rho → Prop) : Prop := ∀ c ρ' F' H' fp' cls d, Ξ c ρ' → SR G.K F' H' σ ρ' fp' → XR G c cls d F' H' → Mv A F H (own fp') F' H' → W cls d σ H'
theorem XP.along {G : Gx} {W : WX} {σ : L2.St} {A B : Addr → Prop} {F H F1 H1 : Hp} {Ξ : Exc → Rho → Prop} (x : XP G W σ A F H Ξ) (m : Mv A F H B F1 H1) : XP G W σ B F1 H1 Ξ :=
  fun c ρ' F' H' fp' cls d h s r m' => x c ρ' F' H' fp' cls d h s r (m.trans m')
theorem VP.along {K : PySem.W.Frag} {σ : L2.St} {A B : Addr → Prop} {F H F1 H1 : Hp} {k : O → Rho → Prop} {v : V} {H' : Hp} (m : Mv A F H B F1 H1) (h : VP K σ B F1 H1 k v H') : VP K σ A F H k v H' := by
  obtain ⟨o, ρ', F', fp', S, h1, h2, h3, h4, h5⟩ := h
  exact ⟨o, ρ', F', fp', S, h1, h2, h3, h4, m.trans h5⟩
theorem BP.along {K : PySem.W.Frag} {σ : L2.St} {A B : Addr → Prop} {F H F1 H1 : Hp} {k : Bool → Rho → Prop} {v : Bool} {H' : Hp} (m : Mv A F H B F1 H1) (h : BP K σ B F1 H1 k v H') : BP K σ A F H k v H' := by
  obtain ⟨ρ', F', fp', h1, h2, h3⟩ := h
  exact ⟨ρ', F', fp', h1, h2, m.trans h3⟩
theorem LP.along {K : PySem.W.Frag} {σ : L2.St} {A B : Addr → Prop} {F H F1 H1 : Hp} {k : List D → Rho → Prop} {v : List V} {H' : Hp} (m : Mv A F H B F1 H1) (h : LP K σ B F1 H1 k v H') : LP K σ A F H k v H' := by
  obtain ⟨ds, ρ', F', fp', h1, h2, h3, h4⟩ := h
  exact ⟨ds, ρ', F', fp', h1, h2, h3, m.trans h4⟩
theorem VP.d {K : PySem.W.Frag} {σ : L2.St} {A : Addr → Prop} {F H : Hp} {k : D → Rho → Prop} {v : V} {H' : Hp} (h : VP K σ A F H (fun o ρ => k o.frz ρ) v H') : DP K σ A F H k v H' := by
  obtain ⟨o, ρ', F', fp', S, h1, h2, h3, h4, h5⟩ := h
  obtain ⟨F2, s2, a2, e2, k2⟩ := h2.freeze h3 h4
  refine ⟨_, ρ', F2, fp', h1, s2, a2, ⟨h5.ef.trans e2, fun q u hq hn => ?_, fun q hq => h5.new q (.inl hq)⟩⟩
  obtain ⟨z1, z2⟩ := h5.keep q u hq hn
  refine ⟨z1, ?_⟩
  rw [← z2]
  refine k2 q fun hm => ?_
  rcases h5.new q (.inr hm) with z | z
  · exact hn z
  · rw [hq] at z; cases z
theorem VP.mono {K : PySem.W.Frag} {σ : L2.St} {A : Addr → Prop} {F H : Hp} {k k' : O → Rho → Prop} {v : V} {H' : Hp} (h : VP K σ A F H k v H') (hk : ∀ o ρ, k o ρ → k' o ρ) : VP K σ A F H k' v H' := by
  obtain ⟨o, ρ', F', fp', S, h1, h2⟩ := h
  exact ⟨o, ρ', F', fp', S, hk _ _ h1, h2⟩

def EV (C : Ctx) (e : Expr) (ρ : Rho) (k : O → Rho → Prop) (Ξ : Exc → Rho → Prop) : Prop :=
  ∀ X, XIs C X → ∀ W, Takes X W → ∀ σ F H fp, SR C.G.K F H σ ρ fp → XP C.G W σ (own fp) F H Ξ → wE X e σ H (VP C.G.K σ (own fp) F H k)
def ET (C : Ctx) (e : Expr) (ρ : Rho) (k : Bool → Rho → Prop) (Ξ : Exc → Rho → Prop) : Prop :=
  ∀ X, XIs C X → ∀ W, Takes X W → ∀ σ F H fp, SR C.G.K F H σ ρ fp → XP C.G W σ (own fp) F H Ξ → wT X e σ H (BP C.G.K σ (own fp) F H k)
def EVs (C : Ctx) (es : List Expr) (ρ : Rho) (k : List D → Rho → Prop) (Ξ : Exc → Rho → Prop) : Prop :=
  ∀ X, XIs C X → ∀ W, Takes X W → ∀ σ F H fp, SR C.G.K F H σ ρ fp → XP C.G W σ (own fp) F H Ξ → wA X es σ H (LP C.G.K σ (own fp) F H k)

theorem wT.mono {X : Cx} {e : Expr} {σ H} {Q Q' : Bool → Hp → Prop} (h : wT X e σ H Q) (k : ∀ v H', Q v H' → Q' v H') : wT X e σ H Q' := fun pins s I =>
  thn (h pins s I) fun _ _ ⟨H', I', q⟩ => ⟨H', I', k _ _ q⟩
theorem wA.mono {X : Cx} {es : List Expr} {σ H} {Q Q' : List V → Hp → Prop} (h : wA X es σ H Q) (k : ∀ v H', Q v H' → Q' v H') : wA X es σ H Q' := fun pos pins s I =>
  thn (h pos pins s I) fun _ _ ⟨vs, H', I', r, q⟩ => ⟨vs, H', I', r, k _ _ q⟩
section
variable {C : Ctx} {e : Expr} {ρ : Rho} {Ξ : Exc → Rho → Prop} {X : Cx} {W : WX} {σ : L2.St} {F H : Hp} {fp : Nat → List Addr}
theorem EV.d {k : D → Rho → Prop} (h : EV C e ρ (fun o ρ => k o.frz ρ) Ξ) (hx : XIs C X) (tk : Takes X W) (s : SR C.G.K F H σ ρ fp) (x : XP C.G W σ (own fp) F H Ξ) : wE X e σ H (DP C.G.K σ (own fp) F H k) :=
  (h X hx W tk σ F H fp s x).mono fun _ _ q => q.d
theorem EV.mono {k k' : O → Rho → Prop} (h : EV C e ρ k Ξ) (hk : ∀ o ρ, k o ρ → k' o ρ) : EV C e ρ k' Ξ := fun X hx W tk σ F H fp s x => (h X hx W tk σ F H fp s x).mono fun _ _ q => q.mono hk
end

/-! ### results -/
theorem Rep.at_fz {K : PySem.W.Frag} {F H : Hp} {v : V} {d : D} {S : List Addr} (r : Rep K F H v (.fz d) S) : At K F v d := by
  generalize ho : O.fz d = o at r
  cases r with
  | fz a => cases ho; exact a
  | lst _ _ _ _ => cases ho
  | dic _ _ _ _ _ => cases ho
section
variable {K : PySem.W.Frag} {σ : L2.St} {F H : Hp} {ρ : Rho} {fp : Nat → List Addr} {k : O → Rho → Prop} {v : V} {d : D} {p : Addr} {vs : List V} {ds : List D}
theorem fin_d (s : SR K F H σ ρ fp) (a : At K F v d) (q : k (.fz d) ρ) : VP K σ (own fp) F H k v H :=
  ⟨_, ρ, F, fp, [], q, s, .fz a, fun _ z => (by cases z), Mv.refl.less fun q hq => hq.elim id fun z => (by cases z)⟩
theorem own_ne (s : SR K F H σ ρ fp) (hp : H p = none) {q : Addr} (h : own fp q) : q ≠ p := fun e => by
  obtain ⟨_, u, z⟩ := s.owned h
  rw [e, hp] at z
  cases z
theorem SR.newF (s : SR K F H σ ρ fp) (hp : H p = none) (o : HO) : SR K (upd F p o) (upd H p o) σ ρ fp := by
  have fpn : F p = none := s.ex.free hp
  refine s.mono (Ex.new fpn) (fun a u h => ?_) (fun q hq => ?_) (fun q hq => upd_ne (own_ne s hp hq))
  · by_cases e : a = p
    · subst e
      rw [upd_same] at h ⊢
      exact h
    · rw [upd_ne e] at h ⊢
      exact s.ex a u h
  · rw [upd_ne (own_ne s hp hq)]
    exact (s.owned hq).1
theorem SR.newO (s : SR K F H σ ρ fp) (hp : H p = none) (o : HO) : SR K F (upd H p o) σ ρ fp := by
  have fpn : F p = none := s.ex.free hp
  refine s.mono (Ex.refl F) (fun a u h => ?_) (fun q hq => (s.owned hq).1) (fun q hq => upd_ne (own_ne s hp hq))
  by_cases e : a = p
  · subst e
    rw [fpn] at h
    cases h
  · rw [upd_ne e]
    exact s.ex a u h
theorem Mv.newF {A : Addr → Prop} (hp : H p = none) (fpn : F p = none) (o : HO) : Mv A F H A (upd F p o) (upd H p o) :=
  ⟨Ex.new fpn, fun q u h _ => ⟨by rw [upd_ne (ne_of_none h hp)]; exact h, upd_ne (ne_of_none h hp)⟩, fun _ h => .inl h⟩
theorem Mv.newO {A : Addr → Prop} (hp : H p = none) (o : HO) : Mv A F H (fun q => A q ∨ q = p) F (upd H p o) :=
  ⟨Ex.refl F, fun q u h _ => ⟨by rw [upd_ne (ne_of_none h hp)]; exact h, rfl⟩, fun q h => h.imp id fun e => by rw [e]; exact hp⟩
/-- a new tuple | a new list of frozen things -/
theorem fin_tup (s : SR K F H σ ρ fp) (a : AtL K F vs ds) (hp : H p = none) (q : k (.fz (.tup ds)) ρ) : VP K σ (own fp) F H k (.ref p) (upd H p (.tup vs)) := by
  have fpn : F p = none := s.ex.free hp
  exact VP.along (Mv.newF hp fpn (.tup vs)) (fin_d (s.newF hp _) (.tup (.inl (.inl upd_same)) (a.mono (Ex.new fpn))) q)
theorem fin_lst (s : SR K F H σ ρ fp) (a : AtL K F vs ds) (hp : H p = none) (q : k (.lst (ds.map .fz)) ρ) : VP K σ (own fp) F H k (.ref p) (upd H p (.lst vs)) := by
  have fpn : F p = none := s.ex.free hp
  refine ⟨_, ρ, F, fp, [p], q, s.newO hp _, .lst upd_same fpn (by simp) (Reps.of_at a), fun r hr => ?_, (Mv.newO hp _).less fun r hr => hr.imp id fun z => by simpa using z⟩
  have e : r = p := by simpa using hr
  subst e
  exact fun z => own_ne s hp z rfl
end
inductive RV where
  | d (d : D) | l (ds : List D)
def RV.o : RV → O
  | .d x => .fz x
  | .l ds => .lst (ds.map .fz)

/-! ### names, constants -/
section
variable {C : Ctx} {ρ : Rho} {k : O → Rho → Prop} {Ξ : Exc → Rho → Prop}
theorem XIs.vis {X : Cx} (hx : XIs C X) {x : Str} (hv : Vis C.sc x) : Vis X.env.scope x := by rw [hx.sc]; exact hv
theorem XIs.gl {X : Cx} (hx : XIs C X) {x : Str} (hv : C.sc.names.lookup x = some .globalImplicit) : Gl X x := by
  show X.env.scope.names.lookup x = _
  rw [hx.sc]; exact hv
/-- a slot that is frozen | one that holds alone: frozen now | moved out -/
theorem ev_var {i : Nat} {x : Str} {pos : Pos} {d : D} (hr : ρ[i]? = some (some (.fz d))) (q : k (.fz d) ρ) (hN : C.N[i]? = some x := by rfl) (hv : Vis C.sc x := by first | exact .inl rfl | exact .inr (.inl rfl) | exact .inr (.inr rfl))
    (hd : (x == ("__debug__" : Str)) = false := by decide) (hcd : (x == ("__classdict__" : Str)) = false := by decide) : EV C (.Name x pos) ρ k Ξ := by
  intro X hx W tk σ F H fp s _
  obtain ⟨v, e, r⟩ := s.slot i _ hr
  refine w_e (pe_var (i := i) (by rw [hx.N]; exact hN) (hx.vis hv) hd hcd) ⟨v, e, ?_⟩
  exact fin_d s r.at_fz q
def wo (fp : Nat → List Addr) (i : Nat) : Nat → List Addr := fun j => if j = i then [] else fp j
theorem own_wo {fp : Nat → List Addr} {i : Nat} {q : Addr} (h : own (wo fp i) q) : own fp q := by
  obtain ⟨j, hj⟩ := h
  unfold wo at hj
  by_cases e : j = i
  · rw [if_pos e] at hj; cases hj
  · rw [if_neg e] at hj; exact ⟨j, hj⟩
theorem set_get {α : Type} {l : List α} {i j : Nat} {a b : α} (h : (l.set i a)[j]? = some b) : (i = j ∧ b = a) ∨ (i ≠ j ∧ l[j]? = some b) := by
  by_cases e : i = j
  · subst e
    by_cases hi : i < l.length
    · rw [List.getElem?_set_self hi] at h
      exact .inl ⟨rfl, (Option.some.inj h).symm⟩
    · rw [List.getElem?_eq_none (by simpa using hi)] at h
      cases h
  · rw [List.getElem?_set_ne e] at h
    exact .inr ⟨e, h⟩
/-- a slot let go -/
theorem SR.drop {K : PySem.W.Frag} {F H : Hp} {σ : L2.St} {fp : Nat → List Addr} (s : SR K F H σ ρ fp) (i : Nat) : SR K F H σ (ρ.set i none) (wo fp i) := by
  refine ⟨by rw [List.length_set]; exact s.len, s.ex, fun j o h => ?_, fun j h => ?_, fun a b hab q hq hq' => ?_⟩
  · rcases set_get h with ⟨_, z⟩ | ⟨hn, z⟩
    · cases z
    · obtain ⟨v, e, r⟩ := s.slot j o z
      refine ⟨v, e, ?_⟩
      unfold wo
      rw [if_neg (Ne.symm hn)]
      exact r
  · unfold wo
    by_cases e : j = i
    · rw [if_pos e]
    · rw [if_neg e]
      refine s.nil j fun o z => h o ?_
      rw [List.getElem?_set_ne (Ne.symm e)]
      exact z
  · unfold wo at hq hq'
    by_cases e : a = i
    · rw [if_pos e] at hq; cases hq
    · rw [if_neg e] at hq
      by_cases e' : b = i
      · rw [if_pos e'] at hq'; cases hq'
      · rw [if_neg e'] at hq'
        exact s.dis a b hab q hq hq'
theorem not_wo {K : PySem.W.Frag} {F H : Hp} {σ : L2.St} {fp : Nat → List Addr} (s : SR K F H σ ρ fp) {i : Nat} {q : Addr} (h : q ∈ fp i) : ¬ own (wo fp i) q := fun z => by
  obtain ⟨j, hj⟩ := z
  unfold wo at hj
  by_cases e : j = i
  · rw [if_pos e] at hj; cases hj
  · rw [if_neg e] at hj
    exact s.dis j i e q hj h
/-- a slot is given a value -/
def wi (fp : Nat → List Addr) (i : Nat) (S : List Addr) : Nat → List Addr := fun j => if j = i then S else fp j
theorem own_wi {fp : Nat → List Addr} {i : Nat} {S : List Addr} {q : Addr} (h : own (wi fp i S) q) : own fp q ∨ q ∈ S := by
  obtain ⟨j, hj⟩ := h
  unfold wi at hj
  by_cases e : j = i
  · rw [if_pos e] at hj; exact .inr hj
  · rw [if_neg e] at hj; exact .inl ⟨j, hj⟩
theorem SR.put {K : PySem.W.Frag} {F H : Hp} {σ σ' : L2.St} {fp : Nat → List Addr} {v : V} {o : O} {S : List Addr} {i : Nat} (s : SR K F H σ ρ fp) (r : Rep K F H v o S) (d : ∀ q ∈ S, ¬ own fp q) (hi : i < ρ.length)
    (hσ : σ'.length = σ.length) (he : σ'[i]? = some (some v)) (hn : ∀ j, j ≠ i → σ'[j]? = σ[j]?) : SR K F H σ' (ρ.set i (some o)) (wi fp i S) := by
  refine ⟨by rw [List.length_set, hσ]; exact s.len, s.ex, fun j o' h => ?_, fun j h => ?_, fun a b hab q hq hq' => ?_⟩
  · rcases set_get h with ⟨e, z⟩ | ⟨e, z⟩
    · subst e
      cases z
      refine ⟨v, he, ?_⟩
      unfold wi
      rw [if_pos rfl]
      exact r
    · obtain ⟨v', e', r'⟩ := s.slot j o' z
      refine ⟨v', by rw [hn j (Ne.symm e)]; exact e', ?_⟩
      unfold wi
      rw [if_neg (Ne.symm e)]
      exact r'
  · unfold wi
    by_cases e : j = i
    · subst e
      exact absurd (by rw [List.getElem?_set_self hi]) (h o)
    · rw [if_neg e]
      refine s.nil j fun o' z => h o' ?_
      rw [List.getElem?_set_ne (Ne.symm e)]
      exact z
  · unfold wi at hq hq'
    by_cases e : a = i
    · rw [if_pos e] at hq
      by_cases e' : b = i
      · exact hab (e.trans e'.symm)
      · rw [if_neg e'] at hq'
        exact d q hq ⟨b, hq'⟩
    · rw [if_neg e] at hq
      by_cases e' : b = i
      · rw [if_pos e'] at hq'
        exact d q hq' ⟨a, hq⟩
      · rw [if_neg e'] at hq'
        exact s.dis a b hab q hq hq'
theorem ev_mov {i : Nat} {x : Str} {pos : Pos} {o : O} (hr : ρ[i]? = some (some o)) (q : k o (ρ.set i none)) (hN : C.N[i]? = some x := by rfl) (hv : Vis C.sc x := by first | exact .inl rfl | exact .inr (.inl rfl) | exact .inr (.inr rfl))
    (hd : (x == ("__debug__" : Str)) = false := by decide) (hcd : (x == ("__classdict__" : Str)) = false := by decide) : EV C (.Name x pos) ρ k Ξ := by
  intro X hx W tk σ F H fp s _
  obtain ⟨v, e, r⟩ := s.slot i _ hr
  refine w_e (pe_var (i := i) (by rw [hx.N]; exact hN) (hx.vis hv) hd hcd) ⟨v, e, ?_⟩
  exact ⟨o, _, F, wo fp i, fp i, q, s.drop i, r, fun q hq => not_wo s hq, Mv.refl.less fun q hq => hq.elim own_wo fun z => ⟨i, z⟩⟩
theorem ev_frz {i : Nat} {x : Str} {pos : Pos} {o : O} (hr : ρ[i]? = some (some o)) (q : k (.fz o.frz) (ρ.set i (some (.fz o.frz)))) (hN : C.N[i]? = some x := by rfl) (hv : Vis C.sc x := by first | exact .inl rfl | exact .inr (.inl rfl) | exact .inr (.inr rfl))
    (hd : (x == ("__debug__" : Str)) = false := by decide) (hcd : (x == ("__classdict__" : Str)) = false := by decide) : EV C (.Name x pos) ρ k Ξ := by
  intro X hx W tk σ F H fp s _
  obtain ⟨v, e, r⟩ := s.slot i _ hr
  refine w_e (pe_var (i := i) (by rw [hx.N]; exact hN) (hx.vis hv) hd hcd) ⟨v, e, ?_⟩
  obtain ⟨F2, s2, a2, e2, k2⟩ := (s.drop i).freeze r fun q hq => not_wo s hq
  have hi : i < ρ.length := (List.getElem?_eq_some_iff.mp hr).1
  have s3 := s2.put (i := i) (σ' := σ) (.fz a2) (fun _ z => by cases z) (by rw [List.length_set]; exact hi) rfl e fun _ _ => rfl
  rw [List.set_set] at s3
  refine ⟨_, _, F2, _, [], q, s3, .fz a2, fun _ z => (by cases z), ⟨e2, fun p u h hn => ⟨h, k2 p fun z => hn ⟨i, z⟩⟩, fun p hp => ?_⟩⟩
  rcases hp with hp | hp
  · rcases own_wi hp with z | z
    · exact .inl (own_wo z)
    · cases z
  · cases hp
theorem ev_int {i j pos} (q : k (.fz (.int i)) ρ) : EV C (.Constant (.int i) j pos) ρ k Ξ := fun _ _ _ _ _ _ _ _ s _ => w_e pe_int (fin_d s (.int i) q)
theorem ev_bl {b j pos} (q : k (.fz (.bl b)) ρ) : EV C (.Constant (.bool b) j pos) ρ k Ξ := fun _ _ _ _ _ _ _ _ s _ => w_e pe_bl (fin_d s (.bl b) q)
theorem ev_non {j pos} (q : k (.fz .non) ρ) : EV C (.Constant .none j pos) ρ k Ξ := fun _ _ _ _ _ _ _ _ s _ => w_e pe_non (fin_d s .non q)
theorem ev_str {x j pos} (q : k (.fz (.str x)) ρ) : EV C (.Constant (.str x) j pos) ρ k Ξ := fun _ _ _ _ _ _ _ _ s _ => w_e pe_str (fin_d s (.str x) q)
/-- a constant of the module, frozen data of the written part: an int, a text, a tuple -/
structure GConst (G : Gx) (x : Str) (d : D) : Prop where
  ex : ∃ u v, G.mg x = some u ∧ RelV v u ∧ ∀ F, At G.K F v d
theorem ev_glob {x : Str} {pos : Pos} {d : D} (g : GConst C.G x d) (q : k (.fz d) ρ) (hg : C.sc.names.lookup x = some .globalImplicit := by rfl) (hd : (x == ("__debug__" : Str)) = false := by decide) : EV C (.Name x pos) ρ k Ξ := by
  intro X hx W tk σ F H fp s _
  obtain ⟨u, v, e, r, a⟩ := g.ex
  exact w_e (pe_glob (hx.gl hg) (by rw [hx.mg]; exact e) r hd) (fin_d s (a F) q)
end

/-! ### argument lists, displays -/
section
variable {C : Ctx} {ρ : Rho} {Ξ : Exc → Rho → Prop} {e : Expr} {es : List Expr}
theorem evs_nil {k : List D → Rho → Prop} (q : k [] ρ) : EVs C [] ρ k Ξ := fun _ _ _ _ _ F _ fp s _ => w_a pa_nil ⟨[], ρ, F, fp, q, s, .nil, Mv.refl⟩
theorem evs_cons {k : List D → Rho → Prop} (h : EV C e ρ (fun x ρ1 => EVs C es ρ1 (fun ds ρ2 => k (x.frz :: ds) ρ2) Ξ) Ξ) (hs : ∀ env, starEach (e :: es) env = (false, eval e env) :: starEach es env := by intro _; rfl) : EVs C (e :: es) ρ k Ξ := by
  intro X hx W tk σ F H fp s x
  refine w_a (pa_cons pe_w pa_w (hs _)) ((EV.d (k := fun d ρ1 => EVs C es ρ1 (fun ds ρ2 => k (d :: ds) ρ2) Ξ) h hx tk s x).mono fun v H1 ⟨d, ρ1, F1, fp1, h1, s1, a1, m1⟩ => ?_)
  refine (h1 X hx W tk σ F1 H1 fp1 s1 (x.along m1)).mono fun vs H2 ⟨ds, ρ2, F2, fp2, h2, s2, a2, m2⟩ => ?_
  exact ⟨d :: ds, ρ2, F2, fp2, h2, s2, .cons (a1.mono m2.ef) a2, m1.trans m2⟩
theorem ev_tup {k : O → Rho → Prop} {x1 pos} (h : EVs C es ρ (fun ds ρ' => ds.length ≤ sizeLine ∧ k (.fz (.tup ds)) ρ') Ξ) : EV C (.Tuple es x1 pos) ρ k Ξ := by
  intro X hx W tk σ F H fp s x
  refine w_e (pe_tup pa_w) ((h X hx W tk σ F H fp s x).mono fun vs H1 ⟨ds, ρ1, F1, fp1, ⟨hz, h1⟩, s1, a1, m1⟩ => ?_)
  exact ⟨by rw [a1.length]; exact hz, fun p hp => VP.along m1 (fin_tup s1 a1 hp h1)⟩
theorem ev_lst {k : O → Rho → Prop} {pos} (h : EVs C es ρ (fun ds ρ' => ds.length ≤ sizeLine ∧ k (.lst (ds.map .fz)) ρ') Ξ) : EV C (.List es pos) ρ k Ξ := by
  intro X hx W tk σ F H fp s x
  refine w_e (pe_lst pa_w) ((h X hx W tk σ F H fp s x).mono fun vs H1 ⟨ds, ρ1, F1, fp1, ⟨hz, h1⟩, s1, a1, m1⟩ => ?_)
  exact ⟨by rw [a1.length]; exact hz, fun p hp => VP.along m1 (fin_lst s1 a1 hp h1)⟩
theorem ev_dic {k : O → Rho → Prop} {pos} (h : k (.dic [] []) ρ) : EV C (.Dict [] [] pos) ρ k Ξ := by
  intro X hx W tk σ F H fp s x
  refine w_e pe_dnewK fun p hp => ?_
  have fpn : F p = none := s.ex.free hp
  refine ⟨_, ρ, F, fp, [p], h, s.newO hp _, .dic upd_same fpn (by simp) rfl .nil, fun r hr => ?_, (Mv.newO hp _).less fun r hr => hr.imp id fun z => by simpa using z⟩
  have e : r = p := by simpa using hr
  subst e
  exact fun z => own_ne s hp z rfl
end

/-! ### operators by values: universal readings -/
def uOp (X : Cx) (f : Value → Value → Sem Value) : R2 := fun x y H Q => ∃ r, OpR X f r ∧ r x y H Q
theorem op_u {X : Cx} {f : Value → Value → Sem Value} : OpR X f (uOp X f) := fun pins s σ H x y v u Q I rx ry ⟨r, hr, h⟩ => hr pins s σ H x y v u Q I rx ry h
def uUn (X : Cx) (f : Value → Sem Value) : V → Hp → VK → Prop := fun x H Q => ∃ r, UnR X f r ∧ r x H Q
theorem un_u {X : Cx} {f : Value → Sem Value} : UnR X f (uUn X f) := fun pins s σ H x v Q I rx ⟨r, hr, h⟩ => hr pins s σ H x v Q I rx h
def uIx (X : Cx) : R2 := fun x y H Q => ∃ r, IxR X r ∧ r x y H Q
theorem ix_u {X : Cx} : IxR X (uIx X) := fun a b pins s σ H x y v u Q I rx ry ⟨r, hr, h⟩ hs => hr a b pins s σ H x y v u Q I rx ry h hs
def uSl (X : Cx) : V → Option Int → Option Int → Hp → VK → Prop := fun x lo hi H Q => ∃ r, SlR X r ∧ r x lo hi H Q
theorem sl_u {X : Cx} : SlR X (uSl X) := fun pins s σ H x v vl vu lo hi sl Q I rx hs pl pu ⟨r, hr, h⟩ => hr pins s σ H x v vl vu lo hi sl Q I rx hs pl pu h
def uCall (X : Cx) (f : Value) : List V → Hp → VK → Prop := fun xs H Q => ∃ r, CallR X f r ∧ r xs H Q
theorem call_u {X : Cx} {f : Value} : CallR X f (uCall X f) := fun pins s σ H xs us Q I rx ⟨r, hr, h⟩ => hr pins s σ H xs us Q I rx h
def uMt (X : Cx) (id : String) : V → List V → Hp → VK → Prop := fun x xs H Q => ∃ r, MtR X id r ∧ r x xs H Q
theorem mt_u {X : Cx} {id : String} : MtR X id (uMt X id) := fun pins s σ H x xs v us Q I rx r0 ⟨r, hr, h⟩ => hr pins s σ H x xs v us Q I rx r0 h
end Fr

set_option Elab.async false
set_option linter.all false
set_option maxRecDepth 100000
set_option maxHeartbeats 2000000
/-! Fr4: operators, comparisons, tests, subscripts, slices. -/
namespace Fr
open PySem PySem.Spec PyProof.Rows L2

/-! ### as the library's data -/
mutual
def D.py : D → PyData
  | .non => .none
  | .bl b => .bool b
  | .int i => .int i
  | .str s => .str s
  | .tup xs => .tuple (pyL xs)
  | .lst xs => .list (pyL xs)
  | .dic _ _ => .dict []
  | .scr ns => .list (ns.map .int)
  | .exn _ => .dict []
def pyL : List D → List PyData
  | [] => []
  | x :: xs => x.py :: pyL xs
end
theorem dpAll_ints {K : PySem.W.Frag} {H : Hp} : ∀ ns : List Int, DpAll K H (ns.map V.int) (ns.map PyData.int)
  | [] => .nil
  | n :: ns => .cons (.int n) (dpAll_ints ns)
section
variable {K : PySem.W.Frag} {F H : Hp}
mutual
theorem At.dp (e : Ex F H) : ∀ {v : V} {d : D}, At K F v d → d.py.canLay0 = true → Dp K H v d.py
  | _, _, .non, _ => by rw [D.py]; exact .non
  | _, _, .bl b, _ => by rw [D.py]; exact .bl b
  | _, _, .int i, _ => by rw [D.py]; exact .int i
  | _, _, .str s, _ => by rw [D.py]; exact .str s
  | _, _, .tup h t, c => by
    rw [D.py] at c ⊢
    exact .tup (e.t h) (AtL.dp e t (by simpa [PyData.canLay0] using c))
  | _, _, .lst h t, c => by
    rw [D.py] at c ⊢
    exact .lst (.inl (.inl (e _ _ h))) (AtL.dp e t (by simpa [PyData.canLay0] using c))
  | _, _, .dic _ _ _, c => by
    rw [D.py] at c
    exact nomatch c
  | _, _, .scr h, _ => by rw [D.py]; exact .lst (e.l h) (dpAll_ints _)
  | _, _, .exn, c => by
    rw [D.py] at c
    exact nomatch c
theorem AtL.dp (e : Ex F H) : ∀ {vs : List V} {ds : List D}, AtL K F vs ds → PyData.canLayAll0 (pyL ds) = true → DpAll K H vs (pyL ds)
  | _, _, .nil, _ => by rw [pyL]; exact .nil
  | _, _, .cons h t, c => by
    rw [pyL] at c ⊢
    have c' := c
    simp only [PyData.canLayAll0, Bool.and_eq_true] at c'
    exact .cons (At.dp e h c'.1) (AtL.dp e t c'.2)
end
end
def D.eq (x y : D) : Bool := PyData.eqv x.py y.py
def D.ok (x : D) : Bool := SeqAt.shaped x.py

/-! ### types -/
def D.ty : D → String
  | .non => "NoneType"
  | .bl _ => "bool"
  | .int _ => "int"
  | .str _ => "str"
  | .tup _ => "tuple"
  | .lst _ => "list"
  | .dic _ _ => "dict"
  | .scr _ => "list"
  | .exn _ => "?"
def D.ex : D → Bool
  | .exn _ => true
  | _ => false
theorem At.ty {K : PySem.W.Frag} {F H : Hp} {v : V} {d : D} (e : Ex F H) (a : At K F v d) (hx : d.ex = false) : TyX K H v (.type d.ty) := by
  cases a with
  | non => exact .base .non
  | bl b => exact .base (.bl b)
  | int i => exact .base (.int i)
  | str s => exact .base (.str s)
  | tup h _ =>
    rcases e.t h with (h | ⟨o, h⟩) | ⟨o, its, n, h, c, _⟩
    · exact .base (.tup h)
    · exact .fTuple h
    · exact .kTuple h c
  | lst h _ => exact .base (.lst (e _ _ h))
  | dic h _ _ => exact .base (.dK (e _ _ h))
  | scr h =>
    rcases e.l h with (h | ⟨o, h⟩) | ⟨o, its, n, h, c, _⟩
    · exact .base (.lst h)
    · exact .base (.frz h)
    · exact .kList h c
  | exn => cases hx
def isiS (t T : String) : Bool := t == T || (t == "bool" && T == "int")
def isiD (d : D) (T : String) : Bool := isiS d.ty T
def tys : List String := ["int", "bool", "str", "tuple", "list", "dict"]
theorem kit_all : ∀ t ∈ "NoneType" :: tys, ∀ T ∈ tys, kitB t T = some (isiS t T) := by decide +kernel
theorem D.ty_mem (d : D) (hx : d.ex = false) : d.ty ∈ "NoneType" :: tys := by
  cases d <;> first | (cases hx; done) | (unfold D.ty tys; simp)
theorem kit_isi {K : PySem.W.Frag} (d : D) {T : String} (hx : d.ex = false) (h : T ∈ tys) : PySem.W.kitOne K (.type d.ty) (.type T) = some (isiD d T) := kit_ty (kit_all d.ty (d.ty_mem hx) T h)

/-! ### flat data -/
def D.flat : D → Bool
  | .non => true | .bl _ => true | .int _ => true | .str _ => true
  | _ => false
def eqF : D → D → Bool
  | .non, .non => true
  | .bl a, .bl b => a == b
  | .bl a, .int b => (if a then 1 else 0) == b
  | .int a, .bl b => a == (if b then 1 else 0)
  | .int a, .int b => a == b
  | .str a, .str b => a == b
  | _, _ => false
section
variable {K : PySem.W.Frag} {F : Hp}
theorem At.flat {v : V} {d : D} (a : At K F v d) : d.flat = true → flatV v = true := by
  cases a <;> first | (intro _; rfl) | (intro h; cases h)
theorem At.eqF {v w : V} {d e : D} (a : At K F v d) (b : At K F w e) : eqV v w = eqF d e := by
  cases a <;> cases b <;> rfl
theorem AtL.flat : ∀ {vs : List V} {ds : List D}, AtL K F vs ds → ds.all D.flat = true → vs.all flatV = true
  | _, _, .nil, _ => rfl
  | _, _, .cons h t, c => by
    simp only [List.all_cons, Bool.and_eq_true] at c ⊢
    exact ⟨h.flat c.1, AtL.flat t c.2⟩
theorem AtL.inF {w : V} {e : D} (b : At K F w e) : ∀ {vs : List V} {ds : List D}, AtL K F vs ds → inV w vs = ds.any fun d => Fr.eqF d e
  | _, _, .nil => rfl
  | _, _, .cons h t => by
    have ih := AtL.inF b t
    unfold inV at ih ⊢
    rw [List.any_cons, List.any_cons, h.eqF b, ih]
end

/-! ### binary operators -/
def repZ (a : Str) (n : Nat) : Str := ⟨(List.replicate n a.cps).foldl (· ++ ·) #[]⟩
theorem foldl_app (n : Nat) (c : Array Nat) : ∀ acc : Array Nat, ((List.replicate n c).foldl (· ++ ·) acc).size = acc.size + n * c.size := by
  induction n with
  | zero => intro acc; simp
  | succ n ih =>
    intro acc
    rw [List.replicate_succ, List.foldl_cons, ih, Array.size_append, Nat.succ_mul]
    omega
theorem repZ_length (a : Str) (n : Nat) : (repZ a n).length = n * a.length := by
  show ((List.replicate n a.cps).foldl (· ++ ·) #[]).size = _
  rw [foldl_app]
  simp [Str.length]
theorem op_repS {X : Cx} : OpR X (binaryOp .Mult) (fun x y H Q => ∃ (a : Str) (k : Int), x = .str a ∧ y = .int k ∧ 2 ≤ k ∧ k < 2 ^ 62 ∧ 0 < a.length ∧ a.length * k.toNat ≤ 16000000 ∧ Q (.str (repZ a k.toNat)) H) := by
  intro pins s σ H x y v u Q I rx ry h
  obtain ⟨a, k, rfl, rfl, h1, h2, h3, h4, q⟩ := h
  obtain ⟨t, rfl⟩ := rx
  obtain ⟨t', rfl⟩ := ry
  have e1 : (k == 1) = false := beq_eq_false_iff_ne.mpr (by omega)
  have e2 : (a.length == 0) = false := beq_eq_false_iff_ne.mpr (by omega)
  have hp : (a.length : Int) * k ≤ 16000000 := by
    have : ((a.length * k.toNat : Nat) : Int) ≤ ((16000000 : Nat) : Int) := Int.ofNat_le.mpr h4
    rw [Int.natCast_mul, Int.toNat_of_nonneg (by omega)] at this
    exact this
  refine PySem.P.mul_str (by
    rw [decide_eq_false (show ¬ k < -(2 ^ 63 : Int) by omega), decide_eq_false (show ¬ k ≥ 2 ^ 63 by omega)]; rfl) (fun _ _ => ?_) (fun _ _ => ?_) ?_
  · have : (a.length : Int) ≤ (2 ^ 63 - 1) / k := by
      rw [Int.le_ediv_iff_mul_le (by omega)]
      omega
    omega
  · show decide (a.length * k.toNat > sizeLine) = false
    have : (16000000 : Nat) ≤ sizeLine := by decide
    exact decide_eq_false (by omega)

  · rw [if_neg (by omega), e1, e2]
    refine ⟨?_, ?_⟩
    · show (repZ a k.toNat).length ≤ sizeLine
      rw [repZ_length, Nat.mul_comm]
      have : (16000000 : Nat) ≤ sizeLine := by decide
      omega
    · exact ⟨.str (repZ a k.toNat), H, I.tok _, ⟨_, rfl⟩, q⟩
inductive Bop : Operator → D → D → RV → Prop where
  | addI {i j : Int} : Bop .Add (.int i) (.int j) (.d (.int (i + j)))
  | subI {i j : Int} : Bop .Sub (.int i) (.int j) (.d (.int (i - j)))
  | mulI {i j : Int} : CMul i j → Bop .Mult (.int i) (.int j) (.d (.int (i * j)))
  | fdivI {i j : Int} : CDiv i j → Bop .FloorDiv (.int i) (.int j) (.d (.int (i / j)))
  | modI {i j : Int} : 0 < j → Bop .Mod (.int i) (.int j) (.d (.int (i % j)))
  | powI {i j : Int} : CPow i j → Bop .Pow (.int i) (.int j) (.d (.int (i ^ j.toNat)))
  | addS {a b : Str} : a.length + b.length ≤ sizeLine → Bop .Add (.str a) (.str b) (.d (.str (a ++ b)))
  | addT {xs ys : List D} : xs.length + ys.length ≤ sizeLine → Bop .Add (.tup xs) (.tup ys) (.d (.tup (xs ++ ys)))
  | addL {xs ys : List D} : xs.length + ys.length ≤ sizeLine → Bop .Add (.lst xs) (.lst ys) (.l (xs ++ ys))
  | repL {xs : List D} {k : Int} : -(2 ^ 63) ≤ k → k < 2 ^ 63 → xs.length * k.toNat ≤ sizeLine → Bop .Mult (.lst xs) (.int k) (.l (List.replicate k.toNat xs).flatten)
  | repS {a : Str} {k : Int} : 2 ≤ k → k < 2 ^ 62 → 0 < a.length → a.length * k.toNat ≤ 16000000 → Bop .Mult (.str a) (.int k) (.d (.str (repZ a k.toNat)))
section
variable {C : Ctx} {X : Cx} {σ : L2.St} {F H : Hp} {ρ : Rho} {fp : Nat → List Addr} {k : O → Rho → Prop} {x y : V} {dx dy : D} {A0 : Addr → Prop} {F0 H0 : Hp}
theorem fdm {K : PySem.W.Frag} {v : V} {d : D} (m : Mv A0 F0 H0 (own fp) F H) (s : SR K F H σ ρ fp) (a : At K F v d) (q : k (.fz d) ρ) : VP K σ A0 F0 H0 k v H := VP.along m (fin_d s a q)
theorem ftm {K : PySem.W.Frag} {p : Addr} {vs : List V} {ds : List D} (m : Mv A0 F0 H0 (own fp) F H) (s : SR K F H σ ρ fp) (a : AtL K F vs ds) (hp : H p = none) (q : k (.fz (.tup ds)) ρ) : VP K σ A0 F0 H0 k (.ref p) (upd H p (.tup vs)) := VP.along m (fin_tup s a hp q)
theorem flm {K : PySem.W.Frag} {p : Addr} {vs : List V} {ds : List D} (m : Mv A0 F0 H0 (own fp) F H) (s : SR K F H σ ρ fp) (a : AtL K F vs ds) (hp : H p = none) (q : k (.lst (ds.map .fz)) ρ) : VP K σ A0 F0 H0 k (.ref p) (upd H p (.lst vs)) := VP.along m (fin_lst s a hp q)
theorem AtL.nil_iff {K : PySem.W.Frag} {vs : List V} {ds : List D} (h : AtL K F vs ds) : vs = [] ↔ ds = [] := by
  cases h <;> simp
theorem AtL.rep {K : PySem.W.Frag} {vs : List V} {ds : List D} (h : AtL K F vs ds) : ∀ n : Nat, AtL K F (List.replicate n vs).flatten (List.replicate n ds).flatten
  | 0 => .nil
  | n + 1 => by
    rw [List.replicate_succ, List.replicate_succ, List.flatten_cons, List.flatten_cons]
    exact h.append (AtL.rep h n)
theorem Bop.sound {op : Operator} {z : RV} (h : Bop op dx dy z) (hx : XIs C X) (m : Mv A0 F0 H0 (own fp) F H) (s : SR C.G.K F H σ ρ fp) (ax : At C.G.K F x dx) (ay : At C.G.K F y dy) (q : k z.o ρ) : uOp X (binaryOp op) x y H (VP C.G.K σ A0 F0 H0 k) := by
  cases h with
  | addI => cases ax; cases ay; exact ⟨_, op_add, _, _, rfl, rfl, fdm m s (.int _) q⟩
  | subI => cases ax; cases ay; exact ⟨_, op_sub, _, _, rfl, rfl, fdm m s (.int _) q⟩
  | mulI c => cases ax; cases ay; exact ⟨_, op_mul, _, _, rfl, rfl, c, fdm m s (.int _) q⟩
  | fdivI c => cases ax; cases ay; exact ⟨_, op_fdiv, _, _, rfl, rfl, c, fdm m s (.int _) q⟩
  | modI c => cases ax; cases ay; exact ⟨_, op_mod, _, _, rfl, rfl, c, fdm m s (.int _) q⟩
  | powI c => cases ax; cases ay; exact ⟨_, op_pow, _, _, rfl, rfl, c, fdm m s (.int _) q⟩
  | addS c => cases ax; cases ay; exact ⟨_, op_add_str, _, _, rfl, rfl, c, fdm m s (.str _) q⟩
  | repS c1 c2 c3 c4 => cases ax; cases ay; exact ⟨_, op_repS, _, _, rfl, rfl, c1, c2, c3, c4, fdm m s (.str _) q⟩
  | addT c =>
    cases ax with
    | tup hx1 tx =>
      cases ay with
      | tup hy1 ty =>
        refine ⟨_, op_catA, _, _, _, _, rfl, rfl, (by rw [hx.K]; exact s.ex.t hx1), (by rw [hx.K]; exact s.ex.t hy1), by rw [tx.length, ty.length]; exact c, fun e => ?_, fun e1 e2 => ?_, fun e1 e2 p hp => ?_⟩
        · subst e
          cases tx
          exact fdm m s (.tup hy1 ty) q
        · subst e2
          cases ty
          refine fdm m s (.tup hx1 tx) ?_
          have q' : k (.fz (.tup (_ ++ []))) ρ := q
          rw [List.append_nil] at q'
          exact q'
        · exact ftm m s (tx.append ty) hp q
  | addL c =>
    cases ax with
    | lst hx1 tx =>
      cases ay with
      | lst hy1 ty =>
        refine ⟨_, op_cat, _, _, _, _, rfl, rfl, s.ex _ _ hx1, s.ex _ _ hy1, by rw [tx.length, ty.length]; exact c, fun p hp => ?_⟩
        exact flm m s (tx.append ty) hp q
  | repL c1 c2 c3 =>
    cases ax with
    | lst hx1 tx =>
      cases ay
      refine ⟨_, op_rep, _, _, _, rfl, rfl, s.ex _ _ hx1, c1, c2, by rw [tx.length]; exact c3, fun p hp => ?_⟩
      exact flm m s (tx.rep _) hp q
theorem ev_bin {C : Ctx} {ρ : Rho} {k : O → Rho → Prop} {Ξ : Exc → Rho → Prop} {a b : Expr} {op : Operator} {pos : Pos}
    (h : EV C a ρ (fun x ρ1 => EV C b ρ1 (fun y ρ2 => ∃ z, Bop op x.frz y.frz z ∧ k z.o ρ2) Ξ) Ξ) : EV C (.BinOp a op b pos) ρ k Ξ := by
  intro X hx W tk σ F H fp s x
  refine w_e (pe_op op_u pe_w pe_w) ((EV.d (k := fun d ρ1 => EV C b ρ1 (fun y ρ2 => ∃ z, Bop op d y.frz z ∧ k z.o ρ2) Ξ) h hx tk s x).mono fun v H1 ⟨d, ρ1, F1, fp1, h1, s1, a1, m1⟩ => ?_)
  refine (EV.d (k := fun d2 ρ2 => ∃ z, Bop op d d2 z ∧ k z.o ρ2) h1 hx tk s1 (x.along m1)).mono fun u H2 ⟨d2, ρ2, F2, fp2, ⟨z, hz, q⟩, s2, a2, m2⟩ => ?_
  exact hz.sound hx (m1.trans m2) s2 (a1.mono m2.ef) a2 q

/-! ### comparisons by values -/
theorem op_is_nb {X : Cx} : OpR X (compareOp .Is) (fun x y H Q => ∃ b, x = .non ∧ y = .bl b ∧ Q (.bl false) H) := by
  intro pins s σ H x y v u Q I rx ry h
  obtain ⟨b, rfl, rfl, q⟩ := h
  cases (show v = Value.none from rx)
  cases (show u = Value.bool b from ry)
  exact wpAny_is_other rfl (fun z => by cases z) ⟨.bl false, H, I, rfl, q⟩
inductive Cmp : CmpOp → D → D → Bool → Prop where
  | ltI {i j : Int} : Cmp .Lt (.int i) (.int j) (decide (i < j))
  | leI {i j : Int} : Cmp .LtE (.int i) (.int j) (decide (i ≤ j))
  | gtI {i j : Int} : Cmp .Gt (.int i) (.int j) (decide (j < i))
  | geI {i j : Int} : Cmp .GtE (.int i) (.int j) (decide (j ≤ i))
  | eqI {i j : Int} : Cmp .Eq (.int i) (.int j) (decide (i = j))
  | eqS {a b : Str} : Cmp .Eq (.str a) (.str b) (decide (a = b))
  | eqB {a b : Bool} : Cmp .Eq (.bl a) (.bl b) (decide (a = b))
  | neI {i j : Int} : Cmp .NotEq (.int i) (.int j) (!decide (i = j))
  | neS {a b : Str} : Cmp .NotEq (.str a) (.str b) (!decide (a = b))
  | neB {a b : Bool} : Cmp .NotEq (.bl a) (.bl b) (!decide (a = b))
  | eqD {x y : D} : x.ok = true → y.ok = true → Cmp .Eq x y (x.eq y)
  | neD {x y : D} : x.ok = true → y.ok = true → Cmp .NotEq x y (!x.eq y)
  | inC {c : Nat} {z : Str} : Cmp .In (.str ⟨#[c]⟩) (.str z) (decide (c ∈ z.cps.toList))
  | niC {c : Nat} {z : Str} : Cmp .NotIn (.str ⟨#[c]⟩) (.str z) (!decide (c ∈ z.cps.toList))
  | inL {x : D} {ys : List D} : x.flat = true → ys.all D.flat = true → Cmp .In x (.lst ys) (ys.any fun y => eqF y x)
  | inT {x : D} {ys : List D} : x.flat = true → ys.all D.flat = true → Cmp .In x (.tup ys) (ys.any fun y => eqF y x)
  | niL {x : D} {ys : List D} : x.flat = true → ys.all D.flat = true → Cmp .NotIn x (.lst ys) (!ys.any fun y => eqF y x)
  | niT {x : D} {ys : List D} : x.flat = true → ys.all D.flat = true → Cmp .NotIn x (.tup ys) (!ys.any fun y => eqF y x)
  | isN {x : D} : Cmp .Is x .non (x.ty == "NoneType")
  | notN {x : D} : Cmp .IsNot x .non (!x.ty == "NoneType")
  | isNB {b : Bool} : Cmp .Is .non (.bl b) false
  | isB {a b : Bool} : Cmp .Is (.bl a) (.bl b) (decide (a = b))
  | notB {a b : Bool} : Cmp .IsNot (.bl a) (.bl b) (!decide (a = b))
  | strIn {a b : Str} : Cmp .In (.str a) (.str b) (!(Builtin.Str.occurrences b a 0 b.length 1).isEmpty)
theorem At.non_iff {K : PySem.W.Frag} {F : Hp} {v : V} {d : D} (a : At K F v d) : decide (v = V.non) = (d.ty == "NoneType") := by
  cases a <;> rfl
/-- compareOp is given what is wanted of its answer -/
theorem Cmp.sound {op : CmpOp} {b : Bool} (h : Cmp op dx dy b) (hx : XIs C X) (s : SR C.G.K F H σ ρ fp) (ax : At C.G.K F x dx) (ay : At C.G.K F y dy) {Q : VK} (q : Q (.bl b) H) : uOp X (compareOp op) x y H Q := by
  have hu : X.A.units + 64 < cLine := hx.un
  cases h with
  | ltI => cases ax; cases ay; exact ⟨_, op_lt, _, _, rfl, rfl, q⟩
  | leI => cases ax; cases ay; exact ⟨_, op_le, _, _, rfl, rfl, q⟩
  | gtI => cases ax; cases ay; exact ⟨_, op_gt, _, _, rfl, rfl, q⟩
  | geI => cases ax; cases ay; exact ⟨_, op_ge, _, _, rfl, rfl, q⟩
  | eqI => cases ax; cases ay; refine ⟨_, op_eq, rfl, ?_⟩; simpa using q
  | eqS => cases ax; cases ay; refine ⟨_, op_eq, rfl, ?_⟩; simpa using q
  | eqB => cases ax; cases ay; refine ⟨_, op_eq, rfl, ?_⟩; simpa using q
  | neI => cases ax; cases ay; refine ⟨_, op_ne, rfl, ?_⟩; simpa using q
  | neS => cases ax; cases ay; refine ⟨_, op_ne, rfl, ?_⟩; simpa using q
  | neB => cases ax; cases ay; refine ⟨_, op_ne, rfl, ?_⟩; simpa using q
  | eqD o1 o2 => exact ⟨_, op_eqD hu, _, _, (by rw [hx.K]; exact ax.dp s.ex (SeqAt.canLay_of_shaped o1)), (by rw [hx.K]; exact ay.dp s.ex (SeqAt.canLay_of_shaped o2)), o1, o2, q⟩
  | neD o1 o2 => exact ⟨_, op_neD hu, _, _, (by rw [hx.K]; exact ax.dp s.ex (SeqAt.canLay_of_shaped o1)), (by rw [hx.K]; exact ay.dp s.ex (SeqAt.canLay_of_shaped o2)), o1, o2, q⟩
  | inC => cases ax; cases ay; exact ⟨_, op_in_sign, _, _, rfl, rfl, q⟩
  | niC => cases ax; cases ay; exact ⟨_, op_notIn_sign, _, _, rfl, rfl, q⟩
  | inL f1 f2 =>
    cases ay with
    | lst hy ty => exact ⟨_, op_in_seq, _, _, rfl, .inl (.inl (.inl (s.ex _ _ hy))), ax.flat f1, ty.flat f2, (by rw [AtL.inF ax ty]; exact q)⟩
  | inT f1 f2 =>
    cases ay with
    | tup hy ty => exact ⟨_, op_in_seq, _, _, rfl, .inr (by rw [hx.K]; exact s.ex.t hy), ax.flat f1, ty.flat f2, (by rw [AtL.inF ax ty]; exact q)⟩
  | niL f1 f2 =>
    cases ay with
    | lst hy ty => exact ⟨_, op_notIn_seq, _, _, rfl, .inl (.inl (.inl (s.ex _ _ hy))), ax.flat f1, ty.flat f2, (by rw [AtL.inF ax ty]; exact q)⟩
  | niT f1 f2 =>
    cases ay with
    | tup hy ty => exact ⟨_, op_notIn_seq, _, _, rfl, .inr (by rw [hx.K]; exact s.ex.t hy), ax.flat f1, ty.flat f2, (by rw [AtL.inF ax ty]; exact q)⟩
  | isN => cases ay; exact ⟨_, op_isN, rfl, (by rw [ax.non_iff]; exact q)⟩
  | notN => cases ay; exact ⟨_, op_notN, rfl, (by rw [ax.non_iff]; exact q)⟩
  | isNB => cases ax; cases ay; exact ⟨_, op_is_nb, _, rfl, rfl, q⟩
  | isB => cases ax; cases ay; exact ⟨_, op_is_bl, _, _, rfl, rfl, q⟩
  | notB => cases ax; cases ay; exact ⟨_, op_isnot_bl, _, _, rfl, rfl, q⟩
  | strIn => cases ax; cases ay; exact ⟨_, op_in_str, _, _, rfl, rfl, q⟩
end
section
variable {C : Ctx} {ρ : Rho} {Ξ : Exc → Rho → Prop} {a b c e : Expr} {op op' : CmpOp} {pos : Pos} {rest : List Expr}
theorem ev_cmp {k : O → Rho → Prop} (h : EV C a ρ (fun x ρ1 => EV C b ρ1 (fun y ρ2 => ∃ r, Cmp op x.frz y.frz r ∧ k (.fz (.bl r)) ρ2) Ξ) Ξ) (hm : behindInMarks op b = false := by rfl) : EV C (.Compare a [op] [b] pos) ρ k Ξ := by
  intro X hx W tk σ F H fp s x
  refine w_e (pe_cmpR op_u pe_w pe_w hm) ((EV.d (k := fun d ρ1 => EV C b ρ1 (fun y ρ2 => ∃ r, Cmp op d y.frz r ∧ k (.fz (.bl r)) ρ2) Ξ) h hx tk s x).mono fun v H1 ⟨d, ρ1, F1, fp1, h1, s1, a1, m1⟩ => ?_)
  refine (EV.d (k := fun d2 ρ2 => ∃ r, Cmp op d d2 r ∧ k (.fz (.bl r)) ρ2) h1 hx tk s1 (x.along m1)).mono fun u H2 ⟨d2, ρ2, F2, fp2, ⟨z, hz, q⟩, s2, a2, m2⟩ => ?_
  exact hz.sound hx s2 (a1.mono m2.ef) a2 (fdm (m1.trans m2) s2 (.bl _) q)
theorem et_cmp {k : Bool → Rho → Prop} (h : EV C a ρ (fun x ρ1 => EV C b ρ1 (fun y ρ2 => ∃ r, Cmp op x.frz y.frz r ∧ k r ρ2) Ξ) Ξ) (hm : behindInMarks op b = false := by rfl) : ET C (.Compare a [op] [b] pos) ρ k Ξ := by
  intro X hx W tk σ F H fp s x
  refine w_t (pt_cmpR op_u pe_w pe_w hm) ((EV.d (k := fun d ρ1 => EV C b ρ1 (fun y ρ2 => ∃ r, Cmp op d y.frz r ∧ k r ρ2) Ξ) h hx tk s x).mono fun v H1 ⟨d, ρ1, F1, fp1, h1, s1, a1, m1⟩ => ?_)
  refine (EV.d (k := fun d2 ρ2 => ∃ r, Cmp op d d2 r ∧ k r ρ2) h1 hx tk s1 (x.along m1)).mono fun u H2 ⟨d2, ρ2, F2, fp2, ⟨z, hz, q⟩, s2, a2, m2⟩ => ?_
  exact hz.sound hx s2 (a1.mono m2.ef) a2 ⟨z, rfl, ρ2, F2, fp2, q, s2, m1.trans m2⟩
/-- a op b op' c -/
theorem et_chain {k : Bool → Rho → Prop} (h : EV C a ρ (fun x ρ1 => EV C b ρ1 (fun y ρ2 => ∃ r, Cmp op x.frz y.frz r ∧ (r = true → EV C c ρ2 (fun z ρ3 => ∃ r', Cmp op' y.frz z.frz r' ∧ k r' ρ3) Ξ) ∧ (r = false → k false ρ2)) Ξ) Ξ)
    (hm : lastMarks [op, op'] [b, c] = false := by with_unfolding_all rfl) : ET C (.Compare a [op, op'] [b, c] pos) ρ k Ξ := by
  intro X hx W tk σ F H fp s x
  refine w_t (pt_chain op_u op_u pe_w pe_w pe_w hm) ((EV.d (k := fun d ρ1 => EV C b ρ1 (fun y ρ2 => ∃ r, Cmp op d y.frz r ∧ (r = true → EV C c ρ2 (fun z ρ3 => ∃ r', Cmp op' y.frz z.frz r' ∧ k r' ρ3) Ξ) ∧ (r = false → k false ρ2)) Ξ) h hx tk s x).mono fun v H1 ⟨d, ρ1, F1, fp1, h1, s1, a1, m1⟩ => ?_)
  refine (EV.d (k := fun d2 ρ2 => ∃ r, Cmp op d d2 r ∧ (r = true → EV C c ρ2 (fun z ρ3 => ∃ r', Cmp op' d2 z.frz r' ∧ k r' ρ3) Ξ) ∧ (r = false → k false ρ2)) h1 hx tk s1 (x.along m1)).mono fun u H2 ⟨d2, ρ2, F2, fp2, ⟨z, hz, q1, q2⟩, s2, a2, m2⟩ => ?_
  refine hz.sound hx s2 (a1.mono m2.ef) a2 ⟨z, rfl, ?_⟩
  cases z with
  | false => exact ⟨false, rfl, ρ2, F2, fp2, q2 rfl, s2, m1.trans m2⟩
  | true =>
    rw [if_pos rfl]
    refine (EV.d (k := fun d3 ρ3 => ∃ r', Cmp op' d2 d3 r' ∧ k r' ρ3) (q1 rfl) hx tk s2 (x.along (m1.trans m2))).mono fun w H3 ⟨d3, ρ3, F3, fp3, ⟨r', hr', q⟩, s3, a3, m3⟩ => ?_
    exact hr'.sound hx s3 (a2.mono m3.ef) a3 ⟨r', rfl, ρ3, F3, fp3, q, s3, (m1.trans m2).trans m3⟩
theorem ev_chain {k : O → Rho → Prop} (h : EV C a ρ (fun x ρ1 => EV C b ρ1 (fun y ρ2 => ∃ r, Cmp op x.frz y.frz r ∧ (r = true → EV C c ρ2 (fun z ρ3 => ∃ r', Cmp op' y.frz z.frz r' ∧ k (.fz (.bl r')) ρ3) Ξ) ∧ (r = false → k (.fz (.bl false)) ρ2)) Ξ) Ξ)
    (hm : lastMarks [op, op'] [b, c] = false := by with_unfolding_all rfl) : EV C (.Compare a [op, op'] [b, c] pos) ρ k Ξ := by
  intro X hx W tk σ F H fp s x
  refine w_e (pe_chain op_u op_u pe_w pe_w pe_w hm) ((EV.d (k := fun d ρ1 => EV C b ρ1 (fun y ρ2 => ∃ r, Cmp op d y.frz r ∧ (r = true → EV C c ρ2 (fun z ρ3 => ∃ r', Cmp op' y.frz z.frz r' ∧ k (.fz (.bl r')) ρ3) Ξ) ∧ (r = false → k (.fz (.bl false)) ρ2)) Ξ) h hx tk s x).mono fun v H1 ⟨d, ρ1, F1, fp1, h1, s1, a1, m1⟩ => ?_)
  refine (EV.d (k := fun d2 ρ2 => ∃ r, Cmp op d d2 r ∧ (r = true → EV C c ρ2 (fun z ρ3 => ∃ r', Cmp op' d2 z.frz r' ∧ k (.fz (.bl r')) ρ3) Ξ) ∧ (r = false → k (.fz (.bl false)) ρ2)) h1 hx tk s1 (x.along m1)).mono fun u H2 ⟨d2, ρ2, F2, fp2, ⟨z, hz, q1, q2⟩, s2, a2, m2⟩ => ?_
  refine hz.sound hx s2 (a1.mono m2.ef) a2 ⟨z, rfl, ?_⟩
  cases z with
  | false => exact fdm (m1.trans m2) s2 (.bl _) (q2 rfl)
  | true =>
    rw [if_pos rfl]
    refine (EV.d (k := fun d3 ρ3 => ∃ r', Cmp op' d2 d3 r' ∧ k (.fz (.bl r')) ρ3) (q1 rfl) hx tk s2 (x.along (m1.trans m2))).mono fun w H3 ⟨d3, ρ3, F3, fp3, ⟨r', hr', q⟩, s3, a3, m3⟩ => ?_
    exact hr'.sound hx s3 (a2.mono m3.ef) a3 (fdm ((m1.trans m2).trans m3) s3 (.bl _) q)

/-! ### tests -/
def EW (C : Ctx) (e : Expr) (ρ : Rho) (k : Bool → Rho → Prop) (Ξ : Exc → Rho → Prop) : Prop :=
  ∀ X, XIs C X → ∀ W, Takes X W → ∀ σ F H fp, SR C.G.K F H σ ρ fp → XP C.G W σ (own fp) F H Ξ → ∀ whole pins s, Inv X pins σ H s → wpAny (model X.prog X.w) X.A (isTrue e X.env whole) (TP X pins σ (BP C.G.K σ (own fp) F H k)) X.xe s
theorem EW.t {k : Bool → Rho → Prop} (h : EW C e ρ k Ξ) : ET C e ρ k Ξ := fun X hx W tk σ F H fp s x pins st I => h X hx W tk σ F H fp s x _ pins st I
def wW (X : Cx) (e : Expr) : TT := fun σ H Q => ∀ whole pins s, Inv X pins σ H s → wpAny (model X.prog X.w) X.A (isTrue e X.env whole) (TP X pins σ Q) X.xe s
theorem pw_w {X : Cx} : PW X e (wW X e) := ⟨fun whole pins s _ _ _ I h => h whole pins s I⟩
theorem wW.mono {X : Cx} {σ H} {Q Q' : Bool → Hp → Prop} (h : wW X e σ H Q) (k : ∀ v H', Q v H' → Q' v H') : wW X e σ H Q' := fun whole pins s I =>
  thn (h whole pins s I) fun _ _ ⟨H', I', q⟩ => ⟨H', I', k _ _ q⟩
theorem w_w {X : Cx} {t : TT} (p : PW X e t) {σ H Q} (h : t σ H Q) : wW X e σ H Q := fun whole pins s I => p.run whole pins s σ H Q I h
theorem ew_and1 {k : Bool → Rho → Prop} (h : ET C a ρ k Ξ) : EW C (.BoolOp .And [a] pos) ρ k Ξ := by
  intro X hx W tk σ F H fp s x
  exact w_w (pw_and1 pt_w) (h X hx W tk σ F H fp s x)
theorem ew_or1 {k : Bool → Rho → Prop} (h : ET C a ρ k Ξ) : EW C (.BoolOp .Or [a] pos) ρ k Ξ := by
  intro X hx W tk σ F H fp s x
  exact w_w (pw_or1 pt_w) (h X hx W tk σ F H fp s x)
theorem ew_and {k : Bool → Rho → Prop} (h : ET C a ρ (fun r ρ1 => (r = true → EW C (.BoolOp .And (b :: rest) pos) ρ1 k Ξ) ∧ (r = false → k false ρ1)) Ξ) : EW C (.BoolOp .And (a :: b :: rest) pos) ρ k Ξ := by
  intro X hx W tk σ F H fp s x
  refine w_w (pw_and pt_w pw_w) ((h X hx W tk σ F H fp s x).mono fun r H1 ⟨ρ1, F1, fp1, ⟨h1, h2⟩, s1, m1⟩ => ?_)
  cases r with
  | true =>
    rw [if_pos rfl]
    exact wW.mono (h1 rfl X hx W tk σ F1 H1 fp1 s1 (x.along m1)) fun v H' q => q.along m1
  | false => exact ⟨ρ1, F1, fp1, h2 rfl, s1, m1⟩
theorem ew_or {k : Bool → Rho → Prop} (h : ET C a ρ (fun r ρ1 => (r = true → k true ρ1) ∧ (r = false → EW C (.BoolOp .Or (b :: rest) pos) ρ1 k Ξ)) Ξ) : EW C (.BoolOp .Or (a :: b :: rest) pos) ρ k Ξ := by
  intro X hx W tk σ F H fp s x
  refine w_w (pw_or pt_w pw_w) ((h X hx W tk σ F H fp s x).mono fun r H1 ⟨ρ1, F1, fp1, ⟨h1, h2⟩, s1, m1⟩ => ?_)
  cases r with
  | true =>
    rw [if_pos rfl]
    exact ⟨ρ1, F1, fp1, h1 rfl, s1, m1⟩
  | false => exact wW.mono (h2 rfl X hx W tk σ F1 H1 fp1 s1 (x.along m1)) fun v H' q => q.along m1
theorem et_not {k : Bool → Rho → Prop} (h : ET C a ρ (fun r ρ1 => k (!r) ρ1) Ξ) : ET C (.UnaryOp .Not a pos) ρ k Ξ := by
  intro X hx W tk σ F H fp s x
  exact w_t (pt_not pt_w) ((h X hx W tk σ F H fp s x).mono fun r H1 q => q)
/-- the truth of a value -/
inductive Tru : D → Bool → Prop where
  | non : Tru .non false
  | bl {b : Bool} : Tru (.bl b) b
  | int {i : Int} : Tru (.int i) (i != 0)
  | str {z : Str} : z.length ≤ sizeLine → Tru (.str z) ((z.length : Int) != 0)
  | lst {ds : List D} : Tru (.lst ds) (!ds.isEmpty)
  | tup {ds : List D} : Tru (.tup ds) (!ds.isEmpty)
theorem AtL.empty {K : PySem.W.Frag} {F : Hp} {vs : List V} {ds : List D} (h : AtL K F vs ds) : vs.isEmpty = ds.isEmpty := by cases h <;> rfl
theorem Tru.sound {K : PySem.W.Frag} {F H : Hp} {v : V} {d : D} {b : Bool} (h : Tru d b) (e : Ex F H) (a : At K F v d) : TruV K v H b := by
  cases h with
  | non => cases a; rfl
  | bl => cases a; rfl
  | int => cases a; rfl
  | str c => cases a; exact ⟨c, rfl⟩
  | lst =>
    cases a with
    | lst h t => exact .inl ⟨_, .inl (.inl (e _ _ h)), by rw [t.empty]⟩
  | tup =>
    cases a with
    | tup h t => exact .inr (.inl ⟨_, e.t h, by rw [t.empty]⟩)
theorem et_val {k : Bool → Rho → Prop} (h : EV C e ρ (fun o ρ' => ∃ b, Tru o.frz b ∧ k b ρ') Ξ) (he : ∀ env whole, isTrue e env whole = (do let v ← whole; standAt e.pos; holding [v] (truthy v)) := by intro _ _; rfl) : ET C e ρ k Ξ := by
  intro X hx W tk σ F H fp s x
  refine w_t (pt_truth pe_w (he _)) ((EV.d (k := fun d ρ' => ∃ b, Tru d b ∧ k b ρ') h hx tk s x).mono fun v H1 ⟨d, ρ1, F1, fp1, ⟨b, hb, q⟩, s1, a1, m1⟩ => ?_)
  exact ⟨b, (by rw [hx.K]; exact hb.sound s1.ex a1), ρ1, F1, fp1, q, s1, m1⟩
/-! ### and, or, not, if as values -/
theorem ev_one {k : O → Rho → Prop} {bop : BoolOp} (h : EV C a ρ k Ξ) : EV C (.BoolOp bop [a] pos) ρ k Ξ := by
  intro X hx W tk σ F H fp s x
  exact w_e (pe_one pe_w) (h X hx W tk σ F H fp s x)
theorem ev_and {k : O → Rho → Prop} (h : EV C a ρ (fun o ρ1 => ∃ r, o.frz = .bl r ∧ (r = true → EV C (.BoolOp .And (b :: rest) pos) ρ1 k Ξ) ∧ (r = false → k (.fz (.bl false)) ρ1)) Ξ) : EV C (.BoolOp .And (a :: b :: rest) pos) ρ k Ξ := by
  intro X hx W tk σ F H fp s x
  refine w_e (pe_and pe_w pe_w) ((EV.d (k := fun d ρ1 => ∃ r, d = .bl r ∧ (r = true → EV C (.BoolOp .And (b :: rest) pos) ρ1 k Ξ) ∧ (r = false → k (.fz (.bl false)) ρ1)) h hx tk s x).mono fun v H1 ⟨d, ρ1, F1, fp1, ⟨r, e, h1, h2⟩, s1, a1, m1⟩ => ?_)
  subst e
  cases a1
  refine ⟨r, rfl, ?_⟩
  cases r with
  | true =>
    rw [if_pos rfl]
    exact (h1 rfl X hx W tk σ F1 H1 fp1 s1 (x.along m1)).mono fun v H' q => q.along m1
  | false => exact fdm m1 s1 (.bl _) (h2 rfl)
theorem ev_or {k : O → Rho → Prop} (h : EV C a ρ (fun o ρ1 => ∃ r, o.frz = .bl r ∧ (r = true → k (.fz (.bl true)) ρ1) ∧ (r = false → EV C (.BoolOp .Or (b :: rest) pos) ρ1 k Ξ)) Ξ) : EV C (.BoolOp .Or (a :: b :: rest) pos) ρ k Ξ := by
  intro X hx W tk σ F H fp s x
  refine w_e (pe_or pe_w pe_w) ((EV.d (k := fun d ρ1 => ∃ r, d = .bl r ∧ (r = true → k (.fz (.bl true)) ρ1) ∧ (r = false → EV C (.BoolOp .Or (b :: rest) pos) ρ1 k Ξ)) h hx tk s x).mono fun v H1 ⟨d, ρ1, F1, fp1, ⟨r, e, h1, h2⟩, s1, a1, m1⟩ => ?_)
  subst e
  cases a1
  refine ⟨r, rfl, ?_⟩
  cases r with
  | true =>
    rw [if_pos rfl]
    exact fdm m1 s1 (.bl _) (h1 rfl)
  | false => exact (h2 rfl X hx W tk σ F1 H1 fp1 s1 (x.along m1)).mono fun v H' q => q.along m1
theorem ev_not {k : O → Rho → Prop} (h : EV C a ρ (fun o ρ1 => ∃ r, o.frz = .bl r ∧ k (.fz (.bl (!r))) ρ1) Ξ) : EV C (.UnaryOp .Not a pos) ρ k Ξ := by
  intro X hx W tk σ F H fp s x
  refine w_e (pe_not pe_w) ((EV.d (k := fun d ρ1 => ∃ r, d = .bl r ∧ k (.fz (.bl (!r))) ρ1) h hx tk s x).mono fun v H1 ⟨d, ρ1, F1, fp1, ⟨r, e, q⟩, s1, a1, m1⟩ => ?_)
  subst e
  cases a1
  exact ⟨r, rfl, fdm m1 s1 (.bl _) q⟩
theorem ev_ifExp {k : O → Rho → Prop} (h : ET C c ρ (fun r ρ1 => (r = true → EV C a ρ1 k Ξ) ∧ (r = false → EV C b ρ1 k Ξ)) Ξ) : EV C (.IfExp c a b pos) ρ k Ξ := by
  intro X hx W tk σ F H fp s x
  refine w_e (pe_ifExp pt_w pe_w pe_w) ((h X hx W tk σ F H fp s x).mono fun r H1 ⟨ρ1, F1, fp1, ⟨h1, h2⟩, s1, m1⟩ => ?_)
  cases r with
  | true =>
    rw [if_pos rfl]
    exact (h1 rfl X hx W tk σ F1 H1 fp1 s1 (x.along m1)).mono fun v H' q => q.along m1
  | false => exact (h2 rfl X hx W tk σ F1 H1 fp1 s1 (x.along m1)).mono fun v H' q => q.along m1
theorem ev_neg {k : O → Rho → Prop} (h : EV C a ρ (fun o ρ1 => ∃ i, o.frz = .int i ∧ k (.fz (.int (-i))) ρ1) Ξ) : EV C (.UnaryOp .USub a pos) ρ k Ξ := by
  intro X hx W tk σ F H fp s x
  refine w_e (pe_un un_neg pe_w) ((EV.d (k := fun d ρ1 => ∃ i, d = .int i ∧ k (.fz (.int (-i))) ρ1) h hx tk s x).mono fun v H1 ⟨d, ρ1, F1, fp1, ⟨r, e, q⟩, s1, a1, m1⟩ => ?_)
  subst e
  cases a1
  exact ⟨r, rfl, fdm m1 s1 (.int _) q⟩

/-! ### subscripts, slices -/
inductive Ix : D → D → D → Prop where
  | lst {ds : List D} {i : Int} {d : D} : atI ds i = some d → Ix (.lst ds) (.int i) d
  | tup {ds : List D} {i : Int} {d : D} : atI ds i = some d → Ix (.tup ds) (.int i) d
  | str {z : Str} {i : Int} {c : Nat} : z.length ≤ sizeLine → atI z.cps.toList i = some c → Ix (.str z) (.int i) (.str ⟨#[c]⟩)
theorem AtL.atI {K : PySem.W.Frag} {F : Hp} {vs : List V} {ds : List D} {i : Int} {d : D} (h : AtL K F vs ds) (e : L2.atI ds i = some d) : ∃ v, L2.atI vs i = some v ∧ At K F v d := by
  unfold L2.atI at e ⊢
  rw [h.length]
  cases q : ixN ds.length i with
  | none => rw [q] at e; cases e
  | some j =>
    rw [q] at e
    exact h.get e
theorem ev_ix {k : O → Rho → Prop} (h : EV C a ρ (fun x ρ1 => EV C b ρ1 (fun y ρ2 => ∃ z, Ix x.frz y.frz z ∧ k (.fz z) ρ2) Ξ) Ξ) (hs : PlainIx b := by exact fun _ _ => rfl) : EV C (.Subscript a b pos) ρ k Ξ := by
  intro X hx W tk σ F H fp s x
  refine w_e (pe_ix ix_u pe_w pe_w hs) ((EV.d (k := fun d ρ1 => EV C b ρ1 (fun y ρ2 => ∃ z, Ix d y.frz z ∧ k (.fz z) ρ2) Ξ) h hx tk s x).mono fun v H1 ⟨d, ρ1, F1, fp1, h1, s1, a1, m1⟩ => ?_)
  refine (EV.d (k := fun d2 ρ2 => ∃ z, Ix d d2 z ∧ k (.fz z) ρ2) h1 hx tk s1 (x.along m1)).mono fun u H2 ⟨d2, ρ2, F2, fp2, ⟨z, hz, q⟩, s2, a2, m2⟩ => ?_
  have a1' := a1.mono m2.ef
  cases hz with
  | lst e =>
    cases a2
    cases a1' with
    | lst hh t =>
      obtain ⟨w, e2, a3⟩ := t.atI e
      exact ⟨_, ix_list, _, _, _, _, rfl, rfl, .inl (.inl (s2.ex _ _ hh)), e2, fdm (m1.trans m2) s2 a3 q⟩
  | tup e =>
    cases a2
    cases a1' with
    | tup hh t =>
      obtain ⟨w, e2, a3⟩ := t.atI e
      exact ⟨_, ix_tup, _, _, _, _, rfl, rfl, (by rw [hx.K]; exact s2.ex.t hh), e2, fdm (m1.trans m2) s2 a3 q⟩
  | str c e =>
    cases a2
    cases a1'
    exact ⟨_, ix_str, _, _, _, rfl, rfl, c, e, fdm (m1.trans m2) s2 (.str _) q⟩
theorem Rep.inv_lst {K : PySem.W.Frag} {F H : Hp} {v : V} {os : List O} {S : List Addr} (r : Rep K F H v (.lst os) S) : ∃ p vs T, v = .ref p ∧ H p = some (.lst vs) ∧ Reps K F H vs os T := by
  generalize ho : O.lst os = o at r
  cases r with
  | fz a => cases ho
  | lst h1 _ _ t => cases ho; exact ⟨_, _, _, rfl, h1, t⟩
  | dic _ _ _ _ _ => cases ho
/-- an item of a list that a slot alone holds: flat -/
theorem ev_ixO {k : O → Rho → Prop} {i : Nat} {x : Str} {p : Pos} {os : List O} (hr : ρ[i]? = some (some (.lst os))) (h : EV C b ρ (fun y ρ2 => ρ2[i]? = some (some (.lst os)) ∧ ∃ z d, y.frz = .int z ∧ L2.atI os z = some (.fz d) ∧ k (.fz d) ρ2) Ξ)
    (hs : PlainIx b := by exact fun _ _ => rfl) (hN : C.N[i]? = some x := by rfl) (hv : Vis C.sc x := by first | exact .inl rfl | exact .inr (.inl rfl) | exact .inr (.inr rfl))
    (hd : (x == ("__debug__" : Str)) = false := by decide) (hcd : (x == ("__classdict__" : Str)) = false := by decide) : EV C (.Subscript (.Name x p) b pos) ρ k Ξ := by
  intro X hx W tk σ F H fp s xx
  obtain ⟨v, e, r⟩ := s.slot i _ hr
  refine w_e (pe_ix ix_u (pe_var (i := i) (by rw [hx.N]; exact hN) (hx.vis hv) hd hcd) pe_w hs) ⟨v, e, ?_⟩
  refine (EV.d (k := fun d2 ρ2 => ρ2[i]? = some (some (.lst os)) ∧ ∃ z d, d2 = .int z ∧ L2.atI os z = some (.fz d) ∧ k (.fz d) ρ2) h hx tk s xx).mono fun u H2 ⟨d2, ρ2, F2, fp2, ⟨hr2, z, d, e2, ha, q⟩, s2, a2, m2⟩ => ?_
  subst e2
  cases a2
  obtain ⟨v2, e3, r2⟩ := s2.slot i _ hr2
  rw [e] at e3
  cases e3
  obtain ⟨pa, vs2, S2, ev2, h1, t⟩ := r2.inv_lst
  subst ev2
  · have key : ∀ {vs : List V} {os : List O} {S : List Addr} {j : Nat} {d : D}, Reps C.G.K F2 H2 vs os S → os[j]? = some (.fz d) → ∃ w, vs[j]? = some w ∧ At C.G.K F2 w d := by
      intro vs os S j d t
      induction j generalizing vs os S with
      | zero =>
        intro hj
        cases t with
        | nil => simp at hj
        | cons h t _ =>
          simp at hj
          subst hj
          exact ⟨_, rfl, h.at_fz⟩
      | succ j ih =>
        intro hj
        cases t with
        | nil => simp at hj
        | cons h t _ =>
          obtain ⟨w, e, a⟩ := ih t (by simpa using hj)
          exact ⟨w, by simpa using e, a⟩
    unfold L2.atI at ha
    cases q3 : ixN os.length z with
    | none => rw [q3] at ha; cases ha
    | some j =>
      rw [q3] at ha
      obtain ⟨w, e4, a4⟩ := key t ha
      refine ⟨_, ix_list, _, _, _, w, rfl, rfl, .inl (.inl h1), ?_, fdm m2 s2 a4 q⟩
      unfold L2.atI
      rw [t.length, q3]
      exact e4

/-- a part of a slice -/
def EP' (C : Ctx) (p : Option Expr) (ρ : Rho) (k : Option Int → Rho → Prop) (Ξ : Exc → Rho → Prop) : Prop := match p with
  | none => k none ρ
  | some e => EV C e ρ (fun o ρ1 => ∃ i, o.frz = .int i ∧ k (some i) ρ1) Ξ
def uPO (X : Cx) (p : Option Expr) : TO := match p with
  | none => tNoPart
  | some e => tPart (wE X e)
theorem po_u {X : Cx} {p : Option Expr} : PO X p (uPO X p) := by
  cases p with
  | none => exact po_none
  | some e => exact po_some pe_w
theorem EP'.run {p : Option Expr} {k : Option Int → Rho → Prop} (h : EP' C p ρ k Ξ) {X : Cx} (hx : XIs C X) {W : WX} (tk : Takes X W) {σ : L2.St} {F H : Hp} {fp : Nat → List Addr} (s : SR C.G.K F H σ ρ fp) (x : XP C.G W σ (own fp) F H Ξ)
    {Q : Option Int → Hp → Prop} (hq : ∀ o H' ρ' F' fp', k o ρ' → SR C.G.K F' H' σ ρ' fp' → Mv (own fp) F H (own fp') F' H' → Q o H') : uPO X p σ H Q := by
  cases p with
  | none => exact hq none H ρ F fp h s Mv.refl
  | some e =>
    refine (EV.d (k := fun d ρ1 => ∃ i, d = .int i ∧ k (some i) ρ1) h hx tk s x).mono fun v H1 ⟨d, ρ1, F1, fp1, ⟨i, e, q⟩, s1, a1, m1⟩ => ?_
    subst e
    cases a1
    exact ⟨i, rfl, hq _ _ ρ1 F1 fp1 q s1 m1⟩
def cutD (xs : List D) (lo hi : Option Int) : List D := (xs.drop (HT.sIx xs.length 0 lo)).take (HT.sIx xs.length xs.length hi - HT.sIx xs.length 0 lo)
theorem AtL.cut {K : PySem.W.Frag} {F : Hp} {vs : List V} {ds : List D} (h : AtL K F vs ds) (lo hi : Option Int) : AtL K F (cutV vs lo hi) (cutD ds lo hi) := by
  unfold cutV cutD
  rw [h.length]
  exact (h.drop _).take _
inductive Sl : D → Option Int → Option Int → RV → Prop where
  | str {z : Str} {lo hi : Option Int} : z.length ≤ sizeLine → Sl (.str z) lo hi (.d (.str (cutS z lo hi)))
  | lst {ds : List D} {lo hi : Option Int} : Sl (.lst ds) lo hi (.l (cutD ds lo hi))
  | tup {ds : List D} {lo hi : Option Int} : Sl (.tup ds) lo hi (.d (.tup (cutD ds lo hi)))
  | scr {ns : List Int} {lo hi : Option Int} : Sl (.scr ns) lo hi (.l (cutD (ns.map .int) lo hi))
theorem ev_sl {k : O → Rho → Prop} {lo hi : Option Expr} {p2 : Pos} (h : EV C a ρ (fun x ρ1 => EP' C lo ρ1 (fun l ρ2 => EP' C hi ρ2 (fun u ρ3 => ∃ z, Sl x.frz l u z ∧ k z.o ρ3) Ξ) Ξ) Ξ) : EV C (.Subscript a (.Slice lo hi none p2) pos) ρ k Ξ := by
  intro X hx W tk σ F H fp s x
  refine w_e (pe_slice sl_u pe_w po_u po_u) ((EV.d (k := fun d ρ1 => EP' C lo ρ1 (fun l ρ2 => EP' C hi ρ2 (fun u ρ3 => ∃ z, Sl d l u z ∧ k z.o ρ3) Ξ) Ξ) h hx tk s x).mono fun v H1 ⟨d, ρ1, F1, fp1, h1, s1, a1, m1⟩ => ?_)
  refine h1.run hx tk s1 (x.along m1) fun l H2 ρ2 F2 fp2 h2 s2 m2 => ?_
  refine h2.run hx tk s2 (x.along (m1.trans m2)) fun u H3 ρ3 F3 fp3 ⟨z, hz, q⟩ s3 m3 => ?_
  have m := (m1.trans m2).trans m3
  have a3 := a1.mono (m2.ef.trans m3.ef)
  cases hz with
  | str c =>
    cases a3
    exact ⟨_, sl_str, _, rfl, c, fdm m s3 (.str _) q⟩
  | lst =>
    cases a3 with
    | lst hh t => exact ⟨_, sl_list, _, _, rfl, .inl (.inl (s3.ex _ _ hh)), fun p hp => flm m s3 (t.cut l u) hp q⟩
  | @tup ds _ _ =>
    cases a3 with
    | tup hh t =>
      refine ⟨_, sl_tupA, _, _, rfl, (by rw [hx.K]; exact s3.ex.t hh), fun ⟨e1, e2⟩ => ?_, fun _ p hp => ftm m s3 (t.cut l u) hp q⟩
      have e : cutD ds l u = ds := by
        unfold cutD
        rw [← t.length, e1, e2, t.length]
        simp
      rw [e] at q
      exact fdm m s3 (.tup hh t) q
  | scr =>
    cases a3 with
    | scr hh => exact ⟨_, sl_list, _, _, rfl, (by rw [hx.K]; exact s3.ex.l hh), fun p hp => flm m s3 ((AtL.of_ints _).cut l u) hp q⟩
end
end Fr

set_option Elab.async false
set_option linter.all false
set_option maxRecDepth 100000
set_option maxHeartbeats 2000000
/-! Fr5: calls of the text's defs by their specs, of built-ins, of methods. -/
namespace Fr
open PySem PySem.Spec PyProof.Rows L2

abbrev AO := O × Option Nat
def EVA (C : Ctx) (es : List Expr) (ρ : Rho) (k : List AO → Rho → Prop) (Ξ : Exc → Rho → Prop) : Prop :=
  ∀ X, XIs C X → ∀ W, Takes X W → ∀ σ F H fp, SR C.G.K F H σ ρ fp → XP C.G W σ (own fp) F H Ξ → wA X es σ H (fun vs H' => ∃ (as : List AO) (ρ' : Rho) (F' : Hp) (fp' : Nat → List Addr) (S : List Addr), k as ρ' ∧ SR C.G.K F' H' σ ρ' fp' ∧ Reps C.G.K F' H' vs (as.map (·.1)) S ∧ (∀ q ∈ S, ¬ own fp' q) ∧
    Mv (own fp) F H (fun q => own fp' q ∨ q ∈ S) F' H' ∧ ∀ (j i : Nat) (o : O), as[j]? = some (o, some i) → ∃ v, vs[j]? = some v ∧ σ[i]? = some (some v))
section
variable {C : Ctx} {ρ : Rho} {Ξ : Exc → Rho → Prop} {e : Expr} {es : List Expr} {k : List AO → Rho → Prop}
theorem eva_nil (q : k [] ρ) : EVA C [] ρ k Ξ := fun _ _ _ _ _ F _ fp s _ => w_a pa_nil ⟨[], ρ, F, fp, [], q, s, .nil, fun _ z => (by cases z), Mv.refl.less fun q hq => hq.elim id fun z => (by cases z), fun j i o h => by simp at h⟩
theorem eva_tail {X : Cx} {W : WX} {σ : L2.St} {F H F1 H1 : Hp} {fp1 : Nat → List Addr} {ρ1 : Rho} {v : V} {a : AO} {S1 : List Addr} {A : Addr → Prop}
    (h : EVA C es ρ1 (fun as ρ2 => k (a :: as) ρ2) Ξ) (hx : XIs C X) (tk : Takes X W) (s1 : SR C.G.K F1 H1 σ ρ1 fp1) (x : XP C.G W σ A F H Ξ) (m : Mv A F H (fun q => own fp1 q ∨ q ∈ S1) F1 H1) (r : Rep C.G.K F1 H1 v a.1 S1) (d : ∀ q ∈ S1, ¬ own fp1 q)
    (hb : ∀ i, a.2 = some i → σ[i]? = some (some v)) :
    wA X es σ H1 (fun vs H' => (fun vs H' => ∃ (as : List AO) (ρ' : Rho) (F' : Hp) (fp' : Nat → List Addr) (S : List Addr), k as ρ' ∧ SR C.G.K F' H' σ ρ' fp' ∧ Reps C.G.K F' H' vs (as.map (·.1)) S ∧ (∀ q ∈ S, ¬ own fp' q) ∧
      Mv A F H (fun q => own fp' q ∨ q ∈ S) F' H' ∧ ∀ (j i : Nat) (o : O), as[j]? = some (o, some i) → ∃ v, vs[j]? = some v ∧ σ[i]? = some (some v)) (v :: vs) H') := by
  refine wA.mono (h X hx W tk σ F1 H1 fp1 s1 (x.along (m.less fun q hq => .inl hq))) fun vs H2 ⟨as, ρ2, F2, fp2, S2, h2, s2, r2, d2, m2, b2⟩ => ?_
  have hS : ∀ q ∈ S1, ∃ u, H1 q = some u := fun q hq => (r.none q hq).2
  have off := m2.off d hS
  refine ⟨a :: as, ρ2, F2, fp2, S1 ++ S2, h2, s2, .cons (r.along m2 d) r2 (fun q hq hm => off q hq (.inr hm)), fun q hq => ?_, ?_, fun j i o hj => ?_⟩
  · rcases List.mem_append.mp hq with z | z
    · exact fun w => off q z (.inl w)
    · exact d2 q z
  · refine ⟨m.ef.trans m2.ef, fun q o hq hn => ?_, fun q hq => ?_⟩
    · obtain ⟨a1, a2⟩ := m.keep q o hq hn
      have hn1 : ¬ own fp1 q := fun z => by
        rcases m.new q (.inl z) with w | w
        · exact hn w
        · rw [hq] at w; cases w
      obtain ⟨b1, b2⟩ := m2.keep q o a1 hn1
      exact ⟨b1, b2.trans a2⟩
    · have back : own fp1 q ∨ H1 q = none → A q ∨ H q = none := fun z => by
        rcases z with z | z
        · exact m.new q (.inl z)
        · by_cases hA : A q
          · exact .inl hA
          · refine .inr ?_
            cases e : H q with
            | none => rfl
            | some o => rw [(m.keep q o e hA).1] at z; cases z
      rcases hq with z | z
      · exact back (m2.new q (.inl z))
      · rcases List.mem_append.mp z with z | z
        · exact m.new q (.inr z)
        · exact back (m2.new q (.inr z))
  · cases j with
    | zero =>
      have e : a = (o, some i) := by simpa using hj
      exact ⟨v, rfl, hb i (by rw [e])⟩
    | succ j =>
      obtain ⟨w, e1, e2⟩ := b2 j i o (by simpa using hj)
      exact ⟨w, by simpa using e1, e2⟩
theorem eva_cons (h : EV C e ρ (fun x ρ1 => EVA C es ρ1 (fun as ρ2 => k ((.fz x.frz, none) :: as) ρ2) Ξ) Ξ) (hs : ∀ env, starEach (e :: es) env = (false, eval e env) :: starEach es env := by intro _; rfl) : EVA C (e :: es) ρ k Ξ := by
  intro X hx W tk σ F H fp s x
  refine w_a (pa_cons pe_w pa_w (hs _)) ((EV.d (k := fun d ρ1 => EVA C es ρ1 (fun as ρ2 => k ((.fz d, none) :: as) ρ2) Ξ) h hx tk s x).mono fun v H1 ⟨d, ρ1, F1, fp1, h1, s1, a1, m1⟩ => ?_)
  exact eva_tail (S1 := []) h1 hx tk s1 x (m1.less fun q hq => hq.elim id fun z => (by cases z)) (.fz a1) (fun _ z => (by cases z)) fun i z => by cases z
/-- a value of its own goes in as it is -/
theorem eva_own (h : EV C e ρ (fun x ρ1 => EVA C es ρ1 (fun as ρ2 => k ((x, none) :: as) ρ2) Ξ) Ξ) (hs : ∀ env, starEach (e :: es) env = (false, eval e env) :: starEach es env := by intro _; rfl) : EVA C (e :: es) ρ k Ξ := by
  intro X hx W tk σ F H fp s x
  refine w_a (pa_cons pe_w pa_w (hs _)) ((h X hx W tk σ F H fp s x).mono fun v H1 ⟨o, ρ1, F1, fp1, S1, h1, s1, r1, d1, m1⟩ => ?_)
  exact eva_tail h1 hx tk s1 x m1 r1 d1 fun i z => by cases z
/-- a slot is lent -/
theorem eva_bor {i : Nat} {x : Str} {pos : Pos} {o : O} (hr : ρ[i]? = some (some o)) (h : EVA C es (ρ.set i none) (fun as ρ2 => k ((o, some i) :: as) ρ2) Ξ) (hN : C.N[i]? = some x := by rfl) (hv : Vis C.sc x := by first | exact .inl rfl | exact .inr (.inl rfl) | exact .inr (.inr rfl))
    (hd : (x == ("__debug__" : Str)) = false := by decide) (hcd : (x == ("__classdict__" : Str)) = false := by decide) : EVA C (.Name x pos :: es) ρ k Ξ := by
  intro X hx W tk σ F H fp s xx
  obtain ⟨v, e, r⟩ := s.slot i _ hr
  refine w_a (pa_cons (pe_var (i := i) (by rw [hx.N]; exact hN) (hx.vis hv) hd hcd) pa_w (by rfl)) ⟨v, e, ?_⟩
  exact eva_tail h hx tk (s.drop i) xx (Mv.refl.less fun q hq => hq.elim own_wo fun z => ⟨i, z⟩) r (fun q hq => not_wo s hq) fun j z => by cases z; exact e
end

/-! ### specs of defs -/
abbrev FSpec := List O → (O → List O → Prop) → (Exc → List O → Prop) → Prop
def spOf (G : Gx) (S : FSpec) : Sp := fun vs H Q E => ∃ os F A k Ξ, Ex F H ∧ Reps G.K F H vs os A ∧ S os k Ξ ∧
  (∀ o os' v F' H' A' T, k o os' → Ex F' H' → Reps G.K F' H' vs os' A' → Rep G.K F' H' v o T → (∀ q ∈ T, q ∉ A') → Mv (· ∈ A) F H (fun q => q ∈ A' ∨ q ∈ T) F' H' → Q v H') ∧
  (∀ c os' cls d F' H' A', Ξ c os' → Ex F' H' → Reps G.K F' H' vs os' A' → XR G c cls d F' H' → Mv (· ∈ A) F H (· ∈ A') F' H' → E cls d H')
/-- the def x of the text keeps S; dvs its defaults where they are left out -/
structure FOK (G : Gx) (lv : Nat) (x : Str) (dvs : List D) (S : FSpec) : Prop where
  ex : ∃ fa fd ps ds dv k, G.mg x = some (.ref fa) ∧ PySem.W.keepIn G.K (.ref fa) = true ∧ Binds G.K fd ps ds ∧ Vals dv ds ∧ (∀ F, AtL G.K F dv dvs) ∧ k ≤ lv ∧ FnOk G.P G.w G.K G.mg G.base (L2.CX G.P G.w) k fa fd ps (spOf G S)
theorem FOK.mono {G : Gx} {j k : Nat} {x : Str} {dvs : List D} {S : FSpec} (f : FOK G j x dvs S) (h : j ≤ k) : FOK G k x dvs S := by
  obtain ⟨fa, fd, ps, ds, dv, l, a, b, c, d, e, g, i⟩ := f.ex
  exact ⟨fa, fd, ps, ds, dv, l, a, b, c, d, e, Nat.le_trans g h, i⟩
def refill : List AO → List O → Rho → Rho
  | (_, some i) :: as, o' :: os', ρ => (refill as os' ρ).set i (some o')
  | (_, none) :: as, _ :: os', ρ => refill as os' ρ
  | _, _, ρ => ρ
theorem refill_length : ∀ (as : List AO) (os' : List O) (ρ : Rho), (refill as os' ρ).length = ρ.length
  | [], _, _ => by simp [refill]
  | (_, some i) :: as, [], _ => by simp [refill]
  | (_, none) :: as, [], _ => by simp [refill]
  | (_, some i) :: as, o' :: os', ρ => by simp [refill, refill_length as os' ρ]
  | (_, none) :: as, _ :: os', ρ => by simp [refill, refill_length as os' ρ]
theorem refill_sr {K : PySem.W.Frag} {F H : Hp} {σ : L2.St} {ρ : Rho} {fp : Nat → List Addr} (s : SR K F H σ ρ fp) : ∀ (as : List AO) (os' : List O) (vs ws : List V) (A' : List Addr), Reps K F H (vs ++ ws) os' A' → (∀ q ∈ A', ¬ own fp q) →
    as.length = vs.length → (∀ (j i : Nat) (o : O), as[j]? = some (o, some i) → ∃ v, vs[j]? = some v ∧ σ[i]? = some (some v)) → ∃ fp', SR K F H σ (refill as os' ρ) fp' ∧ ∀ q, own fp' q → own fp q ∨ q ∈ A'
  | [], os', vs, ws, A', r, d, hl, hb => ⟨fp, by simpa [refill] using s, fun q h => .inl h⟩
  | a :: as, os', [], ws, A', r, d, hl, hb => by simp at hl
  | (o, b) :: as, os', v :: vs, ws, A', r, d, hl, hb => by
    cases r with
    | @cons _ _ o' os'' S T h t dd =>
      obtain ⟨fp1, s1, m1⟩ := refill_sr s as os'' vs ws T t (fun q hq => d q (List.mem_append_right _ hq)) (by simpa using hl) fun j i o h => by
        obtain ⟨w, e1, e2⟩ := hb (j + 1) i o (by simpa using h)
        exact ⟨w, by simpa using e1, e2⟩
      cases b with
      | none =>
        refine ⟨fp1, by simpa [refill] using s1, fun q h => (m1 q h).imp id fun z => List.mem_append_right _ z⟩
      | some i =>
        obtain ⟨w, e1, e2⟩ := hb 0 i o (by simp)
        have e1' : v = w := by simpa using e1
        subst e1'
        have hi : i < (refill as os'' ρ).length := by
          rw [s1.len]
          exact (List.getElem?_eq_some_iff.mp e2).1
        refine ⟨wi fp1 i S, ?_, fun q hq => ?_⟩
        · have := s1.put h (fun q hq hm => by
            rcases m1 q hm with z | z
            · exact d q (List.mem_append_left _ hq) z
            · exact dd q hq z) hi rfl e2 fun _ _ => rfl
          simpa [refill] using this
        · rcases own_wi hq with z | z
          · exact (m1 q z).imp id fun z => List.mem_append_right _ z
          · exact .inr (List.mem_append_left _ z)
section
variable {C : Ctx} {ρ : Rho} {k : O → Rho → Prop} {Ξ : Exc → Rho → Prop} {e : Expr} {es : List Expr} {x : Str} {p pos : Pos}
theorem reps_append_fz {K : PySem.W.Frag} {F H : Hp} {vs dv : List V} {os : List O} {ds : List D} {S : List Addr} (r : Reps K F H vs os S) (a : AtL K F dv ds) : Reps K F H (vs ++ dv) (os ++ ds.map .fz) S := by
  have h := r.append (Reps.of_at a) (T := []) (fun _ _ z => by cases z)
  rw [List.append_nil] at h
  exact h
theorem ev_call {dvs : List D} {S : FSpec} (f : FOK C.G C.lv x dvs S)
    (h : EVA C (e :: es) ρ (fun as ρ1 => S (as.map (·.1) ++ dvs.map .fz) (fun o os' => k o (refill as os' ρ1)) (fun c os' => Ξ c (refill as os' ρ1))) Ξ) (hsu : C.su = none := by rfl) (hg : C.sc.names.lookup x = some .globalImplicit := by rfl) (hdb : (x == ("__debug__" : Str)) = false := by decide)
    (he : ∀ env, starEach (e :: es) env = (false, eval e env) :: starEach es env := by intro _; rfl) (hpl : ∀ env, (backTo pos (starEach es env)).any (·.1) = false := by intro _; rfl) : EV C (.Call (.Name x p) (e :: es) [] pos) ρ k Ξ := by
  intro X hx W tk σ F H fp s xx
  obtain ⟨fa, fd, ps, ds, dv, lk, hm, hk, hb, hd, hdv, hle, hf⟩ := f.ex
  have hf' : FnOk X.prog X.w X.K X.mg X.base (L2.CX X.prog X.w) lk fa fd ps (spOf C.G S) := by
    rw [hx.P, hx.w, hx.K, hx.mg, hx.base]; exact hf
  refine w_e (pe_callSD hf' ((hx.rm hsu).mono hle) (hx.gl hg) (by rw [hx.mg]; exact hm) (by rw [hx.K]; exact hk) (by rw [hx.K]; exact hb) hd (fun σ => passAt tk σ) pa_w hdb (he _) (hpl _)) ?_
  refine (h X hx W tk σ F H fp s xx).mono fun vs H1 ⟨as, ρ1, F1, fp1, S1, h1, s1, r1, d1, m1, b1⟩ => ?_
  have hlen : as.length = vs.length := by
    have := r1.length
    rw [List.length_map] at this
    exact this.symm
  refine ⟨_, F1, S1, _, _, s1.ex, reps_append_fz r1 (hdv F1), h1, fun o os' v F' H' A' T q e' r' t' dt m' => ?_, fun c os' cls d F' H' A' q e' r' xr m' => ?_⟩
  all_goals
    have keepO : ∀ q, own fp1 q → H' q = H1 q ∧ F' q = none := fun q hq => by
      obtain ⟨z1, u, z2⟩ := s1.owned hq
      obtain ⟨y1, y2⟩ := m'.keep q u z2 fun w => d1 q w hq
      exact ⟨by rw [y1, z2], by rw [y2]; exact z1⟩
    have s1' : SR C.G.K F' H' σ ρ1 fp1 := s1.mono m'.ef e' (fun q hq => (keepO q hq).2) fun q hq => (keepO q hq).1
  · have newN : ∀ q, q ∈ A' ∨ q ∈ T → ¬ own fp1 q := fun q hq ho => by
      obtain ⟨_, u, z2⟩ := s1.owned ho
      rcases m'.new q hq with z | z
      · exact d1 q z ho
      · rw [z2] at z; cases z
    obtain ⟨fp2, s2, m2⟩ := refill_sr s1' as os' vs dv A' r' (fun q hq => newN q (.inl hq)) hlen b1
    refine ⟨o, _, F', fp2, T, q, s2, t', fun q hq ho => ?_, ?_⟩
    · rcases m2 q ho with z | z
      · exact newN q (.inr hq) z
      · exact dt q hq z
    · refine m1.trans ⟨m'.ef, fun q o hq hn => m'.keep q o hq fun z => hn (.inr z), fun q hq => ?_⟩
      rcases hq with z | z
      · rcases m2 q z with w | w
        · exact .inl (.inl w)
        · exact (m'.new q (.inl w)).imp .inr id
      · exact (m'.new q (.inr z)).imp .inr id
  · have newN : ∀ q, q ∈ A' → ¬ own fp1 q := fun q hq ho => by
      obtain ⟨_, u, z2⟩ := s1.owned ho
      rcases m'.new q hq with z | z
      · exact d1 q z ho
      · rw [z2] at z; cases z
    obtain ⟨fp2, s2, m2⟩ := refill_sr s1' as os' vs dv A' r' newN hlen b1
    show W cls d σ H'
    refine xx c _ F' H' fp2 cls d q s2 xr (m1.trans ⟨m'.ef, fun q o hq hn => m'.keep q o hq fun z => hn (.inr z), fun q hq => ?_⟩)
    rcases m2 q hq with w | w
    · exact .inl (.inl w)
    · exact (m'.new q w).imp .inr id

/-! ### built-in functions and types, called -/
inductive CB : String → List D → RV → Prop where
  | lenS {z : Str} : z.length ≤ sizeLine → CB "len" [.str z] (.d (.int z.length))
  | lenL {ds : List D} : CB "len" [.lst ds] (.d (.int ds.length))
  | lenT {ds : List D} : CB "len" [.tup ds] (.d (.int ds.length))
  | abs {i : Int} : CB "abs" [.int i] (.d (.int (if i < 0 then -i else i)))
  | min2 {i j : Int} : CB "min" [.int i, .int j] (.d (.int (if j < i then j else i)))
  | max2 {i j : Int} : CB "max" [.int i, .int j] (.d (.int (if j > i then j else i)))
  | sum {ns : List Int} : CB "sum" [.lst (ns.map .int)] (.d (.int ns.sum))
  | all {bs : List Bool} : CB "all" [.lst (bs.map .bl)] (.d (.bl (bs.all id)))
  | any {bs : List Bool} : CB "any" [.lst (bs.map .bl)] (.d (.bl (bs.any id)))
inductive CT : String → List D → RV → Prop where
  | intI {i : Int} : CT "int" [.int i] (.d (.int i))
  | intB {b : Bool} : CT "int" [.bl b] (.d (.int (if b then 1 else 0)))
  | intS {a : Str} {n : Int} : PySem.intText? a = some n → a.length ≤ 640 → CT "int" [.str a] (.d (.int n))
  | strI {i : Int} : i.natAbs.log2 < 1920 → CT "str" [.int i] (.d (.str (toString i)))
  | strS {a : Str} : CT "str" [.str a] (.d (.str a))
  | tupL {ds : List D} : CT "tuple" [.lst ds] (.d (.tup ds))
  | tupT {ds : List D} : CT "tuple" [.tup ds] (.d (.tup ds))
  | lstL {ds : List D} : CT "list" [.lst ds] (.l ds)
  | lstT {ds : List D} : CT "list" [.tup ds] (.l ds)
theorem AtL.bls {K : PySem.W.Frag} {F : Hp} : ∀ {vs : List V} {zs : List Bool}, AtL K F vs (zs.map .bl) → vs = zs.map .bl
  | _, [], .nil => rfl
  | _, z :: zs, .cons h t => by
    cases h
    rw [AtL.bls t]
    rfl
variable {X : Cx} {σ : L2.St} {F H : Hp} {fp : Nat → List Addr} {A0 : Addr → Prop} {F0 H0 : Hp} {vs : List V} {ds : List D} {id : String} {z : RV}
theorem AtL.one {K : PySem.W.Frag} {d : D} (a : AtL K F vs [d]) : ∃ v, vs = [v] ∧ At K F v d := by
  cases a with
  | cons h t => cases t; exact ⟨_, rfl, h⟩
theorem AtL.two {K : PySem.W.Frag} {d d' : D} (a : AtL K F vs [d, d']) : ∃ v v', vs = [v, v'] ∧ At K F v d ∧ At K F v' d' := by
  cases a with
  | cons h t =>
    obtain ⟨w, rfl, a2⟩ := t.one
    exact ⟨_, _, rfl, h, a2⟩
theorem CB.sound (h : CB id ds z) (hx : XIs C X) (hsu : C.su = none) (m : Mv A0 F0 H0 (own fp) F H) (s : SR C.G.K F H σ ρ fp) (a : AtL C.G.K F vs ds) (q : k z.o ρ) : uCall X (.builtin id) vs H (VP C.G.K σ A0 F0 H0 k) := by
  cases h with
  | lenS c => obtain ⟨v, rfl, b⟩ := a.one; cases b; exact ⟨_, call_len_str, _, rfl, c, fdm m s (.int _) q⟩
  | lenL =>
    obtain ⟨v, rfl, b⟩ := a.one
    cases b with
    | lst hh t => exact ⟨_, call_len_seq, _, _, rfl, .inl (.inl (.inl (s.ex _ _ hh))), (by rw [t.length]; exact fdm m s (.int _) q)⟩
  | lenT =>
    obtain ⟨v, rfl, b⟩ := a.one
    cases b with
    | tup hh t => exact ⟨_, call_len_seq, _, _, rfl, .inr (by rw [hx.K]; exact s.ex.t hh), (by rw [t.length]; exact fdm m s (.int _) q)⟩
  | abs => obtain ⟨v, rfl, b⟩ := a.one; cases b; exact ⟨_, call_abs, _, rfl, fdm m s (.int _) q⟩
  | min2 => obtain ⟨v, v', rfl, b, b'⟩ := a.two; cases b; cases b'; exact ⟨_, call_min2 (hx.calm hsu), _, _, rfl, fdm m s (.int _) q⟩
  | max2 => obtain ⟨v, v', rfl, b, b'⟩ := a.two; cases b; cases b'; exact ⟨_, call_max2 (hx.calm hsu), _, _, rfl, fdm m s (.int _) q⟩
  | sum =>
    obtain ⟨v, rfl, b⟩ := a.one
    cases b with
    | lst hh t =>
      have e := t.ints
      subst e
      exact ⟨_, cr_sum (hx.calm hsu), _, _, rfl, .inl (.inl (s.ex _ _ hh)), fdm m s (.int _) q⟩
  | all =>
    obtain ⟨v, rfl, b⟩ := a.one
    cases b with
    | lst hh t =>
      have e := t.bls
      subst e
      exact ⟨_, cr_all (hx.calm hsu), _, _, rfl, .inl (.inl (s.ex _ _ hh)), fdm m s (.bl _) q⟩
  | any =>
    obtain ⟨v, rfl, b⟩ := a.one
    cases b with
    | lst hh t =>
      have e := t.bls
      subst e
      exact ⟨_, cr_any (hx.calm hsu), _, _, rfl, .inl (.inl (s.ex _ _ hh)), fdm m s (.bl _) q⟩
theorem CT.sound (h : CT id ds z) (hx : XIs C X) (m : Mv A0 F0 H0 (own fp) F H) (s : SR C.G.K F H σ ρ fp) (a : AtL C.G.K F vs ds) (q : k z.o ρ) : uCall X (.type id) vs H (VP C.G.K σ A0 F0 H0 k) := by
  cases h with
  | intI => obtain ⟨v, rfl, b⟩ := a.one; cases b; exact ⟨_, call_int1, .inl ⟨_, rfl, fdm m s (.int _) q⟩⟩
  | intB => obtain ⟨v, rfl, b⟩ := a.one; cases b; exact ⟨_, call_int1, .inr ⟨_, rfl, fdm m s (.int _) q⟩⟩
  | intS c1 c2 => obtain ⟨v, rfl, b⟩ := a.one; cases b; exact ⟨_, call_int_str, _, _, rfl, c1, c2, fdm m s (.int _) q⟩
  | strI c => obtain ⟨v, rfl, b⟩ := a.one; cases b; exact ⟨_, call_str_int, _, rfl, c, fdm m s (.str _) q⟩
  | strS => obtain ⟨v, rfl, b⟩ := a.one; cases b; exact ⟨_, SkE.call_str_str, _, rfl, fdm m s (.str _) q⟩
  | tupL =>
    obtain ⟨v, rfl, b⟩ := a.one
    cases b with
    | lst hh t => exact ⟨_, call_tuple_of, _, _, rfl, .inl ⟨.inl (.inl (s.ex _ _ hh)), fun p hp => ftm m s t hp q⟩⟩
  | tupT =>
    obtain ⟨v, rfl, b⟩ := a.one
    cases b with
    | tup hh t => exact ⟨_, call_tuple_of, _, _, rfl, .inr ⟨(by rw [hx.K]; exact s.ex.t hh), fdm m s (.tup hh t) q⟩⟩
  | lstL =>
    obtain ⟨v, rfl, b⟩ := a.one
    cases b with
    | lst hh t => exact ⟨_, call_list_of, _, _, rfl, .inl (.inl (.inl (s.ex _ _ hh))), fun p hp => flm m s t hp q⟩
  | lstT =>
    obtain ⟨v, rfl, b⟩ := a.one
    cases b with
    | tup hh t => exact ⟨_, call_list_of, _, _, rfl, .inr (by rw [hx.K]; exact s.ex.t hh), fun p hp => flm m s t hp q⟩
theorem ev_cb (hm : C.G.mg x = none) (h : EVs C (e :: es) ρ (fun ds ρ' => ∃ z, CB id ds z ∧ k z.o ρ') Ξ) (hsu : C.su = none := by rfl) (hv : bootBuiltins x = some (.builtin id) := by decide +kernel) (hg : C.sc.names.lookup x = some .globalImplicit := by rfl) (hn : x ≠ "__name__" := by decide)
    (hdb : (x == ("__debug__" : Str)) = false := by decide) (he : ∀ env, starEach (e :: es) env = (false, eval e env) :: starEach es env := by intro _; rfl) (hpl : ∀ env, (backTo pos (starEach es env)).any (·.1) = false := by intro _; rfl) : EV C (.Call (.Name x p) (e :: es) [] pos) ρ k Ξ := by
  intro X hx W tk σ F H fp s xx
  refine w_e (pe_callB call_u (hx.gl hg) (by rw [hx.mg]; exact hm) hv pa_w hn hdb (he _) (hpl _)) ((h X hx W tk σ F H fp s xx).mono fun vs H1 ⟨ds, ρ1, F1, fp1, ⟨z, hz, q⟩, s1, a1, m1⟩ => ?_)
  exact hz.sound hx hsu m1 s1 a1 q
theorem ev_ct (hm : C.G.mg x = none) (h : EVs C (e :: es) ρ (fun ds ρ' => ∃ z, CT id ds z ∧ k z.o ρ') Ξ) (hv : bootBuiltins x = some (.type id) := by decide +kernel) (hg : C.sc.names.lookup x = some .globalImplicit := by rfl) (hn : x ≠ "__name__" := by decide)
    (hdb : (x == ("__debug__" : Str)) = false := by decide) (he : ∀ env, starEach (e :: es) env = (false, eval e env) :: starEach es env := by intro _; rfl) (hpl : ∀ env, (backTo pos (starEach es env)).any (·.1) = false := by intro _; rfl) : EV C (.Call (.Name x p) (e :: es) [] pos) ρ k Ξ := by
  intro X hx W tk σ F H fp s xx
  refine w_e (pe_callTy call_u (hx.gl hg) (by rw [hx.mg]; exact hm) hv pa_w hn hdb (he _) (hpl _)) ((h X hx W tk σ F H fp s xx).mono fun vs H1 ⟨ds, ρ1, F1, fp1, ⟨z, hz, q⟩, s1, a1, m1⟩ => ?_)
  exact hz.sound hx m1 s1 a1 q
/-- isinstance(e, T), T a built-in type -/
theorem ev_isi {T : Str} {T' : String} {tp : Pos} (hm : C.G.mg "isinstance" = none) (hmT : C.G.mg T = none) (h : EV C e ρ (fun o ρ' => o.frz.ex = false ∧ k (.fz (.bl (isiD o.frz T'))) ρ') Ξ) (hT : bootBuiltins T = some (.type T') := by decide +kernel) (hok : T' ∈ tys := by decide)
    (hg : C.sc.names.lookup ("isinstance" : Str) = some .globalImplicit := by rfl) (hgT : C.sc.names.lookup T = some .globalImplicit := by rfl) (hn : T ≠ "__name__" := by decide) (hdT : (T == ("__debug__" : Str)) = false := by decide)
    (he : ∀ env, starEach (e :: [.Name T tp]) env = (false, eval e env) :: starEach [.Name T tp] env := by intro _; rfl) : EV C (.Call (.Name "isinstance" p) [e, .Name T tp] [] pos) ρ k Ξ := by
  intro X hx W tk σ F H fp s xx
  refine w_e (pe_callB call_isi (hx.gl hg) (by rw [hx.mg]; exact hm) (by decide +kernel) (pa_cons pe_w (pa_cons (pe_bltn (hx.gl hgT) (by rw [hx.mg]; exact hmT) hT (v := .ty T') rfl hn hdT) pa_nil (by rfl)) (he _)) (by decide) (by decide) (he _) (by rfl)) ?_
  refine (EV.d (k := fun d ρ' => d.ex = false ∧ k (.fz (.bl (isiD d T'))) ρ') h hx tk s xx).mono fun v H1 ⟨d, ρ1, F1, fp1, ⟨hex, q⟩, s1, a1, m1⟩ => ?_
  exact ⟨_, _, _, _, _, rfl, .ty T', (by rw [hx.K]; exact a1.ty s1.ex hex), kit_isi d hex hok, fdm m1 s1 (.bl _) q⟩
/-- isinstance(e, (T, U)) -/
theorem ev_isi2 {T U : Str} {T' U' : String} {tp up ttp : Pos} {kk : Nat} (hm : C.G.mg "isinstance" = none) (hmT : C.G.mg T = none) (hmU : C.G.mg U = none) (h : EV C e ρ (fun o ρ' => o.frz.ex = false ∧ k (.fz (.bl (isiD o.frz T' || isiD o.frz U'))) ρ') Ξ)
    (hT : bootBuiltins T = some (.type T') := by decide +kernel) (hU : bootBuiltins U = some (.type U') := by decide +kernel) (hok : T' ∈ tys := by decide) (hokU : U' ∈ tys := by decide)
    (hg : C.sc.names.lookup ("isinstance" : Str) = some .globalImplicit := by rfl) (hgT : C.sc.names.lookup T = some .globalImplicit := by rfl) (hgU : C.sc.names.lookup U = some .globalImplicit := by rfl) (hn : T ≠ "__name__" := by decide) (hdT : (T == ("__debug__" : Str)) = false := by decide)
    (hnU : U ≠ "__name__" := by decide) (hdU : (U == ("__debug__" : Str)) = false := by decide)
    (he : ∀ env, starEach (e :: [.Tuple [.Name T tp, .Name U up] kk ttp]) env = (false, eval e env) :: starEach [.Tuple [.Name T tp, .Name U up] kk ttp] env := by intro _; rfl) : EV C (.Call (.Name "isinstance" p) [e, .Tuple [.Name T tp, .Name U up] kk ttp] [] pos) ρ k Ξ := by
  intro X hx W tk σ F H fp s xx
  refine w_e (pe_callB call_isiT (hx.gl hg) (by rw [hx.mg]; exact hm) (by decide +kernel) (pa_cons pe_w (pa_cons (pe_tup (pa_cons (pe_bltn (hx.gl hgT) (by rw [hx.mg]; exact hmT) hT (v := .ty T') rfl hn hdT) (pa_cons (pe_bltn (hx.gl hgU) (by rw [hx.mg]; exact hmU) hU (v := .ty U') rfl hnU hdU) pa_nil (by rfl)) (by rfl))) pa_nil (by rfl)) (he _)) (by decide) (by decide) (he _) (by rfl)) ?_
  refine (EV.d (k := fun d ρ' => d.ex = false ∧ k (.fz (.bl (isiD d T' || isiD d U'))) ρ') h hx tk s xx).mono fun v H1 ⟨d, ρ1, F1, fp1, ⟨hex, q⟩, s1, a1, m1⟩ => ?_
  refine ⟨by show 2 ≤ sizeLine; decide, fun t ht => ?_⟩
  have ft : F1 t = none := s1.ex.free ht
  refine ⟨v, t, _, _, _, isiD d T' || isiD d U', rfl, upd_same, .cons (.ty T') (.cons (.ty U') .nil), (by rw [hx.K]; exact (a1.mono (Ex.new ft)).ty (s1.newF ht (.tup [.ty T', .ty U'])).ex hex), ?_, ?_⟩
  · refine kitAny_cons (kit_isi d hex hok) (fun e1 => kitAny_cons (kit_isi d hex hokU) (fun e2 => ?_) fun e2 => by rw [e2]; simp) fun e1 => by rw [e1]; rfl
    rw [e1, e2]
    exact kitAny_nil
  · exact VP.along (m1.trans (Mv.newF ht ft _)) (fin_d (s1.newF ht _) (.bl _) q)

/-! ### methods of texts -/
inductive MS : String → Str → List D → RV → Prop where
  | join {a : Str} {ys : List Str} : (ys.map (·.length)).sum + ys.length * a.length ≤ 16777216 → MS "str.join" a [.lst (ys.map .str)] (.d (.str (Txt.join a ys)))
  | joinT {a : Str} {ys : List Str} : (ys.map (·.length)).sum + ys.length * a.length ≤ 16777216 → MS "str.join" a [.tup (ys.map .str)] (.d (.str (Txt.join a ys)))
  | split {a b : Str} : (b.length == 0) = false → a.length + 2 ≤ sizeLine → MS "str.split" a [.str b] (.l ((Txt.split a b).map .str))
  | partition {a b : Str} : (b.length == 0) = false → a.length ≤ sizeLine → MS "str.partition" a [.str b] (.d (.tup [.str (Txt.partition a b).1, .str (Txt.partition a b).2.1, .str (Txt.partition a b).2.2]))
theorem MS.sound {a : Str} (h : MS id a ds z) (hx : XIs C X) (m : Mv A0 F0 H0 (own fp) F H) (s : SR C.G.K F H σ ρ fp) (b : AtL C.G.K F vs ds) (q : k z.o ρ) : uMt X id (.str a) vs H (VP C.G.K σ A0 F0 H0 k) := by
  cases h with
  | join c =>
    obtain ⟨v, rfl, b'⟩ := b.one
    cases b' with
    | lst hh t =>
      have e := t.strs
      subst e
      exact ⟨_, mt_join, _, _, _, rfl, rfl, .inl (.inl (.inl (s.ex _ _ hh))), c, fdm m s (.str _) q⟩
  | joinT c =>
    obtain ⟨v, rfl, b'⟩ := b.one
    cases b' with
    | tup hh t =>
      have e := t.strs
      subst e
      exact ⟨_, mt_join, _, _, _, rfl, rfl, .inr (by rw [hx.K]; exact s.ex.t hh), c, fdm m s (.str _) q⟩
  | split c1 c2 =>
    obtain ⟨v, rfl, b'⟩ := b.one
    cases b'
    exact ⟨_, mt_split, _, _, rfl, rfl, c1, c2, fun p hp => flm m s (AtL.of_strs _) hp q⟩
  | partition c1 c2 =>
    obtain ⟨v, rfl, b'⟩ := b.one
    cases b'
    exact ⟨_, mt_partition, _, _, rfl, rfl, c1, c2, fun p hp => ftm m s (.cons (.str _) (.cons (.str _) (.cons (.str _) .nil))) hp q⟩
theorem ev_ms {o : Expr} {name : Str} {apos cpos : Pos} (slot : Slot "str" name id) (hty : typeOf (.builtin id) = pure (.type "method_descriptor"))
    (h : EV C o ρ (fun r ρ1 => ∃ a, r.frz = .str a ∧ EVs C (e :: es) ρ1 (fun ds ρ' => ∃ z, MS id a ds z ∧ k z.o ρ') Ξ) Ξ) (hbase : ∀ env, attributeBase o name env (eval o env) = eval o env := by intro _; rfl)
    (hfew : ∀ env, ((backTo cpos (starEach (e :: es) env)).all (fun x => !x.1) && (backToKw cpos (keywordEach [] env)).all (fun x => x.1.isSome) && decide ((e :: es).length + ([] : List Keyword).length + (if ([] : List Keyword).isEmpty then 0 else 1) < 30)) = true := by intro _; rfl)
    (hline : (apos.endLine == cpos.line) = true := by rfl) (he : ∀ env, starEach (e :: es) env = (false, eval e env) :: starEach es env := by intro _; rfl) (hpl : ∀ env, (backTo cpos (starEach es env)).any (·.1) = false := by intro _; rfl) : EV C (.Call (.Attribute o name apos) (e :: es) [] cpos) ρ k Ξ := by
  intro X hx W tk σ F H fp s xx
  refine w_e (pe_bm PySem.F.plainAttrs_str slot hty mt_u pe_w pa_w (hbase _) (hfew _) hline (he _) (hpl _)) ?_
  refine (EV.d (k := fun d ρ1 => ∃ a, d = .str a ∧ EVs C (e :: es) ρ1 (fun ds ρ' => ∃ z, MS id a ds z ∧ k z.o ρ') Ξ) h hx tk s xx).mono fun v H1 ⟨d, ρ1, F1, fp1, ⟨a, ea, h1⟩, s1, a1, m1⟩ => ?_
  subst ea
  cases a1
  refine ⟨rfl, (h1 X hx W tk σ F1 H1 fp1 s1 (xx.along m1)).mono fun vs H2 ⟨ds, ρ2, F2, fp2, ⟨z, hz, q⟩, s2, a2, m2⟩ => ?_⟩
  exact hz.sound hx (m1.trans m2) s2 a2 q
end
end Fr

set_option Elab.async false
set_option linter.all false
set_option maxRecDepth 100000
set_option maxHeartbeats 2000000
/-! Fr6: statements, targets, loops, comprehensions. -/
namespace Fr
open PySem PySem.Spec PyProof.Rows L2

def wipeR (ρ : Rho) : List Nat → Rho
  | [] => ρ
  | v :: vs => (wipeR ρ vs).set v none
def wipeF (fp : Nat → List Addr) (vs : List Nat) : Nat → List Addr := fun j => if j ∈ vs then [] else fp j
theorem wipeR_length (ρ : Rho) : ∀ vs : List Nat, (wipeR ρ vs).length = ρ.length
  | [] => rfl
  | v :: vs => by unfold wipeR; rw [List.length_set, wipeR_length ρ vs]
theorem wipeR_some {ρ : Rho} {i : Nat} {o : O} : ∀ {vs : List Nat}, (wipeR ρ vs)[i]? = some (some o) → ρ[i]? = some (some o) ∧ i ∉ vs
  | [], h => ⟨h, by simp⟩
  | v :: vs, h => by
    unfold wipeR at h
    rcases set_get h with ⟨_, z⟩ | ⟨hn, z⟩
    · cases z
    · obtain ⟨h1, h2⟩ := wipeR_some z
      exact ⟨h1, by simp only [List.mem_cons, not_or]; exact ⟨fun e => hn e.symm, h2⟩⟩
theorem wipeR_out {ρ : Rho} {i : Nat} : ∀ {vs : List Nat}, i ∉ vs → (wipeR ρ vs)[i]? = ρ[i]?
  | [], _ => rfl
  | v :: vs, h => by
    simp only [List.mem_cons, not_or] at h
    unfold wipeR
    rw [List.getElem?_set_ne (Ne.symm h.1), wipeR_out h.2]
theorem wipe_in {σ : L2.St} {i : Nat} : ∀ {vs : List Nat}, i ∈ vs → i < σ.length → (wipe σ vs)[i]? = some none
  | [], h, _ => by cases h
  | v :: vs, h, hl => by
    unfold wipe
    by_cases e : v = i
    · subst e
      rw [List.getElem?_set_self (by rw [wipe_length]; exact hl)]
    · rw [List.getElem?_set_ne e]
      rcases List.mem_cons.mp h with z | z
      · exact absurd z.symm e
      · exact wipe_in z hl
theorem wipe_congr {σ σ' : L2.St} {vs : List Nat} (hl : σ'.length = σ.length) (h : ∀ i, i ∉ vs → σ'[i]? = σ[i]?) : wipe σ' vs = wipe σ vs := by
  apply List.ext_getElem?
  intro i
  by_cases hi : i ∈ vs
  · by_cases hb : i < σ.length
    · rw [wipe_in hi hb, wipe_in hi (by rw [hl]; exact hb)]
    · rw [List.getElem?_eq_none (by rw [wipe_length, hl]; omega), List.getElem?_eq_none (by rw [wipe_length]; omega)]
  · rw [wipe_out hi, wipe_out hi]
    exact h i hi
theorem own_wipeF {fp : Nat → List Addr} {vs : List Nat} {q : Addr} (h : own (wipeF fp vs) q) : own fp q := by
  obtain ⟨j, hj⟩ := h
  unfold wipeF at hj
  by_cases e : j ∈ vs
  · rw [if_pos e] at hj; cases hj
  · rw [if_neg e] at hj; exact ⟨j, hj⟩
theorem SR.wiped {K : PySem.W.Frag} {F H : Hp} {σ σ' : L2.St} {ρ : Rho} {fp : Nat → List Addr} (s : SR K F H σ ρ fp) {vs : List Nat} (hl : σ'.length = σ.length) (he : ∀ i, i ∉ vs → σ'[i]? = σ[i]?) : SR K F H σ' (wipeR ρ vs) (wipeF fp vs) := by
  refine ⟨by rw [wipeR_length, hl]; exact s.len, s.ex, fun i o h => ?_, fun i h => ?_, fun a b hab q hq hq' => ?_⟩
  · obtain ⟨h1, h2⟩ := wipeR_some h
    obtain ⟨v, e, r⟩ := s.slot i o h1
    refine ⟨v, by rw [he i h2]; exact e, ?_⟩
    unfold wipeF
    rw [if_neg h2]
    exact r
  · unfold wipeF
    by_cases e : i ∈ vs
    · rw [if_pos e]
    · rw [if_neg e]
      refine s.nil i fun o z => h o ?_
      rw [wipeR_out e]
      exact z
  · unfold wipeF at hq hq'
    by_cases e : a ∈ vs
    · rw [if_pos e] at hq; cases hq
    · rw [if_neg e] at hq
      by_cases e' : b ∈ vs
      · rw [if_pos e'] at hq'; cases hq'
      · rw [if_neg e'] at hq'
        exact s.dis a b hab q hq hq'
inductive Fl where
  | nx | ret (o : O) | brk | cont | exc (c : Exc)
def Pin (P : List Nat) (σ σ' : L2.St) : Prop := ∀ j ∈ P, σ'[j]? = σ[j]?
theorem Pin.refl {P : List Nat} {σ : L2.St} : Pin P σ σ := fun _ _ => rfl
theorem Pin.trans {P : List Nat} {σ σ1 σ2 : L2.St} (a : Pin P σ σ1) (b : Pin P σ1 σ2) : Pin P σ σ2 := fun j h => (b j h).trans (a j h)
structure DK (C : Ctx) (P : List Nat) (W : WX) (D : Ends) (Φ : Fl → Rho → Prop) (σ : L2.St) (A : Addr → Prop) (F H : Hp) : Prop where
  exc : ∀ c ρ' σ' F' H' fp' cls d, Φ (.exc c) ρ' → SR C.G.K F' H' σ' ρ' fp' → Pin P σ σ' → XR C.G c cls d F' H' → Mv A F H (own fp') F' H' → W cls d σ' H'
  nx : ∀ ρ' σ' F' H' fp', Φ .nx ρ' → SR C.G.K F' H' σ' ρ' fp' → Pin P σ σ' → Mv A F H (own fp') F' H' → D.nx σ' H'
  bk : ∀ ρ' σ' F' H' fp', Φ .brk ρ' → SR C.G.K F' H' σ' ρ' fp' → Pin P σ σ' → Mv A F H (own fp') F' H' → D.bk σ' H'
  ct : ∀ ρ' σ' F' H' fp', Φ .cont ρ' → SR C.G.K F' H' σ' ρ' fp' → Pin P σ σ' → Mv A F H (own fp') F' H' → D.ct σ' H'
  rt : ∀ o ρ' σ' v F' H' fp' S, Φ (.ret o) ρ' → SR C.G.K F' H' σ' ρ' fp' → Pin P σ σ' → Rep C.G.K F' H' v o S → (∀ q ∈ S, ¬ own fp' q) → Mv A F H (fun q => own fp' q ∨ q ∈ S) F' H' → D.rt v H'
def SV (C : Ctx) (P : List Nat) (sts : List Stmt) (ρ : Rho) (Φ : Fl → Rho → Prop) : Prop :=
  ∀ X, XIs C X → ∀ W, Takes X W → PassesOwn (model X.prog X.w) X.A X.env X.xe → ∀ σ F H fp D, SR C.G.K F H σ ρ fp → DK C P W D Φ σ (own fp) F H → wSs X sts D σ H
def S1 (C : Ctx) (P : List Nat) (st : Stmt) (ρ : Rho) (Φ : Fl → Rho → Prop) : Prop :=
  ∀ X, XIs C X → ∀ W, Takes X W → PassesOwn (model X.prog X.w) X.A X.env X.xe → ∀ σ F H fp D, SR C.G.K F H σ ρ fp → DK C P W D Φ σ (own fp) F H → wS X st D σ H
section
variable {C : Ctx} {P : List Nat} {W : WX} {Dn : Ends} {Φ : Fl → Rho → Prop} {σ σ1 : L2.St} {A B : Addr → Prop} {F H F1 H1 : Hp} {ρ : Rho} {e c : Expr} {st : Stmt} {rest body orelse : List Stmt} {pos : Pos}
theorem DK.along (k : DK C P W Dn Φ σ A F H) (p : Pin P σ σ1) (m : Mv A F H B F1 H1) : DK C P W Dn Φ σ1 B F1 H1 :=
  ⟨fun c ρ' σ' F' H' fp' cls d h s p' x m' => k.exc c ρ' σ' F' H' fp' cls d h s (p.trans p') x (m.trans m'), fun ρ' σ' F' H' fp' h s p' m' => k.nx ρ' σ' F' H' fp' h s (p.trans p') (m.trans m'),
    fun ρ' σ' F' H' fp' h s p' m' => k.bk ρ' σ' F' H' fp' h s (p.trans p') (m.trans m'), fun ρ' σ' F' H' fp' h s p' m' => k.ct ρ' σ' F' H' fp' h s (p.trans p') (m.trans m'),
    fun o ρ' σ' v F' H' fp' S h s p' r d m' => k.rt o ρ' σ' v F' H' fp' S h s (p.trans p') r d (m.trans m')⟩
theorem DK.xp (k : DK C P W Dn Φ σ A F H) : XP C.G W σ A F H (fun c ρ => Φ (.exc c) ρ) := fun c ρ' F' H' fp' cls d h s x m => k.exc c ρ' σ F' H' fp' cls d h s .refl x m
theorem DK.less {A' : Addr → Prop} (k : DK C P W Dn Φ σ A F H) (h : ∀ q, A' q → A q) : DK C P W Dn Φ σ A' F H := k.along .refl (Mv.refl.less h)
/-- what follows a statement of a block -/
def thn' (n : Rho → Prop) (Φ : Fl → Rho → Prop) : Fl → Rho → Prop
  | .nx, ρ => n ρ
  | fl, ρ => Φ fl ρ
theorem sq_nx {n : Rho → Prop} (h : n ρ) : thn' n Φ .nx ρ := h
theorem sq_ret {n : Rho → Prop} {o : O} (h : Φ (.ret o) ρ) : thn' n Φ (.ret o) ρ := h
theorem sq_exc {n : Rho → Prop} {c : Exc} (h : Φ (.exc c) ρ) : thn' n Φ (.exc c) ρ := h
theorem sq_brk {n : Rho → Prop} (h : Φ .brk ρ) : thn' n Φ .brk ρ := h
theorem sq_cont {n : Rho → Prop} (h : Φ .cont ρ) : thn' n Φ .cont ρ := h
theorem sv_nil (h : Φ .nx ρ) : SV C P [] ρ Φ := fun X _ _ _ _ σ F H fp D s k => w_ss pss_nil (k.nx ρ σ F H fp h s .refl .refl)
theorem sv_cons (h : S1 C P st ρ (thn' (fun ρ' => SV C P rest ρ' Φ) Φ)) : SV C P (st :: rest) ρ Φ := by
  intro X hx W tk po σ F H fp D s k
  refine w_ss (pss_cons ps_w pss_w) (h X hx W tk po σ F H fp _ s ⟨fun c => k.exc c, fun ρ' σ' F' H' fp' q s' p' m' => ?_, fun ρ' => k.bk ρ', fun ρ' => k.ct ρ', fun o => k.rt o⟩)
  exact q X hx W tk po σ' F' H' fp' D s' (k.along p' m')
theorem sv_one (h : S1 C P st ρ Φ) : SV C P [st] ρ Φ := by
  intro X hx W tk po σ F H fp D s k
  exact w_ss (pss_one ps_w) (h X hx W tk po σ F H fp D s k)
theorem s_expr (h : EV C e ρ (fun _ ρ1 => Φ .nx ρ1) (fun c ρ1 => Φ (.exc c) ρ1)) (hs : ∀ env, swapsWith e none pos.line env = pure false := by intro _; rfl) : S1 C P (.Expr e pos) ρ Φ := by
  intro X hx W tk po σ F H fp D s k
  refine w_s (ps_expr pe_w (hs _)) ((h X hx W tk σ F H fp s k.xp).mono fun v H1 ⟨o, ρ1, F1, fp1, S, q, s1, r, d, m⟩ => ?_)
  exact k.nx ρ1 σ F1 H1 fp1 q s1 .refl (m.less fun _ z => .inl z)
theorem s_ret (h : EV C e ρ (fun o ρ1 => Φ (.ret o) ρ1) (fun c ρ1 => Φ (.exc c) ρ1)) : S1 C P (.Return (some e) pos) ρ Φ := by
  intro X hx W tk po σ F H fp D s k
  refine w_s (ps_ret pe_w) ((h X hx W tk σ F H fp s k.xp).mono fun v H1 ⟨o, ρ1, F1, fp1, S, q, s1, r, d, m⟩ => ?_)
  exact k.rt o ρ1 σ v F1 H1 fp1 S q s1 .refl r d m
theorem s_retN (h : Φ (.ret (.fz .non)) ρ) : S1 C P (.Return none pos) ρ Φ := fun X hx W tk po σ F H fp D s k => w_s ps_retN (k.rt _ ρ σ .non F H fp [] h s .refl (.fz .non) (fun _ z => (by cases z)) (Mv.refl.less fun _ z => z.elim id fun z => (by cases z)))
theorem s_pass (h : Φ .nx ρ) : S1 C P (.Pass pos) ρ Φ := fun X hx W tk po σ F H fp D s k => w_s ps_pass (k.nx ρ σ F H fp h s .refl .refl)
theorem s_brk (h : Φ .brk ρ) : S1 C P (.Break pos) ρ Φ := fun X hx W tk po σ F H fp D s k => w_s ps_break (k.bk ρ σ F H fp h s .refl .refl)
theorem s_cont (h : Φ .cont ρ) : S1 C P (.Continue pos) ρ Φ := fun X hx W tk po σ F H fp D s k => w_s ps_continue (k.ct ρ σ F H fp h s .refl .refl)
theorem s_if (h : ET C c ρ (fun b ρ1 => (b = true → SV C P body ρ1 Φ) ∧ (b = false → SV C P orelse ρ1 Φ)) (fun c ρ1 => Φ (.exc c) ρ1)) : S1 C P (.If c body orelse pos) ρ Φ := by
  intro X hx W tk po σ F H fp D s k
  refine w_s (ps_if pt_w pss_w pss_w) ((h X hx W tk σ F H fp s k.xp).mono fun b H1 ⟨ρ1, F1, fp1, ⟨h1, h2⟩, s1, m1⟩ => ?_)
  cases b with
  | true =>
    rw [if_pos rfl]
    exact h1 rfl X hx W tk po σ F1 H1 fp1 D s1 (k.along .refl m1)
  | false => exact h2 rfl X hx W tk po σ F1 H1 fp1 D s1 (k.along .refl m1)
/-- a statement that is known to be left by what follows it alone -/
theorem SV.mono {Φ' : Fl → Rho → Prop} (h : SV C P body ρ Φ) (hk : ∀ fl ρ, Φ fl ρ → Φ' fl ρ) : SV C P body ρ Φ' := fun X hx W tk po σ F H fp D s k =>
  h X hx W tk po σ F H fp D s ⟨fun c ρ' σ' F' H' fp' cls d q => k.exc c ρ' σ' F' H' fp' cls d (hk _ _ q), fun ρ' σ' F' H' fp' q => k.nx ρ' σ' F' H' fp' (hk _ _ q), fun ρ' σ' F' H' fp' q => k.bk ρ' σ' F' H' fp' (hk _ _ q),
    fun ρ' σ' F' H' fp' q => k.ct ρ' σ' F' H' fp' (hk _ _ q), fun o ρ' σ' v F' H' fp' S q => k.rt o ρ' σ' v F' H' fp' S (hk _ _ q)⟩
theorem S1.mono {Φ' : Fl → Rho → Prop} (h : S1 C P st ρ Φ) (hk : ∀ fl ρ, Φ fl ρ → Φ' fl ρ) : S1 C P st ρ Φ' := fun X hx W tk po σ F H fp D s k =>
  h X hx W tk po σ F H fp D s ⟨fun c ρ' σ' F' H' fp' cls d q => k.exc c ρ' σ' F' H' fp' cls d (hk _ _ q), fun ρ' σ' F' H' fp' q => k.nx ρ' σ' F' H' fp' (hk _ _ q), fun ρ' σ' F' H' fp' q => k.bk ρ' σ' F' H' fp' (hk _ _ q),
    fun ρ' σ' F' H' fp' q => k.ct ρ' σ' F' H' fp' (hk _ _ q), fun o ρ' σ' v F' H' fp' S q => k.rt o ρ' σ' v F' H' fp' S (hk _ _ q)⟩

/-! ### targets -/
theorem SR.store {K : PySem.W.Frag} {fp : Nat → List Addr} {v : V} {o : O} {S : List Addr} (s : SR K F H σ ρ fp) (r : Rep K F H v o S) (d : ∀ q ∈ S, ¬ own fp q) (i : Nat) :
    ∃ fp', SR K F H (σ.set i (some v)) (ρ.set i (some o)) fp' ∧ ∀ q, own fp' q → own fp q ∨ q ∈ S := by
  by_cases hi : i < ρ.length
  · exact ⟨wi fp i S, s.put r d hi (by rw [List.length_set]) (by rw [List.getElem?_set_self (by rw [← s.len]; exact hi)]) (fun j hj => by rw [List.getElem?_set_ne (Ne.symm hj)]), fun q h => own_wi h⟩
  · refine ⟨fp, ?_, fun q h => .inl h⟩
    have hl := s.len
    rw [List.set_eq_of_length_le (Nat.le_of_not_lt (by rw [← hl]; exact hi)), List.set_eq_of_length_le (Nat.le_of_not_lt hi)]
    exact s
theorem XIs.loc {X : Cx} (hx : XIs C X) {x : Str} (hl : Loc C.sc x) : Loc X.env.scope x := by rw [hx.sc]; exact hl
theorem XIs.sto {X : Cx} (hx : XIs C X) {x : Str} (h : C.top = true ∨ C.sc.names.lookup x = some .local) : X.fn x = true ∨ X.env.scope.names.lookup x = some .local := by
  rcases h with h | h
  · exact .inl (hx.fn h x)
  · exact .inr (by rw [hx.sc]; exact h)
theorem s_set {i : Nat} {x : Str} {p : Pos} (h : EV C e ρ (fun o ρ1 => Φ .nx (ρ1.set i (some o))) (fun c ρ1 => Φ (.exc c) ρ1)) (hP : i ∉ P := by decide) (hN : C.N[i]? = some x := by rfl) (hl : Loc C.sc x := by first | exact .inl rfl | exact .inr rfl)
    (hst : C.top = true ∨ C.sc.names.lookup x = some .local := by first | exact .inl rfl | exact .inr rfl)
    (hs : ∀ env : Env, env.scope = C.sc → swapsWith e (some (.Name x p)) pos.line env = pure false := by intro _ _; rfl) : S1 C P (.Assign [.Name x p] e pos) ρ Φ := by
  intro X hx W tk po σ F H fp D s k
  refine w_s (ps_set hx.nd (by rw [hx.N]; exact hN) (hx.loc hl) pe_w (hs _ hx.sc) (hx.sto hst)) ((h X hx W tk σ F H fp s k.xp).mono fun v H1 ⟨o, ρ1, F1, fp1, S, q, s1, r, d, m⟩ => ?_)
  obtain ⟨fp2, s2, m2⟩ := s1.store r d i
  refine k.nx _ _ F1 H1 fp2 q s2 (fun j hj => ?_) (m.less m2)
  rw [List.getElem?_set_ne (fun z => hP (by rw [z]; exact hj))]
/-- an assignment to a target of any form -/
def TGt (C : Ctx) (tg : Expr) (sl : List Nat) (d : D) (ρ : Rho) (k : Rho → Prop) : Prop :=
  ∀ X, XIs C X → C.su = none → ∀ σ F H fp v, SR C.G.K F H σ ρ fp → At C.G.K F v d → wG X tg v σ H (fun σ' H' => H' = H ∧ ∃ ρ' fp', k ρ' ∧ SR C.G.K F H σ' ρ' fp' ∧ (∀ q, own fp' q → own fp q) ∧ σ'.length = σ.length ∧ ∀ j, j ∉ sl → σ'[j]? = σ[j]?)
def wGs (X : Cx) (ts : List Expr) : TGs := fun vs σ H Q => ∀ pins s us, Inv X pins σ H s → Vals vs us → wpAny (model X.prog X.w) X.A (assignInOrder ((assignEach ts X.env).map (·.2)) us) (fun _ s' => ∃ σ' H', Inv X pins σ' H' s' ∧ Q σ' H') X.xe s
theorem pgs_w {X : Cx} {ts : List Expr} : PGs X ts (wGs X ts) := ⟨fun pins s _ _ _ us _ I r h => h pins s us I r⟩
theorem w_gs {X : Cx} {ts : List Expr} {t : TGs} (p : PGs X ts t) {vs σ H Q} (h : t vs σ H Q) : wGs X ts vs σ H Q := fun pins s us I r => p.run pins s σ H vs us Q I r h
theorem wG.mono {X : Cx} {tg : Expr} {v σ H} {Q Q' : L2.St → Hp → Prop} (h : wG X tg v σ H Q) (k : ∀ σ H, Q σ H → Q' σ H) : wG X tg v σ H Q' := fun pins s u I r =>
  thn (h pins s u I r) fun _ _ ⟨σ', H', I', q⟩ => ⟨σ', H', I', k _ _ q⟩
theorem wGs.mono {X : Cx} {ts : List Expr} {v σ H} {Q Q' : L2.St → Hp → Prop} (h : wGs X ts v σ H Q) (k : ∀ σ H, Q σ H → Q' σ H) : wGs X ts v σ H Q' := fun pins s u I r =>
  thn (h pins s u I r) fun _ _ ⟨σ', H', I', q⟩ => ⟨σ', H', I', k _ _ q⟩
def TGs' (C : Ctx) (ts : List Expr) (sl : List Nat) (ds : List D) (ρ : Rho) (k : Rho → Prop) : Prop :=
  ∀ X, XIs C X → C.su = none → ∀ σ F H fp vs, SR C.G.K F H σ ρ fp → AtL C.G.K F vs ds → wGs X ts vs σ H (fun σ' H' => H' = H ∧ ∃ ρ' fp', k ρ' ∧ SR C.G.K F H σ' ρ' fp' ∧ (∀ q, own fp' q → own fp q) ∧ σ'.length = σ.length ∧ ∀ j, j ∉ sl → σ'[j]? = σ[j]?)
theorem tg_name {i : Nat} {x : Str} {p : Pos} {d : D} {k : Rho → Prop} (q : k (ρ.set i (some (.fz d)))) (hN : C.N[i]? = some x := by rfl) (hl : Loc C.sc x := by first | exact .inl rfl | exact .inr rfl)
    (hst : C.top = true ∨ C.sc.names.lookup x = some .local := by first | exact .inl rfl | exact .inr rfl) : TGt C (.Name x p) [i] d ρ k := by
  intro X hx hsu σ F H fp v s a
  refine w_g (pg_name hx.nd (by rw [hx.N]; exact hN) (hx.loc hl) (hx.sto hst)) ?_
  obtain ⟨fp2, s2, m2⟩ := s.store (S := []) (.fz a) (fun _ z => by cases z) i
  refine ⟨rfl, _, fp2, q, s2, fun q hq => (m2 q hq).elim id fun z => (by cases z), List.length_set, fun j hj => ?_⟩
  rw [List.getElem?_set_ne (fun z => hj (by simp [z]))]
theorem tgs_nil {k : Rho → Prop} (q : k ρ) : TGs' C [] [] [] ρ k := by
  intro X hx hsu σ F H fp vs s a
  cases a
  exact w_gs pgs_nil ⟨rfl, rfl, ρ, fp, q, s, fun _ h => h, rfl, fun _ _ => rfl⟩
theorem tgs_cons {t : Expr} {ts : List Expr} {sl sl' : List Nat} {d : D} {ds : List D} {k : Rho → Prop} (h : TGt C t sl d ρ (fun ρ1 => TGs' C ts sl' ds ρ1 k))
    (hs : ∀ env, (assignEach (t :: ts) env).map (·.2) = assign t env :: (assignEach ts env).map (·.2) := by intro _; rfl) : TGs' C (t :: ts) (sl ++ sl') (d :: ds) ρ k := by
  intro X hx hsu σ F H fp vs s a
  cases a with
  | cons a1 a2 =>
    refine w_gs (pgs_cons pg_w pgs_w (hs _)) ⟨_, _, rfl, (h X hx hsu σ F H fp _ s a1).mono fun σ1 H1 ⟨e, ρ1, fp1, q, s1, m1, l1, n1⟩ => ?_⟩
    subst e
    refine wGs.mono (q X hx hsu σ1 F H1 fp1 _ s1 a2) fun σ2 H2 ⟨e, ρ2, fp2, q2, s2, m2, l2, n2⟩ => ?_
    subst e
    exact ⟨rfl, ρ2, fp2, q2, s2, fun q h => m1 q (m2 q h), l2.trans l1, fun j hj => by
      simp only [List.mem_append, not_or] at hj
      exact (n2 j hj.2).trans (n1 j hj.1)⟩
theorem tg_tup {es : List Expr} {n : Nat} {p : Pos} {sl : List Nat} {ds : List D} {k : Rho → Prop} (h : TGs' C es sl ds ρ k) (hn : ∀ env, (assignEach es env).length = ds.length := by intro _; rfl)
    (hst : ∀ env, (assignEach es env).findIdx? (·.1) = none := by intro _; rfl) : TGt C (.Tuple es n p) sl (.tup ds) ρ k := by
  intro X hx hsu σ F H fp v s a
  cases a with
  | tup hh t =>
    refine w_g (pg_tup (hx.calm hsu) pgs_w rfl (hst _)) ⟨_, _, rfl, (by rw [hx.K]; exact s.ex.t hh), by rw [hn]; exact t.length, ?_⟩
    exact h X hx hsu σ F H fp _ s t
theorem s_asg {tg : Expr} {sl : List Nat} (h : EV C e ρ (fun o ρ1 => TGt C tg sl o.frz ρ1 (fun ρ2 => Φ .nx ρ2)) (fun c ρ1 => Φ (.exc c) ρ1)) (hP : ∀ j ∈ sl, j ∉ P := by decide) (hsu : C.su = none := by rfl)
    (hs : ∀ env : Env, env.scope = C.sc → swapsWithSole [tg] e pos.line env = pure false := by intro _ _; rfl) (hw : ∀ env : Env, env.scope = C.sc → swappedStores [tg] e env = pure none := by intro _ _; rfl)
    (h1 : ∀ env, (assignEach [tg] env).map (·.2) = [assign tg env] := by intro _; rfl) : S1 C P (.Assign [tg] e pos) ρ Φ := by
  intro X hx W tk po σ F H fp D s k
  refine w_s (ps_asg pe_w pg_w (hs _ hx.sc) (hw _ hx.sc) (h1 _)) ((EV.d (k := fun d ρ1 => TGt C tg sl d ρ1 (fun ρ2 => Φ .nx ρ2)) h hx tk s k.xp).mono fun v H1 ⟨d, ρ1, F1, fp1, q, s1, a1, m1⟩ => ?_)
  refine (q X hx hsu σ F1 H1 fp1 v s1 a1).mono fun σ2 H2 ⟨e, ρ2, fp2, q2, s2, m2, l2, n2⟩ => ?_
  subst e
  exact k.nx ρ2 σ2 F1 H2 fp2 q2 s2 (fun j hj => n2 j fun z => hP j z hj) (m1.less m2)

/-! ### what is walked -/
def Gw (F H F' H' : Hp) : Prop := Ex F F' ∧ Ex F' H' ∧ ∀ q o, H q = some o → H' q = some o ∧ F' q = F q
theorem Gw.mv {F H F' H' : Hp} (g : Gw F H F' H') {A : Addr → Prop} : Mv A F H A F' H' := ⟨g.1, fun q o h _ => g.2.2 q o h, fun _ h => .inl h⟩
theorem Gw.sr {K : PySem.W.Frag} {F H F' H' : Hp} {σ : L2.St} {fp : Nat → List Addr} (g : Gw F H F' H') (s : SR K F H σ ρ fp) : SR K F' H' σ ρ fp :=
  s.mono g.1 g.2.1 (fun q hq => by
    obtain ⟨h1, u, h2⟩ := s.owned hq
    rw [(g.2.2 q u h2).2]; exact h1) fun q hq => by
    obtain ⟨h1, u, h2⟩ := s.owned hq
    rw [h2]; exact (g.2.2 q u h2).1
theorem Gw.refl {F H : Hp} (e : Ex F H) : Gw F H F H := ⟨Ex.refl F, e, fun _ _ h => ⟨h, rfl⟩⟩
theorem Gw.new {F H : Hp} (e : Ex F H) {p : Addr} (hp : H p = none) (o : HO) : Gw F H (upd F p o) (upd H p o) := by
  refine ⟨Ex.new (e.free hp), fun a u h => ?_, fun q u h => ?_⟩
  · by_cases z : a = p
    · subst z
      rw [upd_same] at h ⊢
      exact h
    · rw [upd_ne z] at h ⊢
      exact e a u h
  · have z : q ≠ p := ne_of_none h hp
    exact ⟨by rw [upd_ne z]; exact h, upd_ne z⟩
/-- the items ds are walked, whatever is new meanwhile -/
def ItOk (K : PySem.W.Frag) (J : It) (ds : List D) (F1 : Hp) : Prop := ∀ (i : Nat) F' H', Ex F1 F' → Ex F' H' →
  (∀ d, ds[i]? = some d → J.go i H' ∧ ∀ x H'', J.yld i H' x H'' → ∃ F'', At K F'' x d ∧ Gw F' H' F'' H'') ∧ (ds.length ≤ i → J.stop i H')
def EI (C : Ctx) (tg iter : Expr) (ρ : Rho) (k : List D → Rho → Prop) (Ξ : Exc → Rho → Prop) : Prop :=
  ∀ X, XIs C X → ∀ W, Takes X W → ∀ σ F H fp, SR C.G.K F H σ ρ fp → XP C.G W σ (own fp) F H Ξ → wI X tg iter σ H (fun J H1 => ∃ ds ρ1 F1 fp1, k ds ρ1 ∧ SR C.G.K F1 H1 σ ρ1 fp1 ∧ Mv (own fp) F H (own fp1) F1 H1 ∧ ItOk C.G.K J ds F1)
section
variable {Ξ : Exc → Rho → Prop} {tg : Expr} {k : List D → Rho → Prop}
theorem it_list {K : PySem.W.Frag} {p : Addr} {vs : List V} {ds : List D} {F1 : Hp} (h : F1 p = some (.lst vs)) (t : AtL K F1 vs ds) : ItOk K (Itl K p) ds F1 := by
  intro i F' H' e1 e2
  have hh : SqL K H' p vs := .inl (.inl (e2 _ _ (e1 _ _ h)))
  refine ⟨fun d hd => ?_, fun hi => ⟨vs, hh, by rw [t.length]; exact hi⟩⟩
  obtain ⟨v, ev, av⟩ := t.get hd
  refine ⟨⟨vs, v, hh, ev⟩, fun x H'' ⟨eh, y⟩ => ?_⟩
  subst eh
  have ex := y vs hh
  rw [ev] at ex
  cases ex
  exact ⟨F', av.mono e1, Gw.refl e2⟩
theorem it_tup {K : PySem.W.Frag} {p : Addr} {vs : List V} {ds : List D} {F1 : Hp} (h : SqT K F1 p vs) (t : AtL K F1 vs ds) : ItOk K (Itt K p) ds F1 := by
  intro i F' H' e1 e2
  have hh : SqT K H' p vs := e2.t (e1.t h)
  refine ⟨fun d hd => ?_, fun hi => ⟨vs, hh, by rw [t.length]; exact hi⟩⟩
  obtain ⟨v, ev, av⟩ := t.get hd
  refine ⟨⟨vs, v, hh, ev⟩, fun x H'' ⟨eh, y⟩ => ?_⟩
  subst eh
  have ex := y vs hh
  rw [ev] at ex
  cases ex
  exact ⟨F', av.mono e1, Gw.refl e2⟩
/-- a list | a tuple | a text | a range | pairs -/
theorem ei_lst (h : EV C e ρ (fun o ρ1 => ∃ ds, o.frz = .lst ds ∧ k ds ρ1) Ξ) : EI C tg e ρ k Ξ := by
  intro X hx W tk σ F H fp s x
  refine w_i (pi_list pe_w) ((EV.d (k := fun d ρ1 => ∃ ds, d = .lst ds ∧ k ds ρ1) h hx tk s x).mono fun v H1 ⟨d, ρ1, F1, fp1, ⟨ds, ed, q⟩, s1, a1, m1⟩ => ?_)
  subst ed
  cases a1 with
  | lst hh t => exact ⟨_, rfl, ⟨_, .inl (.inl (s1.ex _ _ hh))⟩, ds, ρ1, F1, fp1, q, s1, m1, by rw [hx.K]; exact it_list hh t⟩
theorem ei_scr (h : EV C e ρ (fun o ρ1 => ∃ ns, o.frz = .scr ns ∧ k (ns.map .int) ρ1) Ξ) : EI C tg e ρ k Ξ := by
  intro X hx W tk σ F H fp s x
  refine w_i (pi_list pe_w) ((EV.d (k := fun d ρ1 => ∃ ns, d = .scr ns ∧ k (ns.map .int) ρ1) h hx tk s x).mono fun v H1 ⟨d, ρ1, F1, fp1, ⟨ns, ed, q⟩, s1, a1, m1⟩ => ?_)
  subst ed
  cases a1 with
  | @scr pa _ hh =>
    refine ⟨_, rfl, ⟨_, (by rw [hx.K]; exact s1.ex.l hh)⟩, _, ρ1, F1, fp1, q, s1, m1, ?_⟩
    intro i F' H' e1 e2
    have h2 : SqL X.K H' pa (ns.map V.int) := by rw [hx.K]; exact e2.l (e1.l hh)
    refine ⟨fun d hd => ?_, fun hi => ⟨_, h2, by simpa using hi⟩⟩
    rw [List.getElem?_map] at hd
    cases q2 : ns[i]? with
    | none => rw [q2] at hd; cases hd
    | some n =>
      rw [q2] at hd
      cases hd
      have ev : (ns.map V.int)[i]? = some (.int n) := by rw [List.getElem?_map, q2]; rfl
      refine ⟨⟨_, _, h2, ev⟩, fun x H'' ⟨eh, y⟩ => ?_⟩
      subst eh
      have ex := y _ h2
      rw [ev] at ex
      cases ex
      exact ⟨F', .int n, Gw.refl e2⟩
theorem ei_tup (h : EV C e ρ (fun o ρ1 => ∃ ds, o.frz = .tup ds ∧ k ds ρ1) Ξ) : EI C tg e ρ k Ξ := by
  intro X hx W tk σ F H fp s x
  refine w_i (pi_tup pe_w) ((EV.d (k := fun d ρ1 => ∃ ds, d = .tup ds ∧ k ds ρ1) h hx tk s x).mono fun v H1 ⟨d, ρ1, F1, fp1, ⟨ds, ed, q⟩, s1, a1, m1⟩ => ?_)
  subst ed
  cases a1 with
  | tup hh t => exact ⟨_, rfl, ⟨_, (by rw [hx.K]; exact s1.ex.t hh)⟩, ds, ρ1, F1, fp1, q, s1, m1, by rw [hx.K]; exact it_tup hh t⟩
def signs (z : Str) : List D := z.cps.toList.map fun c => .str ⟨#[c]⟩
theorem ei_str (h : EV C e ρ (fun o ρ1 => ∃ z, o.frz = .str z ∧ k (signs z) ρ1) Ξ) : EI C tg e ρ k Ξ := by
  intro X hx W tk σ F H fp s x
  refine w_i (pi_str pe_w) ((EV.d (k := fun d ρ1 => ∃ z, d = .str z ∧ k (signs z) ρ1) h hx tk s x).mono fun v H1 ⟨d, ρ1, F1, fp1, ⟨z, ed, q⟩, s1, a1, m1⟩ => ?_)
  subst ed
  cases a1
  refine ⟨z, rfl, _, ρ1, F1, fp1, q, s1, m1, ?_⟩
  intro i F' H' e1 e2
  have hl : (signs z).length = z.cps.size := by simp [signs]
  refine ⟨fun d hd => ?_, fun hi => by rw [hl] at hi; exact hi⟩
  have hi : i < z.cps.size := by rw [← hl]; exact (List.getElem?_eq_some_iff.mp hd).1
  refine ⟨hi, fun x H'' ⟨eh, c, hc, ex⟩ => ?_⟩
  subst eh
  subst ex
  unfold signs at hd
  rw [List.getElem?_map, Array.getElem?_toList, hc] at hd
  cases hd
  exact ⟨F', .str _, Gw.refl e2⟩
def rngD (lo : Int) (n : Nat) : List D := (List.range n).map fun (i : Nat) => D.int (lo + i)
theorem it_rng {K : PySem.W.Frag} {lo : Int} {n : Nat} {F1 : Hp} : ItOk K (Itr lo n) (rngD lo n) F1 := by
  intro i F' H' e1 e2
  have hl : (rngD lo n).length = n := by simp [rngD]
  refine ⟨fun d hd => ?_, fun hi => by rw [hl] at hi; exact hi⟩
  have hi : i < n := by rw [← hl]; exact (List.getElem?_eq_some_iff.mp hd).1
  refine ⟨hi, fun x H'' ⟨eh, ex⟩ => ?_⟩
  subst eh
  subst ex
  have e : (rngD lo n)[i]? = some (.int (lo + i)) := by
    unfold rngD
    rw [List.getElem?_map, List.getElem?_range hi]; rfl
  rw [e] at hd
  cases hd
  exact ⟨F', .int _, Gw.refl e2⟩
theorem ei_rng1 {a : Expr} {p : Pos} (hm : C.G.mg "range" = none) (h : EV C a ρ (fun o ρ1 => ∃ j, o.frz = .int j ∧ (-(2 ^ 62) ≤ j ∧ j < 2 ^ 62) ∧ k (rngD 0 j.toNat) ρ1) Ξ) (hg : C.sc.names.lookup ("range" : Str) = some .globalImplicit := by rfl)
    (hs : ∀ env, starEach [a] env = [(false, eval a env)] := by intro _; rfl) : EI C tg (.Call (.Name "range" p) [a] [] pos) ρ k Ξ := by
  intro X hx W tk σ F H fp s x
  refine w_i (pi_range1 (hx.gl hg) (by rw [hx.mg]; exact hm) (pa_cons pe_w pa_nil (hs _)) (hs _)) ((EV.d (k := fun d ρ1 => ∃ j, d = .int j ∧ (-(2 ^ 62) ≤ j ∧ j < 2 ^ 62) ∧ k (rngD 0 j.toNat) ρ1) h hx tk s x).mono fun v H1 ⟨d, ρ1, F1, fp1, ⟨j, ed, ⟨l1, l2⟩, q⟩, s1, a1, m1⟩ => ?_)
  subst ed
  cases a1
  exact ⟨j, rfl, l1, l2, _, ρ1, F1, fp1, q, s1, m1, it_rng⟩
theorem ei_rng2 {a b : Expr} {p : Pos} (hm : C.G.mg "range" = none) (h : EV C a ρ (fun o ρ1 => EV C b ρ1 (fun o2 ρ2 => ∃ i j, o.frz = .int i ∧ o2.frz = .int j ∧ (-(2 ^ 62) ≤ i ∧ i < 2 ^ 62 ∧ -(2 ^ 62) ≤ j ∧ j < 2 ^ 62) ∧ k (rngD i (j - i).toNat) ρ2) Ξ) Ξ) (hg : C.sc.names.lookup ("range" : Str) = some .globalImplicit := by rfl)
    (hs : ∀ env, starEach [a, b] env = [(false, eval a env), (false, eval b env)] := by intro _; rfl) (hs2 : ∀ env, starEach [b] env = [(false, eval b env)] := by intro _; rfl) : EI C tg (.Call (.Name "range" p) [a, b] [] pos) ρ k Ξ := by
  intro X hx W tk σ F H fp s x
  refine w_i (pi_range2 (hx.gl hg) (by rw [hx.mg]; exact hm) (pa_cons pe_w (pa_cons pe_w pa_nil (hs2 _)) (by rw [hs, hs2])) (hs _) (hs2 _)) ((EV.d (k := fun d ρ1 => EV C b ρ1 (fun o2 ρ2 => ∃ i j, d = .int i ∧ o2.frz = .int j ∧ (-(2 ^ 62) ≤ i ∧ i < 2 ^ 62 ∧ -(2 ^ 62) ≤ j ∧ j < 2 ^ 62) ∧ k (rngD i (j - i).toNat) ρ2) Ξ) h hx tk s x).mono fun v H1 ⟨d, ρ1, F1, fp1, h1, s1, a1, m1⟩ => ?_)
  refine (EV.d (k := fun d2 ρ2 => ∃ i j, d = .int i ∧ d2 = .int j ∧ (-(2 ^ 62) ≤ i ∧ i < 2 ^ 62 ∧ -(2 ^ 62) ≤ j ∧ j < 2 ^ 62) ∧ k (rngD i (j - i).toNat) ρ2) h1 hx tk s1 (x.along m1)).mono fun u H2 ⟨d2, ρ2, F2, fp2, ⟨i, j, e1, e2, l, q⟩, s2, a2, m2⟩ => ?_
  subst e1
  subst e2
  cases a1
  cases a2
  exact ⟨i, j, rfl, l, _, ρ2, F2, fp2, q, s2, m1.trans m2, it_rng⟩
def numbered (ds : List D) : List D := (ds.zipIdx).map fun p => .tup [.int (p.2 : Nat), p.1]
theorem ei_enum {a : Expr} {p tpos : Pos} {elts : List Expr} {kk : Nat} (hm : C.G.mg "enumerate" = none) (h : EV C a ρ (fun o ρ1 => ∃ ds, o.frz = .lst ds ∧ k (numbered ds) ρ1) Ξ) (hg : C.sc.names.lookup ("enumerate" : Str) = some .globalImplicit := by rfl)
    (hs : ∀ env, starEach [a] env = [(false, eval a env)] := by intro _; rfl) : EI C (.Tuple elts kk tpos) (.Call (.Name "enumerate" p) [a] [] pos) ρ k Ξ := by
  intro X hx W tk σ F H fp s x
  refine w_i (pi_enum (hx.gl hg) (by rw [hx.mg]; exact hm) (pa_cons pe_w pa_nil (hs _)) (hs _)) ((EV.d (k := fun d ρ1 => ∃ ds, d = .lst ds ∧ k (numbered ds) ρ1) h hx tk s x).mono fun v H1 ⟨d, ρ1, F1, fp1, ⟨ds, ed, q⟩, s1, a1, m1⟩ => ?_)
  subst ed
  cases a1 with
  | @lst pa vs _ hh t =>
    refine ⟨_, vs, rfl, .inl (.inl (s1.ex _ _ hh)), _, ρ1, F1, fp1, q, s1, m1, ?_⟩
    intro i F' H' e1 e2
    have h2 : SqL X.K H' pa vs := .inl (.inl (e2 _ _ (e1 _ _ hh)))
    have hl : (numbered ds).length = ds.length := by simp [numbered]
    refine ⟨fun d hd => ?_, fun hi => ⟨vs, h2, by rw [t.length, ← hl]; exact hi⟩⟩
    unfold numbered at hd
    rw [List.getElem?_map, List.getElem?_zipIdx] at hd
    cases q2 : ds[i]? with
    | none => rw [q2] at hd; cases hd
    | some dd =>
      rw [q2] at hd
      obtain ⟨v, ev, av⟩ := t.get q2
      refine ⟨⟨vs, v, h2, ev⟩, fun y H'' ⟨T, w, ey, hT, eh, hw⟩ => ?_⟩
      subst ey eh
      have e3 := hw vs h2
      rw [ev] at e3
      cases e3
      have ed : d = .tup [.int ((0 + i : Nat) : Int), dd] := by
        have : some (D.tup [.int ((0 + i : Nat) : Int), dd]) = some d := hd
        exact (Option.some.inj this).symm
      subst ed
      have g := Gw.new e2 hT (.tup [.int (i : Nat), v])
      refine ⟨_, .tup (.inl (.inl upd_same)) (.cons ?_ (.cons (av.mono (e1.trans g.1)) .nil)), g⟩
      rw [Nat.zero_add]
      exact .int _
theorem ei_zip {a b : Expr} {p tpos : Pos} {elts : List Expr} {kk : Nat} (hm : C.G.mg "zip" = none) (h : EV C a ρ (fun o ρ1 => EV C b ρ1 (fun o2 ρ2 => ∃ ds es, o.frz = .lst ds ∧ o2.frz = .lst es ∧ k (List.zipWith (fun d e => .tup [d, e]) ds es) ρ2) Ξ) Ξ) (hg : C.sc.names.lookup ("zip" : Str) = some .globalImplicit := by rfl)
    (hs : ∀ env, starEach [a, b] env = (false, eval a env) :: starEach [b] env := by intro _; rfl) (hs2 : ∀ env, starEach [b] env = (false, eval b env) :: starEach [] env := by intro _; rfl) (hpl : ∀ env, (backTo pos (starEach [b] env)).any (·.1) = false := by intro _; rfl) :
    EI C (.Tuple elts kk tpos) (.Call (.Name "zip" p) [a, b] [] pos) ρ k Ξ := by
  intro X hx W tk σ F H fp s x
  refine w_i (pi_zip (hx.gl hg) (by rw [hx.mg]; exact hm) (pa_cons pe_w (pa_cons pe_w pa_nil (hs2 _)) (hs _)) (hs _) (hpl _)) ((EV.d (k := fun d ρ1 => EV C b ρ1 (fun o2 ρ2 => ∃ ds es, d = .lst ds ∧ o2.frz = .lst es ∧ k (List.zipWith (fun d e => .tup [d, e]) ds es) ρ2) Ξ) h hx tk s x).mono fun v H1 ⟨d, ρ1, F1, fp1, h1, s1, a1, m1⟩ => ?_)
  refine (EV.d (k := fun d2 ρ2 => ∃ ds es, d = .lst ds ∧ d2 = .lst es ∧ k (List.zipWith (fun d e => .tup [d, e]) ds es) ρ2) h1 hx tk s1 (x.along m1)).mono fun u H2 ⟨d2, ρ2, F2, fp2, ⟨ds, es, e1, e2, q⟩, s2, a2, m2⟩ => ?_
  subst e1
  subst e2
  have a1 := a1.mono m2.ef
  cases a1 with
  | @lst pa vs _ hh t =>
    cases a2 with
    | @lst pb ws _ hh2 t2 =>
      refine ⟨pa, pb, vs, ws, rfl, .inl (.inl (s2.ex _ _ hh)), .inl (.inl (s2.ex _ _ hh2)), _, ρ2, F2, fp2, q, s2, m1.trans m2, ?_⟩
      intro i F' H' e1 e2
      have h1 : SqL X.K H' pa vs := .inl (.inl (e2 _ _ (e1 _ _ hh)))
      have h2 : SqL X.K H' pb ws := .inl (.inl (e2 _ _ (e1 _ _ hh2)))
      refine ⟨fun d hd => ?_, fun hi => ⟨vs, ws, h1, h2, ?_⟩⟩
      · rw [List.getElem?_zipWith] at hd
        cases q1 : ds[i]? with
        | none => rw [q1] at hd; cases hd
        | some d1 =>
          cases q2 : es[i]? with
          | none => rw [q1, q2] at hd; cases hd
          | some d2 =>
            rw [q1, q2] at hd
            have hd' : D.tup [d1, d2] = d := Option.some.inj hd
            subst hd'
            obtain ⟨v1, ev1, av1⟩ := t.get q1
            obtain ⟨v2, ev2, av2⟩ := t2.get q2
            refine ⟨⟨vs, ws, v1, v2, h1, h2, ev1, ev2⟩, fun y H'' ⟨T, w1, w2, ey, hT, eh, hw1, hw2⟩ => ?_⟩
            subst ey eh
            have e3 := hw1 vs h1
            rw [ev1] at e3
            cases e3
            have e4 := hw2 ws h2
            rw [ev2] at e4
            cases e4
            have g := Gw.new e2 hT (.tup [v1, v2])
            exact ⟨_, .tup (.inl (.inl upd_same)) (.cons (av1.mono (e1.trans g.1)) (.cons (av2.mono (e1.trans g.1)) .nil)), g⟩
      · rw [List.length_zipWith] at hi
        rw [t.length, t2.length]
        omega
end

/-! ### for -/
def forΦ (n : Rho → Prop) (Φ : Fl → Rho → Prop) : Fl → Rho → Prop
  | .nx, ρ => n ρ
  | .cont, ρ => n ρ
  | .brk, ρ => Φ .nx ρ
  | fl, ρ => Φ fl ρ
def forΦ' (fg : List Nat) (n : Rho → Prop) (Φ : Fl → Rho → Prop) : Fl → Rho → Prop
  | .nx, ρ => n (wipeR ρ fg)
  | .cont, ρ => n (wipeR ρ fg)
  | .brk, ρ => Φ .nx ρ
  | fl, ρ => Φ fl ρ
/-- what a loop over ds asks; fg: slots that are forgotten at each turn's head and behind the loop -/
def ForAsk (C : Ctx) (P : List Nat) (tg : Expr) (sl : List Nat) (body : List Stmt) (fg : List Nat) (Φ : Fl → Rho → Prop) (ds : List D) (ρ1 : Rho) : Prop :=
  ∃ Iv : Nat → Rho → Prop, Iv 0 (wipeR ρ1 fg) ∧ (∀ i d ρ', ds[i]? = some d → Iv i ρ' → TGt C tg sl d ρ' (fun ρ2 => SV C P body ρ2 (forΦ' fg (Iv (i + 1)) Φ))) ∧ ∀ ρ', Iv ds.length ρ' → Φ .nx ρ'
theorem s_for {tg iter : Expr} {sl : List Nat} (fg : List Nat)
    (h : EI C tg iter ρ (ForAsk C P tg sl body fg Φ) (fun c ρ1 => Φ (.exc c) ρ1))
    (hP : ∀ j ∈ sl, j ∉ P := by decide) (hsu : C.su = none := by rfl) (hs : ∀ env x, foldedSetIterable iter env x = pure x := by intro _ _; rfl) : S1 C P (.For tg iter body [] pos) ρ Φ := by
  intro X hx W tk po σ F H fp D s k
  refine w_s (ps_for po (hx.calm hsu) pi_w pg_w pss_w (hs _)) ?_
  intro pins st I
  refine thn (h X hx W tk σ F H fp s k.xp pins st I) fun v s1 h1 => thn h1 fun itv s2 h2 => ?_
  obtain ⟨it, fpi, tn, J, H2, e, I2, T, st2, f2, ds, ρ1, F1, fp1, ⟨Iv, iv0, turn, done⟩, sr1, m1, ok⟩ := h2
  refine ⟨it, fpi, tn, J, H2, e, I2, T, st2, f2, ?_⟩
  have wp : ∀ {F H : Hp} {σ : L2.St} {ρ : Rho} {fp : Nat → List Addr}, SR C.G.K F H σ ρ fp → SR C.G.K F H σ (wipeR ρ fg) (wipeF fp fg) := fun s => s.wiped rfl fun _ _ => rfl
  refine ⟨fun i m σ' H' => m = ds.length - i ∧ i ≤ ds.length ∧ ∃ ρ' F' fp', Iv i ρ' ∧ SR C.G.K F' H' σ' ρ' fp' ∧ Pin P σ σ' ∧ Mv (own fp) F H (own fp') F' H' ∧ Ex F1 F', ⟨_, rfl, Nat.zero_le _, _, F1, wipeF fp1 fg, iv0, wp sr1, .refl, m1.less fun q => own_wipeF, Ex.refl _⟩, ?_⟩
  rintro i m σ' H' ⟨hm, hi, ρ', F', fp', iv, sr, pn, mv, ex⟩
  by_cases hlt : i < ds.length
  · refine .inr ?_
    obtain ⟨d, hd⟩ : ∃ d, ds[i]? = some d := ⟨_, List.getElem?_eq_getElem hlt⟩
    obtain ⟨go, yld⟩ := (ok i F' H' ex sr.ex).1 d hd
    refine ⟨go, fun σ'' H'' => ∃ m', m' = ds.length - (i + 1) ∧ i + 1 ≤ ds.length ∧ ∃ ρ' F' fp', Iv (i + 1) ρ' ∧ SR C.G.K F' H'' σ'' ρ' fp' ∧ Pin P σ σ'' ∧ Mv (own fp) F H (own fp') F' H'' ∧ Ex F1 F', fun σ'' H'' ⟨m', e1, w⟩ => ⟨m', by omega, e1, w⟩, fun x H'' hy => ?_⟩
    obtain ⟨F'', ax, g⟩ := yld x H'' hy
    have sr2 := g.sr sr
    refine (turn i d ρ' hd iv X hx hsu σ' F'' H'' fp' x sr2 ax).mono fun σ2 H3 ⟨eh, ρ2, fp2, q2, s3, m3, l3, n3⟩ => ?_
    subst eh
    have pn2 : Pin P σ σ2 := fun j hj => (n3 j fun z => hP j z hj).trans (pn j hj)
    have mv2 : Mv (own fp) F H (own fp2) F'' H3 := (mv.trans g.mv).less m3
    have kk := k.along pn2 mv2
    refine q2 X hx W tk po σ2 F'' H3 fp2 _ s3 ⟨kk.exc, ?_, fun ρ' σ' F' H' fp' q s' p' m' => kk.nx ρ' σ' F' H' fp' q s' p' m', ?_, kk.rt⟩
    · intro ρ4 σ4 F4 H4 fp4 q s4 p4 m4
      exact ⟨_, rfl, hlt, _, F4, wipeF fp4 fg, q, wp s4, pn2.trans p4, (mv2.trans m4).less fun q => own_wipeF, (ex.trans g.1).trans m4.ef⟩
    · intro ρ4 σ4 F4 H4 fp4 q s4 p4 m4
      exact ⟨_, rfl, hlt, _, F4, wipeF fp4 fg, q, wp s4, pn2.trans p4, (mv2.trans m4).less fun q => own_wipeF, (ex.trans g.1).trans m4.ef⟩
  · have e : i = ds.length := by omega
    subst e
    exact .inl ⟨(ok _ F' H' ex sr.ex).2 (Nat.le_refl _), k.nx ρ' σ' F' H' fp' (done ρ' iv) sr pn mv⟩
/-! ### while -/
theorem s_while (Iv : Nat → Rho → Prop) (m0 : Nat) (h0 : Iv m0 ρ)
    (hs : ∀ m ρ', Iv m ρ' → ET C c ρ' (fun b ρ1 => (b = true → SV C P body ρ1 (forΦ (fun ρ2 => ∃ m', m' < m ∧ Iv m' ρ2) Φ)) ∧ (b = false → Φ .nx ρ1)) (fun c ρ1 => Φ (.exc c) ρ1)) : S1 C P (.While c body [] pos) ρ Φ := by
  intro X hx W tk po σ F H fp D s k
  refine w_s (ps_while po pt_w pss_w) ?_
  refine ⟨fun m σ' H' => ∃ ρ' F' fp', Iv m ρ' ∧ SR C.G.K F' H' σ' ρ' fp' ∧ Pin P σ σ' ∧ Mv (own fp) F H (own fp') F' H', ⟨m0, ρ, F, fp, h0, s, .refl, .refl⟩, ?_⟩
  rintro m σ' H' ⟨ρ', F', fp', iv, sr, pn, mv⟩
  refine wT.mono (hs m ρ' iv X hx W tk σ' F' H' fp' sr (k.along pn mv).xp) fun b H1 ⟨ρ1, F1, fp1, ⟨q1, q2⟩, s1, m1⟩ => ?_
  have mv1 := mv.trans m1
  have kk := k.along pn mv1
  cases b with
  | true =>
    rw [if_pos rfl]
    refine ⟨fun σ'' H'' => ∃ m', m' < m ∧ ∃ ρ' F' fp', Iv m' ρ' ∧ SR C.G.K F' H'' σ'' ρ' fp' ∧ Pin P σ σ'' ∧ Mv (own fp) F H (own fp') F' H'', fun σ'' H'' h => h, ?_⟩
    refine q1 rfl X hx W tk po σ' F1 H1 fp1 _ s1 ⟨kk.exc, ?_, fun ρ' σ' F' H' fp' q s' p' m' => kk.nx ρ' σ' F' H' fp' q s' p' m', ?_, kk.rt⟩
    · rintro ρ4 σ4 F4 H4 fp4 ⟨m', hm, q⟩ s4 p4 m4
      exact ⟨m', hm, ρ4, F4, fp4, q, s4, pn.trans p4, mv1.trans m4⟩
    · rintro ρ4 σ4 F4 H4 fp4 ⟨m', hm, q⟩ s4 p4 m4
      exact ⟨m', hm, ρ4, F4, fp4, q, s4, pn.trans p4, mv1.trans m4⟩
  | false => exact kk.nx ρ1 σ' F1 H1 fp1 (q2 rfl) s1 .refl .refl
end
end Fr

set_option Elab.async false
set_option linter.all false
set_option maxRecDepth 100000
set_option maxHeartbeats 2000000
/-! Fr7: list comprehensions. -/
namespace Fr
open PySem PySem.Spec PyProof.Rows L2

/-- an object that no slot holds is written -/
theorem SR.updO {K : PySem.W.Frag} {F H : Hp} {σ : L2.St} {ρ : Rho} {fp : Nat → List Addr} (s : SR K F H σ ρ fp) {p : Addr} (hf : F p = none) (ho : ¬ own fp p) (o : HO) : SR K F (upd H p o) σ ρ fp := by
  refine s.mono (Ex.refl F) (fun a u h => ?_) (fun q hq => (s.owned hq).1) fun q hq => upd_ne fun z => ho (z ▸ hq)
  rw [upd_ne fun z => by rw [z, hf] at h; cases h]
  exact s.ex a u h
theorem Rep.updO {K : PySem.W.Frag} {F H : Hp} {v : V} {o : O} {S : List Addr} (r : Rep K F H v o S) {p : Addr} (hp : p ∉ S) (u : HO) : Rep K F (upd H p u) v o S :=
  r.mono (Ex.refl F) (fun q hq => (r.none q hq).1) fun q hq => upd_ne fun z => hp (z ▸ hq)
theorem Reps.updO {K : PySem.W.Frag} {F H : Hp} {vs : List V} {os : List O} {S : List Addr} (r : Reps K F H vs os S) {p : Addr} (hp : p ∉ S) (o : HO) : Reps K F (upd H p o) vs os S :=
  r.mono (Ex.refl F) (fun q hq => (r.none q hq).1) fun q hq => upd_ne fun z => hp (z ▸ hq)

def Ctx.blk (C : Ctx) (scope : Scope) : Ctx := { C with sc := relS scope C.sc, top := false }
theorem XIs.blk {C : Ctx} {X B : Cx} {scope : Scope} (hx : XIs C X) (hsu : C.su = none) (h : BlkIs X scope B) : XIs (C.blk scope) B := by
  obtain ⟨s, H, cl, Ca, fp, xe, rfl⟩ := h
  refine ⟨hx.P, hx.w, hx.K, hx.mg, hx.base, hx.N, hx.nd, ?_, fun _ => hx.rm hsu, fun _ => hx.calm hsu, hx.un, fun a c e => ?_, (by intro e; cases e), (by intro e; cases e)⟩
  · show relS scope X.env.scope = relS scope C.sc
    rw [hx.sc]
  · have e' : C.su = some (a, c) := e
    rw [hsu] at e'
    cases e'
def ETs (C : Ctx) (ifs : List Expr) (ρ : Rho) (k : Bool → Rho → Prop) (Ξ : Exc → Rho → Prop) : Prop := match ifs with
  | [] => k true ρ
  | [c] => ET C c ρ k Ξ
  | _ => False
theorem ETs.run {C : Ctx} {ifs : List Expr} {ρ : Rho} {k : Bool → Rho → Prop} {Ξ : Exc → Rho → Prop} (h : ETs C ifs ρ k Ξ) {X : Cx} (hx : XIs C X) {W : WX} (tk : Takes X W) {σ : L2.St} {F H : Hp} {fp : Nat → List Addr} (s : SR C.G.K F H σ ρ fp)
    (x : XP C.G W σ (own fp) F H Ξ) : wTs X ifs σ H (BP C.G.K σ (own fp) F H k) := by
  match ifs, h with
  | [], h => exact w_ts pts_nil ⟨ρ, F, fp, h, s, Mv.refl⟩
  | [c], h => exact w_ts (pts_one pt_w) (h X hx W tk σ F H fp s x)
theorem wTs.mono {X : Cx} {ifs : List Expr} {σ H} {Q Q' : Bool → Hp → Prop} (h : wTs X ifs σ H Q) (k : ∀ v H', Q v H' → Q' v H') : wTs X ifs σ H Q' := fun pins s I =>
  thn (h pins s I) fun _ _ ⟨H', I', q⟩ => ⟨H', I', k _ _ q⟩

theorem TGt.imp {C : Ctx} {tg : Expr} {sl : List Nat} {d : D} {ρ : Rho} {k k' : Rho → Prop} (h : TGt C tg sl d ρ k) (hk : ∀ ρ, k ρ → k' ρ) : TGt C tg sl d ρ k' := fun X hx hsu σ F H fp v s a =>
  (h X hx hsu σ F H fp v s a).mono fun _ _ ⟨e, ρ', fp', q, r⟩ => ⟨e, ρ', fp', hk _ q, r⟩
theorem ET.imp {C : Ctx} {c : Expr} {ρ : Rho} {Ξ : Exc → Rho → Prop} {k k' : Bool → Rho → Prop} (h : ET C c ρ k Ξ) (hk : ∀ b ρ, k b ρ → k' b ρ) : ET C c ρ k' Ξ := fun X hx W tk σ F H fp s x =>
  wT.mono (h X hx W tk σ F H fp s x) fun _ _ ⟨ρ', F', fp', q, r⟩ => ⟨ρ', F', fp', hk _ _ q, r⟩
section
variable {C : Ctx} {ρ : Rho} {Ξ Ξb : Exc → Rho → Prop} {elt tg iter : Expr} {ifs : List Expr} {scope : Scope} {vs sl : List Nat} {X : Cx} {W : WX} {σ : L2.St} {F H : Hp} {fp : Nat → List Addr} {Q : VK} {kk : List O → Rho → Prop}
/-- what a comprehension asks of its items -/
def LcAsk (C : Ctx) (scope : Scope) (tg elt : Expr) (ifs : List Expr) (sl vs : List Nat) (Ξb : Exc → Rho → Prop) (kk : List O → Rho → Prop) (ds : List D) (ρ1 : Rho) : Prop :=
  ds.length ≤ 16000000 ∧ ∃ Iv : Nat → List O → Rho → Prop, Iv 0 [] (wipeR ρ1 vs) ∧ (∀ i d acc ρ', ds[i]? = some d → Iv i acc ρ' → TGt (C.blk scope) tg sl d ρ' (fun ρ2 => ETs (C.blk scope) ifs ρ2 (fun b ρ3 =>
    (b = true → EV (C.blk scope) elt ρ3 (fun o ρ4 => Iv (i + 1) (acc ++ [o]) (wipeR ρ4 vs)) Ξb) ∧ (b = false → Iv (i + 1) acc (wipeR ρ3 vs))) Ξb)) ∧ ∀ acc ρ', Iv ds.length acc ρ' → kk acc (wipeR ρ' vs)
theorem lc_ask {W0 : WX} (hx : XIs C X) (hsu : C.su = none) (tk : Takes X W) (sr : SR C.G.K F H σ ρ fp) (x : XP C.G W σ (own fp) F H Ξ) (hsl : ∀ j ∈ sl, j ∈ vs)
    (hΞ : ∀ c ρ' F' H' fp' cls d, Ξb c ρ' → SR C.G.K F' H' σ (wipeR ρ' vs) fp' → XR C.G c cls d F' H' → Mv (own fp) F H (own fp') F' H' → W0 cls d σ H')
    (h : EI C tg iter ρ (LcAsk C scope tg elt ifs sl vs Ξb kk) Ξ)
    (hq : ∀ acc ρ' D F' H' fp' S, kk acc ρ' → SR C.G.K F' H' σ ρ' fp' → Rep C.G.K F' H' (.ref D) (.lst acc) S → (∀ q ∈ S, ¬ own fp' q) → Mv (own fp) F H (fun q => own fp' q ∨ q ∈ S) F' H' → Q (.ref D) H') :
    wI X tg iter σ H fun J H1 => ∀ D, H1 D = none → ∃ Wv : Nat → Nat → Hp → Prop, (∃ m, Wv 0 m (upd H1 D (.lst []))) ∧ ∀ i m H, Wv i m H →
      (J.stop i H ∧ Q (.ref D) H) ∨ (J.go i H ∧ ∃ Nx : Hp → Prop, (∀ H', Nx H' → ∃ m', m' < m ∧ Wv (i + 1) m' H') ∧ ∀ B, BlkIs X scope B → Takes B (fun cls d _ H' => W0 cls d σ H') → ∀ x H', J.yld i H x H' →
        wG B tg x (wipe σ vs) H' fun σ2 H2 => wipe σ2 vs = wipe σ vs ∧ wTs B ifs σ2 H2 fun b H3 =>
          if b = true then wE B elt σ2 H3 fun y H4 => ∃ acc, H4 D = some (.lst acc) ∧ acc.length < sizeLine ∧ Nx (upd H4 D (.lst (acc ++ [y]))) else Nx H3) := by
  intro pins st I
  refine thn (h X hx W tk σ F H fp sr x pins st I) fun v s1 h1 => thn h1 fun itv s2 h2 => ?_
  obtain ⟨it, fpi, tn, J, H2, e, I2, T, st2, f2, ds, ρ1, F1, fp1, ⟨hsz, Iv, iv0, turn, done⟩, sr1, m1, ok⟩ := h2
  refine ⟨it, fpi, tn, J, H2, e, I2, T, st2, f2, fun Dl hD => ?_⟩
  have hbl : (wipe σ vs).length = σ.length := wipe_length _ _
  have hF1 : F1 Dl = none := sr1.ex.free hD
  refine ⟨fun i m H' => m = ds.length - i ∧ i ≤ ds.length ∧ ∃ (acc : List O) (ρ' : Rho) (F' : Hp) (fp' : Nat → List Addr) (us : List V) (S : List Addr), Iv i acc ρ' ∧ SR C.G.K F' H' (wipe σ vs) ρ' fp' ∧ H' Dl = some (.lst us) ∧ F' Dl = none ∧ Reps C.G.K F' H' us acc S ∧ Dl ∉ S ∧
      (∀ q ∈ S, ¬ own fp' q) ∧ ¬ own fp' Dl ∧ Mv (own fp) F H (fun q => own fp' q ∨ q ∈ S ∨ q = Dl) F' H' ∧ Ex F1 F' ∧ acc.length ≤ i, ⟨_, rfl, Nat.zero_le _, [], _, F1, wipeF fp1 vs, [], [], iv0,
      (sr1.newO hD (.lst [])).wiped hbl (fun i hi => wipe_out hi), upd_same, hF1, .nil, by simp, fun _ z => (by cases z), fun z => own_ne sr1 hD (own_wipeF z) rfl, ?_, Ex.refl _, Nat.le_refl _⟩, ?_⟩
  · refine m1.trans ((Mv.newO hD (.lst [])).less fun q hq => ?_)
    rcases hq with z | z | z
    · exact .inl (own_wipeF z)
    · cases z
    · exact .inr z
  rintro i m H' ⟨hm, hi, acc, ρ', F', fp', us, S, iv, sr', hDl, hFl, rs, nDS, dS, nD, mv, ex, hal⟩
  by_cases hlt : i < ds.length
  · refine .inr ?_
    obtain ⟨d, hd⟩ : ∃ d, ds[i]? = some d := ⟨_, List.getElem?_eq_getElem hlt⟩
    obtain ⟨go, yld⟩ := (ok i F' H' ex sr'.ex).1 d hd
    refine ⟨go, fun H'' => i + 1 ≤ ds.length ∧ ∃ (acc : List O) (ρ' : Rho) (F' : Hp) (fp' : Nat → List Addr) (us : List V) (S : List Addr), Iv (i + 1) acc ρ' ∧ SR C.G.K F' H'' (wipe σ vs) ρ' fp' ∧ H'' Dl = some (.lst us) ∧ F' Dl = none ∧ Reps C.G.K F' H'' us acc S ∧ Dl ∉ S ∧
      (∀ q ∈ S, ¬ own fp' q) ∧ ¬ own fp' Dl ∧ Mv (own fp) F H (fun q => own fp' q ∨ q ∈ S ∨ q = Dl) F' H'' ∧ Ex F1 F' ∧ acc.length ≤ i + 1, fun H'' w => ⟨ds.length - (i + 1), by omega, rfl, w⟩, ?_⟩
    intro B hB tkB y H'' hy
    obtain ⟨F'', ax, g⟩ := yld y H'' hy
    have hxB := hx.blk hsu hB
    have sr2 := g.sr sr'
    have rs2 := rs.along (g.mv (A := own fp')) dS
    have hDl2 : H'' Dl = some (.lst us) := (g.2.2 _ _ hDl).1
    have hFl2 : F'' Dl = none := by rw [(g.2.2 _ _ hDl).2]; exact hFl
    refine (turn i d acc ρ' hd iv B hxB hsu (wipe σ vs) F'' H'' fp' y sr2 ax).mono fun σ2 H3 ⟨eh, ρ2, fp2, q2, s3, m3, l3, n3⟩ => ?_
    subst eh
    have hoff : ∀ j, j ∉ vs → σ2[j]? = σ[j]? := fun j hj => by
      rw [n3 j fun z => hj (hsl j z), wipe_out hj]
    have hlen : σ2.length = σ.length := l3.trans hbl
    have hw2 : wipe σ2 vs = wipe σ vs := wipe_congr hlen hoff
    refine ⟨hw2, ?_⟩
    have xB : XP C.G (fun cls d _ H' => W0 cls d σ H') σ2 (own fp2) F'' H3 Ξb := fun c ρ5 F5 H5 fp5 cls d q5 s5 xr m5 => by
      refine hΞ c ρ5 F5 H5 (wipeF fp5 vs) cls d q5 (s5.wiped hlen.symm fun j hj => (hoff j hj).symm) xr ?_
      have mA : Mv (own fp) F H (own fp2) F'' H3 := (mv.trans g.mv).less fun q hq => .inl (m3 q hq)
      exact (mA.trans m5).less fun q hq => own_wipeF hq
    have back : ∀ {F5 H5 : Hp} {fp5 : Nat → List Addr} {B5 : Addr → Prop}, Mv (own fp2) F'' H3 B5 F5 H5 → (∀ q, own fp5 q → B5 q) → Reps C.G.K F5 H5 us acc S ∧ H5 Dl = some (.lst us) ∧ F5 Dl = none ∧ ¬ own fp5 Dl ∧ (∀ q ∈ S, ¬ own fp5 q) ∧ (∀ q ∈ S, ¬ B5 q) ∧ ¬ B5 Dl := fun {F5 H5 fp5 B5} m5 hb => by
      have d2 : ∀ q ∈ S, ¬ own fp2 q := fun q hq z => dS q hq (m3 q z)
      have nD2 : ¬ own fp2 Dl := fun z => nD (m3 _ z)
      have offS := m5.off d2 fun q hq => (rs2.none q hq).2
      have offD : ¬ B5 Dl := fun z => by
        rcases m5.new _ z with w | w
        · exact nD2 w
        · rw [hDl2] at w; cases w
      obtain ⟨a1, a2⟩ := m5.keep _ _ hDl2 nD2
      exact ⟨rs2.along m5 d2, a1, by rw [a2]; exact hFl2, fun z => offD (hb _ z), fun q hq z => offS q hq (hb _ z), offS, offD⟩
    refine wTs.mono (q2.run hxB tkB s3 xB) fun b H5 ⟨ρ5, F5, fp5, ⟨hy5, hn5⟩, s5, m5⟩ => ?_
    cases b with
    | false =>
      obtain ⟨r5, e5, f5, o5, d5, _, _⟩ := back m5 (fp5 := fp5) fun _ z => z
      refine ⟨hlt, acc, _, F5, wipeF fp5 vs, us, S, hn5 rfl, s5.wiped (by rw [hbl, hlen]) (fun j hj => by rw [wipe_out hj, hoff j hj]), e5, f5, r5, nDS, fun q hq z => d5 q hq (own_wipeF z), fun z => o5 (own_wipeF z), ?_, (ex.trans g.1).trans m5.ef, Nat.le_succ_of_le hal⟩
      refine (mv.trans g.mv).trans ⟨m5.ef, fun q o hq hn => m5.keep q o hq fun z => hn (.inl (m3 q z)), fun q hq => ?_⟩
      rcases hq with z | z | z
      · exact (m5.new q (own_wipeF z)).imp (fun w => .inl (m3 q w)) id
      · exact .inl (.inr (.inl z))
      · exact .inl (.inr (.inr z))
    | true =>
      rw [if_pos rfl]
      refine ((hy5 rfl) B hxB _ tkB σ2 F5 H5 fp5 s5 (xB.along m5)).mono fun y6 H6 ⟨o6, ρ6, F6, fp6, S6, q6, s6, r6, d6, m6⟩ => ?_
      have m56 := m5.trans m6
      obtain ⟨r7, e7, f7, o7, d7, offS, offD⟩ := back m56 (fp5 := fp6) fun _ z => .inl z
      have nD6 : Dl ∉ S6 := fun z => offD (.inr z)
      have hal' : us.length = acc.length := r7.length
      refine ⟨us, e7, ?_, hlt, acc ++ [o6], _, F6, wipeF fp6 vs, us ++ [y6], S ++ (S6 ++ []), q6, ?_, upd_same, f7, ?_, ?_, ?_, fun z => o7 (own_wipeF z), ?_, (ex.trans g.1).trans m56.ef, ?_⟩
      · rw [hal']; have : ds.length ≤ 16000000 := hsz; have : (16000000 : Nat) < sizeLine := by decide
        omega
      · exact (s6.updO f7 (fun z => o7 z) _).wiped (by rw [hbl, hlen]) (fun j hj => by rw [wipe_out hj, hoff j hj])
      · exact (r7.updO nDS _).append (.cons (Rep.updO r6 nD6 _) .nil (fun _ _ z => by cases z)) (fun q hq z => by
          rcases List.mem_append.mp z with w | w
          · exact offS q hq (.inr w)
          · cases w)
      · intro z
        rcases List.mem_append.mp z with w | w
        · exact nDS w
        · rw [List.append_nil] at w; exact nD6 w
      · intro q hq z
        rcases List.mem_append.mp hq with w | w
        · exact d7 q w (own_wipeF z)
        · rw [List.append_nil] at w; exact d6 q w (own_wipeF z)
      · refine (mv.trans g.mv).trans ⟨m56.ef, fun q o hq hn => ?_, fun q hq => ?_⟩
        · have hne : q ≠ Dl := fun z => hn (.inr (.inr z))
          rw [upd_ne hne]
          exact m56.keep q o hq fun z => hn (.inl (m3 q z))
        · rcases hq with z | z | z
          · exact (m56.new q (.inl (own_wipeF z))).imp (fun w => .inl (m3 q w)) id
          · rcases List.mem_append.mp z with w | w
            · exact .inl (.inr (.inl w))
            · rw [List.append_nil] at w
              exact (m56.new q (.inr w)).imp (fun w => .inl (m3 q w)) id
          · exact .inl (.inr (.inr z))
      · rw [List.length_append]; exact Nat.add_le_add_right hal 1
  · have ei : i = ds.length := by omega
    subst ei
    refine .inl ⟨(ok _ F' H' ex sr'.ex).2 (Nat.le_refl _), ?_⟩
    refine hq acc (wipeR ρ' vs) Dl F' H' (wipeF fp' vs) (Dl :: S) (done acc ρ' iv) (sr'.wiped hbl.symm fun j hj => (wipe_out hj).symm) (.lst hDl hFl nDS rs) (fun q hq z => ?_) (mv.less fun q hq => ?_)
    · rcases List.mem_cons.mp hq with w | w
      · subst w
        exact nD (own_wipeF z)
      · exact dS q w (own_wipeF z)
    · rcases hq with z | z
      · exact .inl (own_wipeF z)
      · rcases List.mem_cons.mp z with w | w
        · exact .inr (.inr w)
        · exact .inr (.inl w)
end
section
variable {C : Ctx} {ρ : Rho} {Ξ : Exc → Rho → Prop} {elt tg iter : Expr} {ifs : List Expr} {scope : Scope} {sl : List Nat} {pos : Pos} {k : O → Rho → Prop} {P : List Nat} {Φ : Fl → Rho → Prop}
theorem XIs.bok {X : Cx} {own : List (Str × Nat)} (hx : XIs C X) (ok : blkC C.N C.sc scope own = true) : BlkOk X.N X.env.scope scope own := by
  rw [hx.N, hx.sc]
  exact blkOk_by ok
theorem ev_lc (own : List (Str × Nat))
    (h : EI C tg iter ρ (LcAsk C scope tg elt ifs sl (own.map (·.2)) (fun c ρ' => Ξ c (wipeR ρ' (own.map (·.2)))) (fun acc ρ' => k (.lst acc) ρ')) Ξ)
    (hsl : ∀ j ∈ sl, j ∈ own.map (·.2) := by decide) (ok : blkC C.N C.sc scope own = true := by kernel_rfl) (ht : C.top = true := by rfl) (hsu : C.su = none := by rfl) (hs : ∀ env x, foldedSetIterable iter env x = pure x := by intro _ _; rfl) : EV C (.ListComp elt [⟨tg, iter, ifs, 0⟩] scope pos) ρ k Ξ := by
  intro X hx W tk σ F H fp s x pins st I
  rw [eval_ListComp]
  refine lc_coreX (W := W) (own := own) (.inl ⟨tk, hx.top ht⟩) (hx.calm hsu) hx.nd I (hx.bok ok) (hs _)
    (lc_ask (kk := fun acc ρ' => k (.lst acc) ρ') (Ξb := fun c ρ' => Ξ c (wipeR ρ' (own.map (·.2)))) (W0 := W) (Q := VP C.G.K σ (Fr.own fp) F H k) hx hsu tk s x hsl (fun c ρ' F' H' fp' cls d q s' xr m => x c _ F' H' fp' cls d q s' xr m) h
      fun acc ρ' D F' H' fp' S q s' r d m => ⟨.lst acc, ρ', F', fp', S, q, s', r, d, m⟩) ?_
  intro D C' s' m H' I' q hn f
  refine ⟨m, hn, fun h'' sb => ?_⟩
  obtain ⟨f0, f1, f2, f3, f4, f5⟩ := f
  exact ⟨.ref D, H', I'.turned (t' := s'.toks) (fun b o hb e => (sb.2 b hb).trans e) f0 f1 f3 f4 f5, rfl, q⟩
theorem ev_lcN (own : List (Str × Nat))
    (h : EI C tg iter ρ (LcAsk C scope tg elt ifs sl (own.map (·.2)) (fun _ _ => False) (fun acc ρ' => k (.lst acc) ρ')) Ξ)
    (hsl : ∀ j ∈ sl, j ∈ own.map (·.2) := by decide) (ok : blkC C.N C.sc scope own = true := by kernel_rfl) (hsu : C.su = none := by rfl) (hs : ∀ env x, foldedSetIterable iter env x = pure x := by intro _ _; rfl) : EV C (.ListComp elt [⟨tg, iter, ifs, 0⟩] scope pos) ρ k Ξ := by
  intro X hx W tk σ F H fp s x pins st I
  rw [eval_ListComp]
  refine lc_coreX (W := fun _ _ _ _ => False) (own := own) (.inr fun _ _ _ _ z => z) (hx.calm hsu) hx.nd I (hx.bok ok) (hs _)
    (lc_ask (kk := fun acc ρ' => k (.lst acc) ρ') (Ξb := fun _ _ => False) (W0 := fun _ _ _ _ => False) (Q := VP C.G.K σ (Fr.own fp) F H k) hx hsu tk s x hsl (fun c ρ' F' H' fp' cls d q _ _ _ => q) h
      fun acc ρ' D F' H' fp' S q s' r d m => ⟨.lst acc, ρ', F', fp', S, q, s', r, d, m⟩) ?_
  intro D C' s' m H' I' q hn f
  refine ⟨m, hn, fun h'' sb => ?_⟩
  obtain ⟨f0, f1, f2, f3, f4, f5⟩ := f
  exact ⟨.ref D, H', I'.turned (t' := s'.toks) (fun b o hb e => (sb.2 b hb).trans e) f0 f1 f3 f4 f5, rfl, q⟩
/-- name = [..], the name a local -/
theorem s_setLc {i : Nat} {y : Str} {py spos : Pos} (own : List (Str × Nat))
    (h : EI C tg iter ρ (LcAsk C scope tg elt ifs sl (own.map (·.2)) (fun c ρ' => Φ (.exc c) (wipeR ρ' (own.map (·.2)))) (fun acc ρ' => Φ .nx (ρ'.set i (some (.lst acc))))) (fun c ρ1 => Φ (.exc c) ρ1))
    (hP : i ∉ P := by decide) (hN : C.N[i]? = some y := by rfl) (hl : C.sc.names.lookup y = some .local := by rfl) (hk : C.sc.kind = .function := by rfl) (hln : (py.line == pos.line) = true := by rfl)
    (ha : (scope.names.any fun (n, k) => n == y && (k == .local || k == .cell)) = false := by decide +kernel)
    (hsl : ∀ j ∈ sl, j ∈ own.map (·.2) := by decide) (ok : blkC C.N C.sc scope own = true := by kernel_rfl) (ht : C.top = true := by rfl) (hsu : C.su = none := by rfl) (hs : ∀ env x, foldedSetIterable iter env x = pure x := by intro _ _; rfl) :
    S1 C P (.Assign [.Name y py] (.ListComp elt [⟨tg, iter, ifs, 0⟩] scope pos) spos) ρ Φ := by
  intro X hx W tk po σ F H fp D s k pins st I
  have hyl : X.env.scope.names.lookup y = some .local := by rw [hx.sc]; exact hl
  rw [exec_Assign_Name_used _ _ _ _ (sw_true (by rw [hx.sc]; exact hk) hyl hln ha)]
  refine wpAny_bind (wpAny_standAt (wpAny_bind ?_))
  show wpAny _ X.A (do let _ ← comprehension (.ListComp elt [⟨tg, iter, ifs, 0⟩] scope pos) scope X.env (firstIterPos [⟨tg, iter, ifs, 0⟩] pos) (newList []) false (eval iter X.env) (some (assign (.Name y py) X.env))) _ _ st
  refine wpAny_bind (thn (lc_coreX (W := W) (own := own) (Q := fun v H' => D.nx (σ.set i (some v)) H') (Qf := fun _ s' => SP X pins D .next s') (.inl ⟨tk, hx.top ht⟩) (hx.calm hsu) hx.nd I (hx.bok ok) (hs _)
    (lc_ask (kk := fun acc ρ' => Φ .nx (ρ'.set i (some (.lst acc)))) (Ξb := fun c ρ' => Φ (.exc c) (wipeR ρ' (own.map (·.2)))) (W0 := W) (Q := fun v H' => D.nx (σ.set i (some v)) H') hx hsu tk s k.xp hsl (fun c ρ' F' H' fp' cls d q s' xr m => k.xp c _ F' H' fp' cls d q s' xr m) h
      fun acc ρ' Dl F' H' fp' S q s' r d m => ?_) fun L C' s' m H' I' q hn f => ?_) fun _ s' hq => wpAny_pure (wpAny_pure hq))
  · obtain ⟨fp2, s2, m2⟩ := s'.store r d i
    refine k.nx _ _ F' H' fp2 q s2 (fun j hj => ?_) (m.less m2)
    rw [List.getElem?_set_ne (fun z => hP (by rw [z]; exact hj))]
  show wpAny _ _ (assign (.Name y py) X.env (.ref L)) _ _ _
  refine wpAny_assign_Name (store_ok2 (v := V.ref L) I' hx.nd (by rw [hx.N]; exact hN) (.inl hyl) rfl (fun s2 I2 ⟨a, sb, ha⟩ => ?_) (.inr hyl))
  obtain ⟨f0, f1, f2, f3, f4, f5⟩ := f
  have haC : C' ≠ a := by
    rcases ha with z | z
    · rw [z]; exact f1
    · exact fun e => f4 y a z e.symm
  refine ⟨m, hn.sameBut sb haC, fun h3 sb3 => ?_⟩
  exact ⟨_, H', I2.turned (t' := s2.toks) (fun b o hb e => (sb3.2 b hb).trans e) f0 f1 f3 f4 f5, q⟩
theorem ets_nil {k : Bool → Rho → Prop} (h : k true ρ) : ETs C [] ρ k Ξ := h
theorem ets_one {c : Expr} {k : Bool → Rho → Prop} (h : ET C c ρ k Ξ) : ETs C [c] ρ k Ξ := h
/-- each item by f, nothing else -/
theorem lc_map {vs : List Nat} {Ξb : Exc → Rho → Prop} {kk : List O → Rho → Prop} {ds : List D} {ρ1 : Rho} (f : D → O) (hl : ds.length ≤ 16000000)
    (turn : ∀ d ∈ ds, TGt (C.blk scope) tg sl d (wipeR ρ1 vs) (fun ρ2 => EV (C.blk scope) elt ρ2 (fun o ρ4 => o = f d ∧ wipeR ρ4 vs = wipeR ρ1 vs) Ξb)) (done : kk (ds.map f) (wipeR (wipeR ρ1 vs) vs)) : LcAsk C scope tg elt [] sl vs Ξb kk ds ρ1 := by
  refine ⟨hl, fun i acc ρ' => acc = (ds.take i).map f ∧ ρ' = wipeR ρ1 vs, ⟨by simp, rfl⟩, ?_, ?_⟩
  · rintro i d acc ρ' hd ⟨ea, er⟩
    subst ea er
    refine TGt.imp (turn d (List.mem_of_getElem? hd)) fun ρ2 h2 => ets_nil ⟨fun _ => h2.mono fun o ρ4 ⟨e1, e2⟩ => ⟨?_, e2⟩, fun z => by cases z⟩
    subst e1
    rw [List.take_succ, hd]
    simp
  · rintro acc ρ' ⟨ea, er⟩
    subst ea er
    rw [List.take_length]
    exact done
/-- each item by f, where f says none the element raises -/
theorem lc_try {vs : List Nat} {Ξb : Exc → Rho → Prop} {kk : List O → Rho → Prop} {ds : List D} {ρ1 : Rho} (f : D → Option O) (hl : ds.length ≤ 16000000)
    (turn : ∀ d ∈ ds, TGt (C.blk scope) tg sl d (wipeR ρ1 vs) (fun ρ2 => EV (C.blk scope) elt ρ2 (fun o ρ4 => f d = some o ∧ wipeR ρ4 vs = wipeR ρ1 vs) Ξb)) (done : ∀ acc, ds.map f = acc.map some → kk acc (wipeR (wipeR ρ1 vs) vs)) : LcAsk C scope tg elt [] sl vs Ξb kk ds ρ1 := by
  refine ⟨hl, fun i acc ρ' => (ds.take i).map f = acc.map some ∧ ρ' = wipeR ρ1 vs, ⟨by simp, rfl⟩, ?_, ?_⟩
  · rintro i d acc ρ' hd ⟨ea, er⟩
    subst er
    refine TGt.imp (turn d (List.mem_of_getElem? hd)) fun ρ2 h2 => ets_nil ⟨fun _ => h2.mono fun o ρ4 ⟨e1, e2⟩ => ⟨?_, e2⟩, fun z => by cases z⟩
    rw [List.take_succ, hd, List.map_append, ea]
    simp [e1]
  · rintro acc ρ' ⟨ea, er⟩
    subst er
    rw [List.take_length] at ea
    exact done acc ea
/-- those that p takes, by f -/
theorem lc_filter {c : Expr} {vs : List Nat} {Ξb : Exc → Rho → Prop} {kk : List O → Rho → Prop} {ds : List D} {ρ1 : Rho} (p : D → Bool) (f : D → O) (hl : ds.length ≤ 16000000)
    (turn : ∀ d ∈ ds, TGt (C.blk scope) tg sl d (wipeR ρ1 vs) (fun ρ2 => ET (C.blk scope) c ρ2 (fun b ρ3 => b = p d ∧ wipeR ρ3 vs = wipeR ρ1 vs ∧ (p d = true → EV (C.blk scope) elt ρ3 (fun o ρ4 => o = f d ∧ wipeR ρ4 vs = wipeR ρ1 vs) Ξb)) Ξb)) (done : kk ((ds.filter p).map f) (wipeR (wipeR ρ1 vs) vs)) :
    LcAsk C scope tg elt [c] sl vs Ξb kk ds ρ1 := by
  refine ⟨hl, fun i acc ρ' => acc = ((ds.take i).filter p).map f ∧ ρ' = wipeR ρ1 vs, ⟨by simp, rfl⟩, ?_, ?_⟩
  · rintro i d acc ρ' hd ⟨ea, er⟩
    subst ea er
    refine TGt.imp (turn d (List.mem_of_getElem? hd)) fun ρ2 h2 => ets_one (ET.imp h2 fun b ρ3 ⟨e1, e2, e3⟩ => ⟨fun hb => ?_, fun hb => ⟨?_, e2⟩⟩)
    · subst e1
      refine (e3 hb).mono fun o ρ4 ⟨e4, e5⟩ => ⟨?_, e5⟩
      subst e4
      rw [List.take_succ, hd]
      simp [List.filter_append, hb]
    · subst e1
      rw [List.take_succ, hd]
      simp [List.filter_append, hb]
  · rintro acc ρ' ⟨ea, er⟩
    subst ea er
    rw [List.take_length]
    exact done
end
end Fr

set_option Elab.async false
set_option linter.all false
set_option maxRecDepth 100000
set_option maxHeartbeats 2000000
/-! Fr8: a def keeps its spec; the law's end. -/
namespace Fr
open PySem PySem.Spec PyProof.Rows L2

def NoF {K : PySem.W.Frag} : Nat → List Addr := fun _ => []
def shF (S : List Addr) (fp : Nat → List Addr) : Nat → List Addr
  | 0 => S
  | n + 1 => fp n
/-- the slots of a def's start -/
theorem SR.start {K : PySem.W.Frag} {F H : Hp} (ex : Ex F H) : ∀ {vs : List V} {os : List O} {S : List Addr} (n : Nat), Reps K F H vs os S →
    ∃ fp, SR K F H (vs.map some ++ List.replicate n none) (os.map some ++ List.replicate n none) fp ∧ ∀ q, own fp q → q ∈ S
  | _, _, _, n, .nil => ⟨fun _ => [], ⟨by simp, ex, fun i o h => by
      simp only [List.map_nil, List.nil_append, List.getElem?_replicate] at h
      split at h <;> (cases h), fun _ _ => rfl, fun _ _ _ _ h => (by cases h)⟩, fun q ⟨j, h⟩ => (by cases h)⟩
  | _, _, _, n, @Reps.cons _ _ _ v vs o os S T r t d => by
    obtain ⟨fp, s, m⟩ := SR.start ex n t
    refine ⟨shF S fp, ⟨by have := s.len; simpa using this, ex, fun i o' h => ?_, fun i h => ?_, fun a b hab q hq hq' => ?_⟩, fun q ⟨j, h⟩ => ?_⟩
    · cases i with
      | zero =>
        have e : o = o' := by simpa using h
        subst e
        exact ⟨v, by simp, r⟩
      | succ i =>
        obtain ⟨w, e, r'⟩ := s.slot i o' (by simpa using h)
        exact ⟨w, by simpa using e, r'⟩
    · cases i with
      | zero => exact absurd (by simp) (h o)
      | succ i => exact s.nil i fun o' z => h o' (by simpa using z)
    · cases a with
      | zero =>
        cases b with
        | zero => exact hab rfl
        | succ b => exact d q hq (m q ⟨b, hq'⟩)
      | succ a =>
        cases b with
        | zero => exact d q hq' (m q ⟨a, hq⟩)
        | succ b => exact s.dis a b (fun e => hab (by rw [e])) q hq hq'
    · cases j with
      | zero => exact List.mem_append_left _ h
      | succ j => exact List.mem_append_right _ (m q ⟨j, h⟩)
/-- the arguments as they are at a def's end: frozen ones stay, the others are read from the pinned slots P -/
def Outs (P : List Nat) (ρ : Rho) : Nat → List O → List O → Prop
  | _, [], [] => True
  | j, o :: os, o' :: os' => ((∃ d, o = .fz d ∧ o' = .fz d) ∨ (j ∈ P ∧ ρ[j]? = some (some o'))) ∧ Outs P ρ (j + 1) os os'
  | _, _, _ => False
def retΦ (P : List Nat) (os : List O) (k : O → List O → Prop) (Ξ : Exc → List O → Prop) : Fl → Rho → Prop
  | .nx, ρ => ∃ os', Outs P ρ 0 os os' ∧ k (.fz .non) os'
  | .ret o, ρ => ∃ os', Outs P ρ 0 os os' ∧ k o os'
  | .exc c, ρ => ∃ os', Outs P ρ 0 os os' ∧ Ξ c os'
  | _, _ => False
theorem Outs.reps {K : PySem.W.Frag} {F H F' H' : Hp} {σ' : L2.St} {ρ' : Rho} {fp' : Nat → List Addr} {P : List Nat} (s : SR K F' H' σ' ρ' fp') (ef : Ex F F') : ∀ {vs : List V} {os os' : List O} {S : List Addr} (j : Nat), Reps K F H vs os S → Outs P ρ' j os os' →
    (∀ i v, i + j ∈ P → vs[i]? = some v → σ'[i + j]? = some (some v)) → ∃ A', Reps K F' H' vs os' A' ∧ ∀ q ∈ A', ∃ i, j ≤ i ∧ q ∈ fp' i
  | _, _, [], _, j, .nil, _, _ => ⟨[], .nil, fun q h => by cases h⟩
  | _, _, _ :: _, _, j, .nil, h, _ => h.elim
  | _, _, [], _, j, .cons _ _ _, h, _ => h.elim
  | _, _, o' :: os', _, j, @Reps.cons _ _ _ v vs o os S T r t d, ⟨h1, h2⟩, hp => by
    obtain ⟨A2, r2, m2⟩ := Outs.reps s ef (j + 1) t h2 fun i w hi e => by
      have := hp (i + 1) w (by rw [Nat.add_right_comm]; exact hi) (by simpa using e)
      rw [Nat.add_right_comm] at this
      exact this
    rcases h1 with ⟨dd, e1, e2⟩ | ⟨hj, e⟩
    · subst e1 e2
      refine ⟨A2, ?_, fun q hq => ?_⟩
      · exact Reps.cons (S := []) (.fz (r.at_fz.mono ef)) r2 (fun _ z => by cases z)
      · obtain ⟨i, h, h'⟩ := m2 q hq
        exact ⟨i, by omega, h'⟩
    · obtain ⟨w, ew, rw'⟩ := s.slot j o' e
      have := hp 0 v (by rw [Nat.zero_add]; exact hj) rfl
      rw [Nat.zero_add, ew] at this
      cases this
      refine ⟨fp' j ++ A2, .cons rw' r2 fun q hq hm => ?_, fun q hq => ?_⟩
      · obtain ⟨i, h, h'⟩ := m2 q hm
        exact s.dis j i (by omega) q hq h'
      · rcases List.mem_append.mp hq with z | z
        · exact ⟨j, Nat.le_refl _, z⟩
        · obtain ⟨i, h, h'⟩ := m2 q z
          exact ⟨i, by omega, h'⟩
theorem hr_un {lv : Nat} {A : Around} (hr : Room lv A) : A.units + 64 < cLine := by have := hr.un; omega
/-- THE RULE for a def -/
theorem fn_def {G : Gx} {x qual : Str} {params : Arguments} {body : List Stmt} {scope : Scope} {f : Addr} {fd : FuncData} {ps N : List Str} {lv : Nat} {dv : List V} {S : FSpec} {P : List Nat}
    (F : FunD G.K x qual params body scope dv [] f fd) (sc : FnScope N ps scope) 
    (hS : ∀ os k Ξ, S os k Ξ → os.length = ps.length ∧ SV { G := G, lv := lv, N := N, sc := scope, top := true } P body (os.map some ++ List.replicate (N.length - os.length) none) (retΦ P os k Ξ)) : FnOk G.P G.w G.K G.mg G.base (L2.CX G.P G.w) (lv + 1) f fd ps (spOf G S) := by
  refine FunD.ok F sc (fun vs H Q E h => ?_) fun cdv A outer s H vs Q E hr h => ?_
  · obtain ⟨os, F0, A0, k, Ξ, _, r, h1, _⟩ := h
    rw [r.length]
    exact (hS os k Ξ h1).1
  · obtain ⟨os, F0, A0, k, Ξ, ex, r, h1, hQ, hE⟩ := h
    obtain ⟨hl, hv⟩ := hS os k Ξ h1
    refine ⟨_, pss_w, ?_⟩
    have hlen : vs.length = os.length := r.length
    obtain ⟨fp, s0, m0⟩ := SR.start ex (N.length - vs.length) r
    have hx : XIs { G := G, lv := lv, N := N, sc := scope, top := true } (cxOf (L2.CX G.P G.w) G.P G.w G.K G.mg G.base N qual scope f cdv A outer s H E) :=
      ⟨rfl, rfl, rfl, rfl, rfl, rfl, sc.nd, rfl, fun _ => hr, fun _ => rfl, hr_un hr, (by intro a c e; cases e), fun _ => ⟨rfl, rfl⟩, fun _ x => rfl⟩
    refine hv _ hx (fun cls d _ H => E cls d H) (L2.takes_of rfl rfl rfl rfl) (L2.passes_of rfl) _ F0 H fp _ (by rw [← hlen]; exact s0) ?_
    have fin : ∀ {σ' : L2.St} {ρ' : Rho} {F' H' : Hp} {fp' : Nat → List Addr} {os' : List O}, SR G.K F' H' σ' ρ' fp' → Ex F0 F' → Pin P (L2.start N vs) σ' → Outs P ρ' 0 os os' → ∃ A', Reps G.K F' H' vs os' A' ∧ ∀ q ∈ A', own fp' q := fun {σ' ρ' F' H' fp' os'} s' ef p o => by
      obtain ⟨A', r', m'⟩ := Outs.reps s' ef 0 r o fun i v hi e => by
        rw [p _ hi]
        unfold L2.start
        rw [Nat.add_zero, List.getElem?_append_left (by rw [List.length_map]; exact (List.getElem?_eq_some_iff.mp e).1), List.getElem?_map, e]
        rfl
      exact ⟨A', r', fun q hq => let ⟨i, _, h⟩ := m' q hq; ⟨i, h⟩⟩
    have base : ∀ {B : Addr → Prop} {F' H' : Hp}, Mv (own fp) F0 H B F' H' → Mv (· ∈ A0) F0 H B F' H' := fun m => m.more m0
    refine ⟨?_, ?_, fun _ _ _ _ _ z => z.elim, fun _ _ _ _ _ z => z.elim, ?_⟩
    · rintro c ρ' σ' F' H' fp' cls d ⟨os', o, q⟩ s' p xr m
      obtain ⟨A', r', ma⟩ := fin s' m.ef p o
      exact hE c os' cls d F' H' A' q s'.ex r' xr ((base m).less ma)
    · rintro ρ' σ' F' H' fp' ⟨os', o, q⟩ s' p m
      obtain ⟨A', r', ma⟩ := fin s' m.ef p o
      exact hQ _ os' _ F' H' A' [] q s'.ex r' (.fz .non) (fun _ z => by cases z) ((base m).less fun q hq => hq.elim (ma q) fun z => by cases z)
    · rintro o0 ρ' σ' v F' H' fp' T ⟨os', o, q⟩ s' p rv dv m
      obtain ⟨A', r', ma⟩ := fin s' m.ef p o
      exact hQ _ os' _ F' H' A' T q s'.ex r' rv (fun q hq z => dv q hq (ma q z)) ((base m).less fun q hq => hq.elim (fun z => .inl (ma q z)) .inr)
theorem fok_def {G : Gx} {x qual : Str} {params : Arguments} {body : List Stmt} {scope : Scope} {f : Addr} {fd : FuncData} {ps N : List Str} {lv : Nat} {dvs : List D} {dv : List V} {S : FSpec} {P : List Nat}
    (F : FunD G.K x qual params body scope dv [] f fd) (sc : FnScope N ps scope) (hm : G.mg x = some (.ref f)) (hb : ∃ ds, Vals dv ds ∧ Binds G.K fd ps ds) (hdv : ∀ F, AtL G.K F dv dvs)
    (hS : ∀ os k Ξ, S os k Ξ → os.length = ps.length ∧ SV { G := G, lv := lv, N := N, sc := scope, top := true } P body (os.map some ++ List.replicate (N.length - os.length) none) (retΦ P os k Ξ)) : FOK G (lv + 1) x dvs S := by
  obtain ⟨ds, hd, hb⟩ := hb
  exact ⟨f, fd, ps, ds, dv, lv + 1, hm, F.kp, hb, hd, hdv, Nat.le_refl _, fn_def F sc hS⟩
end Fr

set_option Elab.async false
set_option linter.all false
set_option maxRecDepth 100000
set_option maxHeartbeats 2000000
/-! Fr9: raise, try, isinstance of a caught error. -/
namespace Fr
open PySem PySem.Spec PyProof.Rows L2

/-- an own error class without fields, X('m') -/
def ExcK (G : Gx) (x : Str) : Prop := ∃ a, G.mg x = some (.ref a) ∧ PySem.W.excIn G.K a He.veBase "ValueError.__new__" = true ∧ PySem.W.keepIn G.K (.ref a) = true ∧ PySem.W.subIn G.K (.ref a) (.type "BaseException") = some true ∧ PySem.W.typeIn G.K (.ref a) = some (.type "type")
/-- does the clause 'except x' take an error of class c -/
def Hnd (G : Gx) (c x : Str) (b : Bool) : Prop := ∃ a cx, G.mg c = some (.ref a) ∧ G.mg x = some (.ref cx) ∧ PySem.W.exmOne G.K (.ref a) (.ref cx) = some b
/-- isinstance(e, x), e of class c -/
def IsE (G : Gx) (c x : Str) (b : Bool) : Prop := ∃ a cx, G.mg c = some (.ref a) ∧ G.mg x = some (.ref cx) ∧ ExcC G.K a ∧ PySem.W.kitOne G.K (.ref a) (.ref cx) = some b
theorem SR.slots {K : PySem.W.Frag} {F H : Hp} {σ σ' : L2.St} {ρ : Rho} {fp : Nat → List Addr} (s : SR K F H σ ρ fp) (hl : σ'.length = σ.length) (h : ∀ (j : Nat) (o : O), ρ[j]? = some (some o) → σ'[j]? = σ[j]?) : SR K F H σ' ρ fp :=
  ⟨by rw [hl]; exact s.len, s.ex, fun i o e => by
    obtain ⟨v, e1, r⟩ := s.slot i o e
    exact ⟨v, by rw [h i o e]; exact e1, r⟩, s.nil, s.dis⟩
theorem SR.gone {K : PySem.W.Frag} {F H : Hp} {σ : L2.St} {ρ : Rho} {fp : Nat → List Addr} (s : SR K F H σ ρ fp) (i : Nat) : SR K F H (σ.set i none) (ρ.set i none) (wo fp i) :=
  (s.drop i).slots List.length_set fun j o e => by
    rcases set_get e with ⟨_, z⟩ | ⟨hn, _⟩
    · cases z
    · rw [List.getElem?_set_ne hn]
section
variable {C : Ctx} {P : List Nat} {ρ : Rho} {Φ : Fl → Rho → Prop} {body suite : List Stmt} {b₀ : Stmt}
theorem s_raise {x m : Str} {j : Nat} {p p2 p3 pos : Pos} (ek : ExcK C.G x) (h : Φ (.exc { name := x }) ρ) (hsu : C.su = none := by rfl) (hg : C.sc.names.lookup x = some .globalImplicit := by rfl) (hdb : (x == ("__debug__" : Str)) = false := by decide) :
    S1 C P (.Raise (some (.Call (.Name x p) [.Constant (.str m) j p2] [] p3)) none pos) ρ Φ := by
  intro X hx W tk po σ F H fp D s k
  obtain ⟨a, gm, hin, kp, hsub, hty⟩ := ek
  refine w_s (L2.ps_raise (hx.calm hsu) tk (L2.pmk_own PySem.F.excBase_ValueError (by rw [hx.K]; exact hin) (by rw [hx.mg]; exact gm) (by rw [hx.K]; exact kp) (raises_own (by rw [hx.K]; exact hsub) (by rw [hx.K]; exact hty)) (hx.gl hg) hdb)) ?_
  exact k.exc _ ρ σ F H fp _ _ h s .refl ⟨a, gm, rfl, rfl⟩ .refl
theorem XIs.tr {X : Cx} (hx : XIs C X) (hsu : C.su = none) (pn : List (Addr × Obj)) (xe : Value → Shared → Prop) : XIs C (X.tr pn xe) :=
  ⟨hx.P, hx.w, hx.K, hx.mg, hx.base, hx.N, hx.nd, hx.sc, fun h => hx.rm h, fun h => hx.calm h, hx.un, (fun a c e => by rw [hsu] at e; cases e), hx.top, hx.fn⟩
def Ctx.inSu (C : Ctx) (a : Addr) (c : Exc) : Ctx := { C with su := some (a, c) }
theorem XIs.inSu {X : Cx} (hx : XIs C X) {a : Addr} {c : Exc} {oe : Obj} {pn : List (Addr × Obj)} {cls : Value} {d : Option Addr} {F H : Hp} (hz : Zc cls d oe) (hf : ∃ vs, oe.data = .fields vs) (xr : XR C.G c cls d F H) : XIs (C.inSu a c) (X.suite a ((a, oe) :: pn)) := by
  refine ⟨hx.P, hx.w, hx.K, hx.mg, hx.base, hx.N, hx.nd, hx.sc, (fun h => by cases h), (fun h => by cases h), hx.un, fun a' c' e => ?_, hx.top, hx.fn⟩
  have e' : some (a, c) = some (a', c') := e
  cases e'
  obtain ⟨ca, g, e1, e2⟩ := xr
  refine ⟨X, oe, pn, cls, d, rfl, hz, hf, ca, g, e1, ?_⟩
  revert e2
  cases c.fld with
  | none => exact id
  | some q => exact fun ⟨dd, _, e, _⟩ => ⟨dd, e⟩
def suΦ (i : Nat) (Φ : Fl → Rho → Prop) : Fl → Rho → Prop
  | .exc _, _ => False
  | .ret o, ρ => Φ (.ret o) ρ
  | fl, ρ => Φ fl (ρ.set i none)
def tryΦ (C : Ctx) (P : List Nat) (x : Str) (i : Nat) (suite : List Stmt) (Φ : Fl → Rho → Prop) : Fl → Rho → Prop
  | .exc c, ρ => (Hnd C.G c.name x true ∧ ∀ a, SV (C.inSu a c) P suite (ρ.set i (some (.fz (.exn a)))) (suΦ i Φ)) ∨ (Hnd C.G c.name x false ∧ Φ (.exc c) ρ)
  | fl, ρ => Φ fl ρ
theorem s_try_as {x n : Str} {i : Nat} {np pos pos' : Pos} (h : SV C P body ρ (tryΦ C P x i (b₀ :: suite) Φ)) (hP : i ∉ P := by decide) (hN : C.N[i]? = some n := by rfl) (hl : C.sc.names.lookup n = some .local := by rfl)
    (hx0 : ∃ cx, C.G.mg x = some (.ref cx)) (hg : C.sc.names.lookup x = some .globalImplicit := by rfl) (hdb : (x == ("__debug__" : Str)) = false := by decide) (ht : C.top = true := by rfl) (hsu : C.su = none := by rfl) :
    S1 C P (.Try body [.ExceptHandler (some (.Name x np)) (some n) (b₀ :: suite) pos'] [] [] pos) ρ Φ := by
  intro X hx W tk po σ F H fp D s k
  obtain ⟨cx, gx⟩ := hx0
  refine w_s (L2.ps_try_as (c := .ref cx) (i := i) (Wout := W) (tb := fun W' D σ H => ∀ pn xe, Takes (X.tr pn xe) W' → PassesOwn (model X.prog X.w) X.A X.env xe → wSs (X.tr pn xe) body D σ H)
    (ts := fun a cls d D σ H => ∀ oe pn, Zc cls d oe → (∃ vs, oe.data = .fields vs) → wSs (X.suite a ((a, oe) :: pn)) (b₀ :: suite) D σ H)
    (hx.top ht).1 (hx.top ht).2 hx.nd (by rw [hx.N]; exact hN) (by show X.env.scope.names.lookup n = _; rw [hx.sc]; exact hl) ⟨hx.gl hg, hdb, .inl (by rw [hx.mg]; exact gx)⟩ tk
    (fun W' pn xe tk' po' => ⟨fun pins st σ H D I q => q pn xe tk' po' pins st I⟩) (fun a oe cls d pn hz hf => ⟨fun pins st σ H D I q => q oe pn hz hf pins st I⟩)) ?_
  intro pn xe tk' po'
  refine h (X.tr pn xe) (hx.tr hsu pn xe) _ tk' po' σ F H fp D s ⟨?_, fun ρ' => k.nx ρ', fun ρ' => k.bk ρ', fun ρ' => k.ct ρ', fun o => k.rt o⟩
  intro c ρ' σ' F' H' fp' cls d q s' p' xr m
  obtain ⟨ca, gm, ec, _⟩ := id xr
  have fix : ∀ {b : Bool}, Hnd C.G c.name x b → PySem.W.exmOne X.K cls (.ref cx) = some b := fun {b} ⟨a1, a2, g1, g2, e⟩ => by
    rw [gm] at g1; cases g1
    rw [gx] at g2; cases g2
    rw [hx.K, ec]; exact e
  rcases q with ⟨hh, q⟩ | ⟨hh, q⟩
  · refine ⟨true, fix hh, fun _ a na oe pn' hz hf => ?_, fun z => by cases z⟩
    obtain ⟨fp2, s2, m2⟩ := s'.store (S := []) (.fz (.exn (a := a))) (fun _ z => by cases z) i
    have m2' : Mv (own fp) F H (own fp2) F' H' := m.less fun q hq => (m2 q hq).elim id fun z => by cases z
    have p2 : Pin P σ (σ'.set i (some (.ref a))) := fun j hj => by
      rw [List.getElem?_set_ne (fun z => hP (by rw [z]; exact hj))]
      exact p' j hj
    have k2 := k.along p2 m2'
    have gone : ∀ {σ3 : L2.St} {j : Nat}, j ∈ P → (σ3.set i none)[j]? = σ3[j]? := fun {σ3 j} hj => List.getElem?_set_ne (fun z => hP (by rw [z]; exact hj))
    refine q a (X.suite a ((a, oe) :: pn')) (hx.inSu hz hf xr) (fun _ _ _ _ => False) (takes0) PassesOwn.never _ F' H' fp2 _ s2 ⟨fun _ _ _ _ _ _ _ _ z => z.elim, ?_, ?_, ?_, ?_⟩
    · intro ρ3 σ3 F3 H3 fp3 q3 s3 p3 m3
      exact k2.nx _ _ F3 H3 _ q3 (s3.gone i) (fun j hj => (gone hj).trans (p3 j hj)) (m3.less fun q hq => own_wo hq)
    · intro ρ3 σ3 F3 H3 fp3 q3 s3 p3 m3
      exact k2.bk _ _ F3 H3 _ q3 (s3.gone i) (fun j hj => (gone hj).trans (p3 j hj)) (m3.less fun q hq => own_wo hq)
    · intro ρ3 σ3 F3 H3 fp3 q3 s3 p3 m3
      exact k2.ct _ _ F3 H3 _ q3 (s3.gone i) (fun j hj => (gone hj).trans (p3 j hj)) (m3.less fun q hq => own_wo hq)
    · intro o ρ3 σ3 v F3 H3 fp3 S q3 s3 p3 r3 d3 m3
      exact k2.rt o ρ3 σ3 v F3 H3 fp3 S q3 s3 p3 r3 d3 m3
  · exact ⟨false, fix hh, (fun z => by cases z), fun _ => k.exc c ρ' σ' F' H' fp' cls d q s' p' xr m⟩
def suΦ0 (Φ : Fl → Rho → Prop) : Fl → Rho → Prop
  | .exc _, _ => False
  | fl, ρ => Φ fl ρ
def tryΦ0 (C : Ctx) (P : List Nat) (x : Str) (suite : List Stmt) (Φ : Fl → Rho → Prop) : Fl → Rho → Prop
  | .exc c, ρ => (Hnd C.G c.name x true ∧ ∀ a, SV (C.inSu a c) P suite ρ (suΦ0 Φ)) ∨ (Hnd C.G c.name x false ∧ Φ (.exc c) ρ)
  | fl, ρ => Φ fl ρ
theorem s_try {x : Str} {np pos pos' : Pos} (h : SV C P body ρ (tryΦ0 C P x (b₀ :: suite) Φ))
    (hx0 : ∃ cx, C.G.mg x = some (.ref cx)) (hg : C.sc.names.lookup x = some .globalImplicit := by rfl) (hdb : (x == ("__debug__" : Str)) = false := by decide) (ht : C.top = true := by rfl) (hsu : C.su = none := by rfl) :
    S1 C P (.Try body [.ExceptHandler (some (.Name x np)) none (b₀ :: suite) pos'] [] [] pos) ρ Φ := by
  intro X hx W tk po σ F H fp D s k
  obtain ⟨cx, gx⟩ := hx0
  refine w_s (L2.ps_try_only (c := .ref cx) (Wout := W) (tb := fun W' D σ H => ∀ pn xe, Takes (X.tr pn xe) W' → PassesOwn (model X.prog X.w) X.A X.env xe → wSs (X.tr pn xe) body D σ H)
    (ts := fun a cls d D σ H => ∀ oe pn, Zc cls d oe → (∃ vs, oe.data = .fields vs) → wSs (X.suite a ((a, oe) :: pn)) (b₀ :: suite) D σ H)
    (hx.top ht).1 (hx.top ht).2 ⟨hx.gl hg, hdb, .inl (by rw [hx.mg]; exact gx)⟩ tk
    (fun W' pn xe tk' po' => ⟨fun pins st σ H D I q => q pn xe tk' po' pins st I⟩) (fun a oe cls d pn hz hf => ⟨fun pins st σ H D I q => q oe pn hz hf pins st I⟩)) ?_
  intro pn xe tk' po'
  refine h (X.tr pn xe) (hx.tr hsu pn xe) _ tk' po' σ F H fp D s ⟨?_, fun ρ' => k.nx ρ', fun ρ' => k.bk ρ', fun ρ' => k.ct ρ', fun o => k.rt o⟩
  intro c ρ' σ' F' H' fp' cls d q s' p' xr m
  obtain ⟨ca, gm, ec, _⟩ := id xr
  have fix : ∀ {b : Bool}, Hnd C.G c.name x b → PySem.W.exmOne X.K cls (.ref cx) = some b := fun {b} ⟨a1, a2, g1, g2, e⟩ => by
    rw [gm] at g1; cases g1
    rw [gx] at g2; cases g2
    rw [hx.K, ec]; exact e
  rcases q with ⟨hh, q⟩ | ⟨hh, q⟩
  · refine ⟨true, fix hh, fun _ a na oe pn' hz hf => ?_, fun z => by cases z⟩
    have k2 := k.along p' m
    exact q a (X.suite a ((a, oe) :: pn')) (hx.inSu hz hf xr) (fun _ _ _ _ => False) (takes0) PassesOwn.never _ F' H' fp' _ s' ⟨fun _ _ _ _ _ _ _ _ z => z.elim, fun ρ' => k2.nx ρ', fun ρ' => k2.bk ρ', fun ρ' => k2.ct ρ', fun o => k2.rt o⟩
  · exact ⟨false, fix hh, (fun z => by cases z), fun _ => k.exc c ρ' σ' F' H' fp' cls d q s' p' xr m⟩
/-- isinstance(e, x) in the suite -/
theorem ev_isE {x n : Str} {i : Nat} {a : Addr} {c : Exc} {b : Bool} {p p1 p2 pos : Pos} {k : O → Rho → Prop} {Ξ : Exc → Rho → Prop} (is : IsE C.G c.name x b) (hm : C.G.mg "isinstance" = none) (hsu : C.su = some (a, c)) (hr : ρ[i]? = some (some (.fz (.exn a)))) (q : k (.fz (.bl b)) ρ) (hf : c.fld = none := by rfl) (hN : C.N[i]? = some n := by rfl)
    (hv : Vis C.sc n := by first | exact .inl rfl | exact .inr (.inl rfl) | exact .inr (.inr rfl)) (hd : (n == ("__debug__" : Str)) = false := by decide) (hcd : (n == ("__classdict__" : Str)) = false := by decide)
    (hg : C.sc.names.lookup ("isinstance" : Str) = some .globalImplicit := by rfl) (hgx : C.sc.names.lookup x = some .globalImplicit := by rfl) (hdx : (x == ("__debug__" : Str)) = false := by decide) : EV C (.Call (.Name "isinstance" p) [.Name n p1, .Name x p2] [] pos) ρ k Ξ := by
  intro X hx W tk σ F H fp s xx
  obtain ⟨ad, ax, g1, g2, ec, ek⟩ := is
  obtain ⟨X0, oe, pn, cls, d, e, hz, hfs, ca, gc, ecl, hfl⟩ := hx.exn a c hsu
  rw [g1] at gc
  cases gc
  rw [hf] at hfl
  have hfl' : d = none := hfl
  subst hfl' ecl e
  obtain ⟨v, ev, r⟩ := s.slot i _ hr
  have av := r.at_fz
  cases av
  refine w_e (pe_callB (call_isE (X := X0) (D := ad) (by rw [show X0.K = C.G.K from hx.K]; exact ec) hz hfs) (hx.gl hg) (by rw [hx.mg]; exact hm) (by decide +kernel) (pa_cons (pe_var (i := i) (by rw [hx.N]; exact hN) (hx.vis hv) hd hcd) (pa_cons (pe_glob (hx.gl hgx) (by rw [hx.mg]; exact g2) (v := .ref ax) rfl hdx) pa_nil (by rfl)) (by rfl)) (by decide) (by decide) (by rfl) (by rfl)) ?_
  refine ⟨_, ev, .ref ax, .ref ax, b, rfl, fun u hu => hu.symm ▸ rfl, (by rw [show X0.K = C.G.K from hx.K]; exact ek), ?_⟩
  exact fin_d s (.bl b) q
end
end Fr

set_option Elab.async false
set_option linter.all false
set_option maxRecDepth 100000
set_option maxHeartbeats 2000000
/-! Fr10: a slot's own list is written. -/
namespace Fr
open PySem PySem.Spec PyProof.Rows L2

section
variable {K : PySem.W.Frag} {F H : Hp} {σ : L2.St} {ρ : Rho} {fp : Nat → List Addr} {i : Nat} {os : List O}
theorem Rep.inv_lst' {v : V} {S : List Addr} (r : Rep K F H v (.lst os) S) : ∃ p vs T, v = .ref p ∧ H p = some (.lst vs) ∧ F p = Option.none ∧ p ∉ T ∧ S = p :: T ∧ Reps K F H vs os T := by
  generalize ho : O.lst os = o at r
  cases r with
  | fz a => cases ho
  | lst h1 h2 h3 t => cases ho; exact ⟨_, _, _, rfl, h1, h2, h3, rfl, t⟩
  | dic _ _ _ _ _ => cases ho
theorem SR.atL (s : SR K F H σ ρ fp) (h : ρ[i]? = some (some (.lst os))) : ∃ p vs T, σ[i]? = some (some (.ref p)) ∧ H p = some (.lst vs) ∧ F p = none ∧ p ∉ T ∧ fp i = p :: T ∧ Reps K F H vs os T := by
  obtain ⟨v, e, r⟩ := s.slot i _ h
  obtain ⟨p, vs, T, rfl, h1, h2, h3, h4, t⟩ := r.inv_lst'
  exact ⟨p, vs, T, e, h1, h2, h3, h4, t⟩
theorem SR.wrL (s : SR K F H σ ρ fp) {p : Addr} {T S T' : List Addr} {vs' : List V} {os' : List O} (e : σ[i]? = some (some (.ref p))) (hp : H p ≠ none) (hF : F p = none) (hT : p ∉ T) (hfp : fp i = p :: T) (dS : ∀ q ∈ S, ¬ own fp q)
    (r : Reps K F H vs' os' T') (sub : ∀ q ∈ T', q ∈ T ∨ q ∈ S) : ∃ fp', SR K F (upd H p (.lst vs')) σ (ρ.set i (some (.lst os'))) fp' ∧ (∀ q, own fp' q → own fp q ∨ q ∈ S) ∧ own fp p := by
  have op : own fp p := ⟨i, by rw [hfp]; exact List.mem_cons_self⟩
  have nT' : p ∉ T' := fun z => by
    rcases sub p z with w | w
    · exact hT w
    · exact dS p w op
  have nwo : ¬ own (wo fp i) p := not_wo s (by rw [hfp]; exact List.mem_cons_self)
  have s1 := (s.drop i).updO hF nwo (.lst vs')
  have hi : i < ρ.length := by rw [s.len]; exact (List.getElem?_eq_some_iff.mp e).1
  have dd : ∀ q ∈ p :: T', ¬ own (wo fp i) q := fun q hq => by
    rcases List.mem_cons.mp hq with z | z
    · rw [z]; exact nwo
    · rcases sub q z with w | w
      · exact not_wo s (by rw [hfp]; exact List.mem_cons_of_mem _ w)
      · exact fun y => dS q w (own_wo y)
  have s2 := s1.put (σ' := σ) (v := .ref p) (o := .lst os') (S := p :: T') (i := i) (.lst upd_same hF nT' (r.updO nT' _)) dd (by rw [List.length_set]; exact hi) rfl e (fun _ _ => rfl)
  rw [List.set_set] at s2
  refine ⟨_, s2, fun q hq => ?_, op⟩
  rcases own_wi hq with z | z
  · exact .inl (own_wo z)
  · rcases List.mem_cons.mp z with w | w
    · rw [w]; exact .inl op
    · rcases sub q w with y | y
      · exact .inl ⟨i, by rw [hfp]; exact List.mem_cons_of_mem _ y⟩
      · exact .inr y
theorem Mv.wr {A B : Addr → Prop} {p : Addr} {o : HO} (ap : A p) (h : ∀ q, B q → A q) : Mv A F H B F (upd H p o) :=
  ⟨Ex.refl F, fun q u e n => ⟨by rw [upd_ne (fun z => n (by rw [z]; exact ap))]; exact e, rfl⟩, fun q hq => .inl (h q hq)⟩
theorem Reps.set {v : V} {o : O} {S : List Addr} (r : Rep K F H v o S) : ∀ {vs : List V} {os : List O} {T : List Addr} (j : Nat), Reps K F H vs os T → (∀ q ∈ S, q ∉ T) → ∃ T', Reps K F H (vs.set j v) (os.set j o) T' ∧ ∀ q ∈ T', q ∈ T ∨ q ∈ S
  | _, _, _, _, .nil, _ => ⟨[], .nil, fun q h => by cases h⟩
  | _, _, _, 0, @Reps.cons _ _ _ w ws p ps A B h t d, x => ⟨S ++ B, .cons r t fun q hq z => x q hq (List.mem_append_right _ z), fun q hq => (List.mem_append.mp hq).elim .inr fun z => .inl (List.mem_append_right _ z)⟩
  | _, _, _, j + 1, @Reps.cons _ _ _ w ws p ps A B h t d, x => by
    obtain ⟨T', t', m⟩ := Reps.set r j t fun q hq z => x q hq (List.mem_append_right _ z)
    refine ⟨A ++ T', .cons h t' fun q hq z => ?_, fun q hq => ?_⟩
    · rcases m q z with y | y
      · exact d q hq y
      · exact x q y (List.mem_append_left _ hq)
    · rcases List.mem_append.mp hq with z | z
      · exact .inl (List.mem_append_left _ z)
      · exact (m q z).imp (List.mem_append_right _) id
theorem Reps.dropLast : ∀ {vs : List V} {os : List O} {T : List Addr}, Reps K F H vs os T → ∃ T', Reps K F H vs.dropLast os.dropLast T' ∧ ∀ q ∈ T', q ∈ T
  | _, _, _, .nil => ⟨[], .nil, fun _ h => h⟩
  | _, _, _, @Reps.cons _ _ _ w ws p ps A B h t d => by
    cases t with
    | nil => exact ⟨[], .nil, fun _ z => by cases z⟩
    | @cons w2 ws2 p2 ps2 A2 B2 h2 t2 d2 =>
      obtain ⟨T', t', m⟩ := Reps.dropLast (Reps.cons h2 t2 d2)
      exact ⟨A ++ T', .cons h t' fun q hq z => d q hq (m q z), fun q hq => (List.mem_append.mp hq).elim (List.mem_append_left _) fun z => List.mem_append_right _ (m q z)⟩
theorem Reps.getFz : ∀ {vs : List V} {os : List O} {T : List Addr} {j : Nat} {d : D}, Reps K F H vs os T → os[j]? = some (.fz d) → ∃ w, vs[j]? = some w ∧ At K F w d
  | _, _, _, _, _, .nil, e => by simp at e
  | _, _, _, 0, _, .cons h _ _, e => by simp at e; subst e; exact ⟨_, rfl, h.at_fz⟩
  | _, _, _, j + 1, _, .cons _ t _, e => by
    obtain ⟨w, e1, a⟩ := Reps.getFz (j := j) t (by simpa using e)
    exact ⟨w, by simpa using e1, a⟩
end
section
variable {C : Ctx} {P : List Nat} {ρ : Rho} {Φ : Fl → Rho → Prop} {k : O → Rho → Prop} {Ξ : Exc → Rho → Prop} {e ie : Expr} {i : Nat} {x : Str} {p p1 pos apos cpos : Pos}
/-- x[ie] = e -/
theorem s_setix (h : EV C e ρ (fun o ρ1 => (∃ o0, ρ1[i]? = some (some o0)) ∧ EV C ie ρ1 (fun oi ρ2 => ∃ os z j, ρ2[i]? = some (some (.lst os)) ∧ oi.frz = .int z ∧ ixN os.length z = some j ∧ Φ .nx (ρ2.set i (some (.lst (os.set j o))))) (fun c ρ2 => Φ (.exc c) ρ2)) (fun c ρ1 => Φ (.exc c) ρ1))
    (hN : C.N[i]? = some x := by rfl) (hv : Vis C.sc x := by first | exact .inl rfl | exact .inr (.inl rfl) | exact .inr (.inr rfl)) (hd : (x == ("__debug__" : Str)) = false := by decide) (hcd : (x == ("__classdict__" : Str)) = false := by decide)
    (ha : ∀ env v, assign (.Subscript (.Name x p) ie p1) env v = (do
      let ov ← holding [v] (eval (.Name x p) env)
      let iv ← holding [v, ov] (eval ie env)
      standAt p1
      holding [v, ov, iv] (setItem ov iv v)
      release [v, ov, iv] []) := by intro _ _; rfl)
    (hs : ∀ env : Env, env.scope = C.sc → swapsWithSole [.Subscript (.Name x p) ie p1] e pos.line env = pure false := by intro _ _; rfl) (hw : ∀ env : Env, env.scope = C.sc → swappedStores [.Subscript (.Name x p) ie p1] e env = pure none := by intro _ _; rfl)
    (h1 : ∀ env, (assignEach [.Subscript (.Name x p) ie p1] env).map (·.2) = [assign (.Subscript (.Name x p) ie p1) env] := by intro _; rfl) : S1 C P (.Assign [.Subscript (.Name x p) ie p1] e pos) ρ Φ := by
  intro X hx W tk po σ F H fp D s k
  refine w_s (ps_asg pe_w (pg_sub (pe_var (i := i) (by rw [hx.N]; exact hN) (hx.vis hv) hd hcd) pe_w set_list (ha _)) (hs _ hx.sc) (hw _ hx.sc) (h1 _)) ?_
  refine (h X hx W tk σ F H fp s k.xp).mono fun v H1 ⟨o, ρ1, F1, fp1, S, ⟨⟨o0, hr0⟩, q1⟩, s1, r1, d1, m1⟩ => ?_
  have hix := q1 X hx W tk σ F1 H1 fp1 s1 (k.xp.along (m1.less fun q z => .inl z))
  have body : ∀ {w : V}, σ[i]? = some (some w) → wE X ie σ H1 fun iv H2 => rSetL w iv v H2 fun H3 => D.nx σ H3 := fun {w} ew => by
    refine hix.mono fun iv H2 ⟨oi, ρ2, F2, fp2, S2, ⟨os, z, j, hr, ez, hj, hq⟩, s2, r2, d2, m2⟩ => ?_
    obtain ⟨F3, s3, a3, ex3, k3⟩ := s2.freeze r2 d2
    rw [ez] at a3
    cases a3
    have hS1 : ∀ q ∈ S, ∃ u, H1 q = some u := fun q hq => (r1.none q hq).2
    have off := m2.off d1 hS1
    have r1' := (r1.along m2 d1)
    have dS : ∀ q ∈ S, ¬ own fp2 q := fun q hq z => off q hq (.inl z)
    have offS2 : ∀ q ∈ S, q ∉ S2 := fun q hq z => off q hq (.inr z)
    have r3 : Rep C.G.K F3 H2 v o S := r1'.mono ex3 (fun q hq => by rw [k3 q (offS2 q hq)]; exact (r1'.none q hq).1) fun _ _ => rfl
    obtain ⟨pp, vs, T, es, hH, hF, hnT, hfp, t⟩ := s3.atL hr
    rw [ew] at es
    cases es
    obtain ⟨T', t', sub⟩ := Reps.set r3 j t fun q hq z => dS q hq ⟨i, by rw [hfp]; exact List.mem_cons_of_mem _ z⟩
    obtain ⟨fp3, s4, m4, op⟩ := s3.wrL ew (by rw [hH]; simp) hF hnT hfp dS t' sub
    refine ⟨pp, vs, z, j, rfl, rfl, hH, by rw [t.length]; exact hj, ?_⟩
    refine k.nx _ σ F3 _ fp3 hq s4 .refl ?_
    have mA : Mv (own fp) F H (fun q => own fp2 q ∨ q ∈ S) F3 H2 := by
      refine ⟨(m1.ef.trans m2.ef).trans ex3, fun q u hq hn => ?_, fun q hq => ?_⟩
      · obtain ⟨a1, a2⟩ := m1.keep q u hq hn
        have hn1 : ¬ own fp1 q := fun z => by
          rcases m1.new q (.inl z) with w | w
          · exact hn w
          · rw [hq] at w; cases w
        obtain ⟨b1, b2⟩ := m2.keep q u a1 hn1
        refine ⟨b1, ?_⟩
        rw [← a2, ← b2]
        refine k3 q fun z => ?_
        rcases m2.new q (.inr z) with w | w
        · exact hn1 w
        · rw [a1] at w; cases w
      · rcases hq with z | z
        · rcases m2.new q (.inl z) with w | w
          · exact m1.new q (.inl w)
          · by_cases hA : own fp q
            · exact .inl hA
            · refine .inr ?_
              cases e : H q with
              | none => rfl
              | some u => rw [(m1.keep q u e hA).1] at w; cases w
        · exact m1.new q (.inr z)
    exact mA.trans (Mv.wr (.inl op) fun q hq => m4 q hq)
  obtain ⟨w, ew, _⟩ := s1.slot i _ hr0
  exact ⟨w, ew, body ew⟩

theorem Mv.own2 {A : Addr → Prop} {F H F1 H1 : Hp} {B : Addr → Prop} {S : List Addr} (m : Mv A F H (fun q => B q ∨ q ∈ S) F1 H1) {p : Addr} {o : HO} {B' : Addr → Prop} (ap : B p) (h : ∀ q, B' q → B q ∨ q ∈ S) : Mv A F H B' F1 (upd H1 p o) :=
  m.trans (Mv.wr (A := fun q => B q ∨ q ∈ S) (.inl ap) h)
/-- x.append(e) -/
theorem ev_append (h : EV C e ρ (fun o ρ1 => ∃ os, ρ1[i]? = some (some (.lst os)) ∧ os.length < 16000000 ∧ k (.fz .non) (ρ1.set i (some (.lst (os ++ [o]))))) Ξ) (hr0 : ∃ os, ρ[i]? = some (some (.lst os)))
    (hN : C.N[i]? = some x := by rfl) (hv : Vis C.sc x := by first | exact .inl rfl | exact .inr (.inl rfl) | exact .inr (.inr rfl)) (hd : (x == ("__debug__" : Str)) = false := by decide) (hcd : (x == ("__classdict__" : Str)) = false := by decide)
    (hbase : ∀ env, attributeBase (.Name x p) "append" env (eval (.Name x p) env) = eval (.Name x p) env := by intro _; rfl)
    (hfew : ∀ env, ((backTo cpos (starEach [e] env)).all (fun x => !x.1) && (backToKw cpos (keywordEach [] env)).all (fun x => x.1.isSome) && decide ([e].length + ([] : List Keyword).length + (if ([] : List Keyword).isEmpty then 0 else 1) < 30)) = true := by intro _; rfl)
    (hline : (apos.endLine == cpos.line) = true := by rfl) (he : ∀ env, starEach [e] env = (false, eval e env) :: starEach [] env := by intro _; rfl) (hpl : ∀ env, (backTo cpos (starEach [] env)).any (·.1) = false := by intro _; rfl) :
    EV C (.Call (.Attribute (.Name x p) "append" apos) [e] [] cpos) ρ k Ξ := by
  intro X hx W tk σ F H fp s xx
  obtain ⟨os0, hr0⟩ := hr0
  obtain ⟨p0, vs0, T0, e0, hH0, _⟩ := s.atL hr0
  refine w_e (pe_bm PySem.F.plainAttrs_list PySem.F.slot_list_append PySem.F.type_list_append (mt_append : MtR X "list.append" rAppend) (pe_var (i := i) (by rw [hx.N]; exact hN) (hx.vis hv) hd hcd) (pa_cons pe_w pa_nil (he _)) (hbase _) (hfew _) hline (he _) (hpl _)) ?_
  refine ⟨.ref p0, e0, .inl ⟨rfl, vs0, .inl (.inl hH0)⟩, ?_⟩
  refine (h X hx W tk σ F H fp s xx).mono fun v H1 ⟨o, ρ1, F1, fp1, S, ⟨os, hr, hl, q⟩, s1, r1, d1, m1⟩ => ?_
  obtain ⟨pp, vs, T, es, hH, hF, hnT, hfp, t⟩ := s1.atL hr
  rw [e0] at es
  cases es
  have dTS : ∀ q ∈ T, q ∉ S := fun q hq z => d1 q z ⟨i, by rw [hfp]; exact List.mem_cons_of_mem _ hq⟩
  obtain ⟨fp3, s4, m4, op⟩ := s1.wrL e0 (by rw [hH]; simp) hF hnT hfp d1 (T' := T ++ (S ++ [])) (t.append (.cons r1 .nil (fun _ _ z => by cases z)) fun q hq z => by
    rcases List.mem_append.mp z with w | w
    · exact dTS q hq w
    · cases w) fun q hq => by
    rcases List.mem_append.mp hq with w | w
    · exact .inl w
    · rw [List.append_nil] at w; exact .inr w
  refine ⟨p0, vs, v, rfl, rfl, hH, ?_, ⟨_, _, F1, fp3, [], q, s4, .fz .non, fun _ z => (by cases z), ?_⟩⟩
  · rw [t.length]; have : (16000000 : Nat) < sizeLine := by decide
    omega
  · exact Mv.own2 m1 op fun q hq => hq.elim (m4 q) fun z => by cases z
/-- x.extend(e): e a list, taken frozen -/
theorem ev_extend (h : EV C e ρ (fun o ρ1 => ∃ os ds, ρ1[i]? = some (some (.lst os)) ∧ o.frz = .lst ds ∧ os.length + ds.length ≤ 16000000 ∧ k (.fz .non) (ρ1.set i (some (.lst (os ++ ds.map .fz))))) Ξ) (hr0 : ∃ os, ρ[i]? = some (some (.lst os)))
    (hN : C.N[i]? = some x := by rfl) (hv : Vis C.sc x := by first | exact .inl rfl | exact .inr (.inl rfl) | exact .inr (.inr rfl)) (hd : (x == ("__debug__" : Str)) = false := by decide) (hcd : (x == ("__classdict__" : Str)) = false := by decide)
    (hbase : ∀ env, attributeBase (.Name x p) "extend" env (eval (.Name x p) env) = eval (.Name x p) env := by intro _; rfl)
    (hfew : ∀ env, ((backTo cpos (starEach [e] env)).all (fun x => !x.1) && (backToKw cpos (keywordEach [] env)).all (fun x => x.1.isSome) && decide ([e].length + ([] : List Keyword).length + (if ([] : List Keyword).isEmpty then 0 else 1) < 30)) = true := by intro _; rfl)
    (hline : (apos.endLine == cpos.line) = true := by rfl) (he : ∀ env, starEach [e] env = (false, eval e env) :: starEach [] env := by intro _; rfl) (hpl : ∀ env, (backTo cpos (starEach [] env)).any (·.1) = false := by intro _; rfl) :
    EV C (.Call (.Attribute (.Name x p) "extend" apos) [e] [] cpos) ρ k Ξ := by
  intro X hx W tk σ F H fp s xx
  obtain ⟨os0, hr0⟩ := hr0
  obtain ⟨p0, vs0, T0, e0, hH0, _⟩ := s.atL hr0
  refine w_e (pe_bm PySem.F.plainAttrs_list PySem.F.slot_list_extend PySem.F.type_list_extend (mt_extend : MtR X "list.extend" rExtend) (pe_var (i := i) (by rw [hx.N]; exact hN) (hx.vis hv) hd hcd) (pa_cons pe_w pa_nil (he _)) (hbase _) (hfew _) hline (he _) (hpl _)) ?_
  refine ⟨.ref p0, e0, .inl ⟨rfl, vs0, .inl (.inl hH0)⟩, ?_⟩
  refine (EV.d (k := fun d ρ1 => ∃ os ds, ρ1[i]? = some (some (.lst os)) ∧ d = .lst ds ∧ os.length + ds.length ≤ 16000000 ∧ k (.fz .non) (ρ1.set i (some (.lst (os ++ ds.map .fz))))) h hx tk s xx).mono fun v H1 ⟨d, ρ1, F1, fp1, ⟨os, ds, hr, ed, hl, q⟩, s1, a1, m1⟩ => ?_
  subst ed
  cases a1 with
  | @lst pa ws _ hh tt =>
    obtain ⟨pp, vs, T, es, hH, hF, hnT, hfp, t⟩ := s1.atL hr
    rw [e0] at es
    cases es
    obtain ⟨fp3, s4, m4, op⟩ := s1.wrL (S := []) e0 (by rw [hH]; simp) hF hnT hfp (fun _ z => by cases z) (T' := T) (reps_append_fz t tt) fun q hq => .inl hq
    refine ⟨p0, pa, vs, ws, rfl, rfl, hH, s1.ex _ _ hh, ?_, ⟨_, _, F1, fp3, [], q, s4, .fz .non, fun _ z => (by cases z), ?_⟩⟩
    · rw [t.length, tt.length]; have : (16000000 : Nat) ≤ sizeLine := by decide
      omega
    · exact (m1.trans (Mv.wr op fun q hq => hq.elim (fun z => (m4 q z).elim id fun w => by cases w) fun z => by cases z))
/-- x.pop(): the last item, frozen -/
theorem ev_pop {os : List O} {d : D} (hr : ρ[i]? = some (some (.lst os))) (hl : os.getLast? = some (.fz d)) (q : k (.fz d) (ρ.set i (some (.lst os.dropLast))))
    (hN : C.N[i]? = some x := by rfl) (hv : Vis C.sc x := by first | exact .inl rfl | exact .inr (.inl rfl) | exact .inr (.inr rfl)) (hd : (x == ("__debug__" : Str)) = false := by decide) (hcd : (x == ("__classdict__" : Str)) = false := by decide)
    (hbase : ∀ env, attributeBase (.Name x p) "pop" env (eval (.Name x p) env) = eval (.Name x p) env := by intro _; rfl) (hline : (apos.endLine == cpos.line) = true := by rfl) : EV C (.Call (.Attribute (.Name x p) "pop" apos) [] [] cpos) ρ k Ξ := by
  intro X hx W tk σ F H fp s xx
  obtain ⟨p0, vs, T, e0, hH, hF, hnT, hfp, t⟩ := s.atL hr
  refine w_e (pe_bm0 PySem.F.plainAttrs_list PySem.F.slot_list_pop PySem.F.type_list_pop (mt_pop : MtR X "list.pop" rPop) (pe_var (i := i) (by rw [hx.N]; exact hN) (hx.vis hv) hd hcd) (hbase _) hline) ?_
  refine ⟨.ref p0, e0, .inl ⟨rfl, vs, .inl (.inl hH)⟩, ?_⟩
  have hg : os[os.length - 1]? = some (.fz d) := by rw [← List.getLast?_eq_getElem?]; exact hl
  obtain ⟨w, ew, aw⟩ := t.getFz hg
  obtain ⟨T', t', sub⟩ := t.dropLast
  obtain ⟨fp3, s4, m4, op⟩ := s.wrL (S := []) e0 (by rw [hH]; simp) hF hnT hfp (fun _ z => by cases z) t' fun q hq => .inl (sub q hq)
  refine ⟨p0, vs, w, rfl, rfl, hH, by rw [t.length]; exact ew, ⟨_, _, F, fp3, [], q, s4, .fz aw, fun _ z => (by cases z), ?_⟩⟩
  exact Mv.wr op fun q hq => hq.elim (fun z => (m4 q z).elim id fun w => by cases w) fun z => by cases z
end

@[simp] theorem isi_non_int : isiD (.non) "int" = false := by show isiS "NoneType" "int" = false; decide +kernel
@[simp] theorem isi_non_bool : isiD (.non) "bool" = false := by show isiS "NoneType" "bool" = false; decide +kernel
@[simp] theorem isi_non_str : isiD (.non) "str" = false := by show isiS "NoneType" "str" = false; decide +kernel
@[simp] theorem isi_non_tuple : isiD (.non) "tuple" = false := by show isiS "NoneType" "tuple" = false; decide +kernel
@[simp] theorem isi_non_list : isiD (.non) "list" = false := by show isiS "NoneType" "list" = false; decide +kernel
@[simp] theorem isi_non_dict : isiD (.non) "dict" = false := by show isiS "NoneType" "dict" = false; decide +kernel
@[simp] theorem ex_non : D.ex (.non) = false := rfl
@[simp] theorem isi_bl_int {b : Bool} : isiD (.bl b) "int" = true := by show isiS "bool" "int" = true; decide +kernel
@[simp] theorem isi_bl_bool {b : Bool} : isiD (.bl b) "bool" = true := by show isiS "bool" "bool" = true; decide +kernel
@[simp] theorem isi_bl_str {b : Bool} : isiD (.bl b) "str" = false := by show isiS "bool" "str" = false; decide +kernel
@[simp] theorem isi_bl_tuple {b : Bool} : isiD (.bl b) "tuple" = false := by show isiS "bool" "tuple" = false; decide +kernel
@[simp] theorem isi_bl_list {b : Bool} : isiD (.bl b) "list" = false := by show isiS "bool" "list" = false; decide +kernel
@[simp] theorem isi_bl_dict {b : Bool} : isiD (.bl b) "dict" = false := by show isiS "bool" "dict" = false; decide +kernel
@[simp] theorem ex_bl {b : Bool} : D.ex (.bl b) = false := rfl
@[simp] theorem isi_int_int {i : Int} : isiD (.int i) "int" = true := by show isiS "int" "int" = true; decide +kernel
@[simp] theorem isi_int_bool {i : Int} : isiD (.int i) "bool" = false := by show isiS "int" "bool" = false; decide +kernel
@[simp] theorem isi_int_str {i : Int} : isiD (.int i) "str" = false := by show isiS "int" "str" = false; decide +kernel
@[simp] theorem isi_int_tuple {i : Int} : isiD (.int i) "tuple" = false := by show isiS "int" "tuple" = false; decide +kernel
@[simp] theorem isi_int_list {i : Int} : isiD (.int i) "list" = false := by show isiS "int" "list" = false; decide +kernel
@[simp] theorem isi_int_dict {i : Int} : isiD (.int i) "dict" = false := by show isiS "int" "dict" = false; decide +kernel
@[simp] theorem ex_int {i : Int} : D.ex (.int i) = false := rfl
@[simp] theorem isi_str_int {z : Str} : isiD (.str z) "int" = false := by show isiS "str" "int" = false; decide +kernel
@[simp] theorem isi_str_bool {z : Str} : isiD (.str z) "bool" = false := by show isiS "str" "bool" = false; decide +kernel
@[simp] theorem isi_str_str {z : Str} : isiD (.str z) "str" = true := by show isiS "str" "str" = true; decide +kernel
@[simp] theorem isi_str_tuple {z : Str} : isiD (.str z) "tuple" = false := by show isiS "str" "tuple" = false; decide +kernel
@[simp] theorem isi_str_list {z : Str} : isiD (.str z) "list" = false := by show isiS "str" "list" = false; decide +kernel
@[simp] theorem isi_str_dict {z : Str} : isiD (.str z) "dict" = false := by show isiS "str" "dict" = false; decide +kernel
@[simp] theorem ex_str {z : Str} : D.ex (.str z) = false := rfl
@[simp] theorem isi_tup_int {xs : List D} : isiD (.tup xs) "int" = false := by show isiS "tuple" "int" = false; decide +kernel
@[simp] theorem isi_tup_bool {xs : List D} : isiD (.tup xs) "bool" = false := by show isiS "tuple" "bool" = false; decide +kernel
@[simp] theorem isi_tup_str {xs : List D} : isiD (.tup xs) "str" = false := by show isiS "tuple" "str" = false; decide +kernel
@[simp] theorem isi_tup_tuple {xs : List D} : isiD (.tup xs) "tuple" = true := by show isiS "tuple" "tuple" = true; decide +kernel
@[simp] theorem isi_tup_list {xs : List D} : isiD (.tup xs) "list" = false := by show isiS "tuple" "list" = false; decide +kernel
@[simp] theorem isi_tup_dict {xs : List D} : isiD (.tup xs) "dict" = false := by show isiS "tuple" "dict" = false; decide +kernel
@[simp] theorem ex_tup {xs : List D} : D.ex (.tup xs) = false := rfl
@[simp] theorem isi_lst_int {xs : List D} : isiD (.lst xs) "int" = false := by show isiS "list" "int" = false; decide +kernel
@[simp] theorem isi_lst_bool {xs : List D} : isiD (.lst xs) "bool" = false := by show isiS "list" "bool" = false; decide +kernel
@[simp] theorem isi_lst_str {xs : List D} : isiD (.lst xs) "str" = false := by show isiS "list" "str" = false; decide +kernel
@[simp] theorem isi_lst_tuple {xs : List D} : isiD (.lst xs) "tuple" = false := by show isiS "list" "tuple" = false; decide +kernel
@[simp] theorem isi_lst_list {xs : List D} : isiD (.lst xs) "list" = true := by show isiS "list" "list" = true; decide +kernel
@[simp] theorem isi_lst_dict {xs : List D} : isiD (.lst xs) "dict" = false := by show isiS "list" "dict" = false; decide +kernel
@[simp] theorem ex_lst {xs : List D} : D.ex (.lst xs) = false := rfl
@[simp] theorem isi_dic_int {ks : List Key} {xs : List D} : isiD (.dic ks xs) "int" = false := by show isiS "dict" "int" = false; decide +kernel
@[simp] theorem isi_dic_bool {ks : List Key} {xs : List D} : isiD (.dic ks xs) "bool" = false := by show isiS "dict" "bool" = false; decide +kernel
@[simp] theorem isi_dic_str {ks : List Key} {xs : List D} : isiD (.dic ks xs) "str" = false := by show isiS "dict" "str" = false; decide +kernel
@[simp] theorem isi_dic_tuple {ks : List Key} {xs : List D} : isiD (.dic ks xs) "tuple" = false := by show isiS "dict" "tuple" = false; decide +kernel
@[simp] theorem isi_dic_list {ks : List Key} {xs : List D} : isiD (.dic ks xs) "list" = false := by show isiS "dict" "list" = false; decide +kernel
@[simp] theorem isi_dic_dict {ks : List Key} {xs : List D} : isiD (.dic ks xs) "dict" = true := by show isiS "dict" "dict" = true; decide +kernel
@[simp] theorem ex_dic {ks : List Key} {xs : List D} : D.ex (.dic ks xs) = false := rfl
@[simp] theorem isi_scr_int {ns : List Int} : isiD (.scr ns) "int" = false := by show isiS "list" "int" = false; decide +kernel
@[simp] theorem isi_scr_bool {ns : List Int} : isiD (.scr ns) "bool" = false := by show isiS "list" "bool" = false; decide +kernel
@[simp] theorem isi_scr_str {ns : List Int} : isiD (.scr ns) "str" = false := by show isiS "list" "str" = false; decide +kernel
@[simp] theorem isi_scr_tuple {ns : List Int} : isiD (.scr ns) "tuple" = false := by show isiS "list" "tuple" = false; decide +kernel
@[simp] theorem isi_scr_list {ns : List Int} : isiD (.scr ns) "list" = true := by show isiS "list" "list" = true; decide +kernel
@[simp] theorem isi_scr_dict {ns : List Int} : isiD (.scr ns) "dict" = false := by show isiS "list" "dict" = false; decide +kernel
@[simp] theorem ex_scr {ns : List Int} : D.ex (.scr ns) = false := rfl
@[simp] theorem ty_non_N : (D.non.ty == "NoneType") = true := rfl
@[simp] theorem ty_tup_N {xs : List D} : ((D.tup xs).ty == "NoneType") = false := by show ("tuple" == "NoneType") = false; decide +kernel
@[simp] theorem ty_bl_N {b : Bool} : ((D.bl b).ty == "NoneType") = false := by show ("bool" == "NoneType") = false; decide +kernel
@[simp] theorem ty_int_N {i : Int} : ((D.int i).ty == "NoneType") = false := by show ("int" == "NoneType") = false; decide +kernel
@[simp] theorem ty_str_N {z : Str} : ((D.str z).ty == "NoneType") = false := by show ("str" == "NoneType") = false; decide +kernel
@[simp] theorem ty_lst_N {xs : List D} : ((D.lst xs).ty == "NoneType") = false := by show ("list" == "NoneType") = false; decide +kernel
theorem frz_map (f : D → O) : ∀ ds : List D, (O.lst (ds.map f)).frz = .lst (ds.map fun d => (f d).frz)
  | [] => by simp
  | d :: ds => by
    have h := frz_map f ds
    rw [frz_lst] at h ⊢
    rw [List.map_cons, frzL_cons, List.map_cons]
    injection h with h
    rw [h]
theorem frz_fzs (ds : List D) : (O.lst (ds.map .fz)).frz = .lst ds := by rw [frz_lst, frzL_fz]
theorem lg_ok {n : Int} (h0 : -1000000000000000000 ≤ n) (h1 : n ≤ 1000000000000000000) : n.natAbs.log2 < 1920 := by
  by_cases e : n.natAbs = 0
  · rw [e]; decide
  · exact Nat.lt_trans ((Nat.log2_lt e).mpr (show n.natAbs < 2 ^ 60 by omega)) (by decide)
section
variable {C : Ctx} {ρ : Rho} {Ξ : Exc → Rho → Prop} {a b c : Expr} {op op' : CmpOp} {pos : Pos}
/-- a chain whose last part is plain -/
theorem et_chainV {k : Bool → Rho → Prop} (h : EV C a ρ (fun x ρ1 => EV C b ρ1 (fun y ρ2 => ∃ dz, (∀ k' : O → Rho → Prop, k' (.fz dz) ρ2 → EV C c ρ2 k' Ξ) ∧ ∃ r r', Cmp op x.frz y.frz r ∧ Cmp op' y.frz dz r' ∧ k (r && r') ρ2) Ξ) Ξ)
    (hm : lastMarks [op, op'] [b, c] = false := by with_unfolding_all rfl) : ET C (.Compare a [op, op'] [b, c] pos) ρ k Ξ :=
  et_chain (EV.mono h fun x ρ1 h1 => EV.mono h1 fun y ρ2 ⟨dz, hc, r, r', c1, c2, q⟩ => ⟨r, c1, fun e => hc _ ⟨r', c2, by subst e; exact q⟩, fun e => by subst e; exact q⟩) hm
theorem ev_chainV {k : O → Rho → Prop} (h : EV C a ρ (fun x ρ1 => EV C b ρ1 (fun y ρ2 => ∃ dz, (∀ k' : O → Rho → Prop, k' (.fz dz) ρ2 → EV C c ρ2 k' Ξ) ∧ ∃ r r', Cmp op x.frz y.frz r ∧ Cmp op' y.frz dz r' ∧ k (.fz (.bl (r && r'))) ρ2) Ξ) Ξ)
    (hm : lastMarks [op, op'] [b, c] = false := by with_unfolding_all rfl) : EV C (.Compare a [op, op'] [b, c] pos) ρ k Ξ :=
  ev_chain (EV.mono h fun x ρ1 h1 => EV.mono h1 fun y ρ2 ⟨dz, hc, r, r', c1, c2, q⟩ => ⟨r, c1, fun e => hc _ ⟨r', c2, by subst e; exact q⟩, fun e => by subst e; exact q⟩) hm
end
theorem signs_at {z : Str} {j : Nat} {d : D} (h : (signs z)[j]? = some d) : ∃ c, z.cps.toList[j]? = some c ∧ d = .str ⟨#[c]⟩ := by
  unfold signs at h
  rw [List.getElem?_map] at h
  cases e : z.cps.toList[j]? with
  | none => rw [e] at h; cases h
  | some c =>
    rw [e] at h
    exact ⟨c, rfl, (Option.some.inj h).symm⟩
theorem sz {n : Nat} (h : n ≤ 16000000) : n ≤ sizeLine := Nat.le_trans h (by decide)
/-- a slot is lent, the arguments behind it may still write it -/
theorem eva_borL {C : Ctx} {es : List Expr} {ρ : Rho} {k : List AO → Rho → Prop} {Ξ : Exc → Rho → Prop} {i : Nat} {x : Str} {pos : Pos} (hr : ∃ o, ρ[i]? = some (some o)) (h : EVA C es ρ (fun as ρ2 => ∃ o, ρ2[i]? = some (some o) ∧ k ((o, some i) :: as) (ρ2.set i none)) Ξ) (hN : C.N[i]? = some x := by rfl) (hv : Vis C.sc x := by first | exact .inl rfl | exact .inr (.inl rfl) | exact .inr (.inr rfl))
    (hd : (x == ("__debug__" : Str)) = false := by decide) (hcd : (x == ("__classdict__" : Str)) = false := by decide) : EVA C (.Name x pos :: es) ρ k Ξ := by
  intro X hx W tk σ F H fp s xx
  obtain ⟨o0, hr0⟩ := hr
  obtain ⟨v, e, _⟩ := s.slot i _ hr0
  refine w_a (pa_cons (pe_var (i := i) (by rw [hx.N]; exact hN) (hx.vis hv) hd hcd) pa_w (by rfl)) ⟨v, e, ?_⟩
  refine wA.mono (h X hx W tk σ F H fp s xx) fun vs H1 ⟨as, ρ1, F1, fp1, S1, ⟨o, hr1, q⟩, s1, r1, d1, m1, b1⟩ => ?_
  obtain ⟨v', e', r'⟩ := s1.slot i _ hr1
  rw [e] at e'
  cases e'
  refine ⟨(o, some i) :: as, ρ1.set i none, F1, wo fp1 i, fp1 i ++ S1, q, s1.drop i, .cons r' r1 (fun q hq z => d1 q z ⟨i, hq⟩), fun q hq => ?_, ?_, fun j i' o' hj => ?_⟩
  · rcases List.mem_append.mp hq with z | z
    · exact not_wo s1 z
    · exact fun w => d1 q z (own_wo w)
  · refine m1.less fun q hq => ?_
    rcases hq with z | z
    · exact .inl (own_wo z)
    · rcases List.mem_append.mp z with w | w
      · exact .inl ⟨i, w⟩
      · exact .inr w
  · cases j with
    | zero =>
      have e2 : (o, some i) = (o', some i') := by simpa using hj
      cases e2
      exact ⟨v, rfl, e⟩
    | succ j =>
      obtain ⟨w, e1, e2⟩ := b1 j i' o' (by simpa using hj)
      exact ⟨w, by simpa using e1, e2⟩
/-- a statement behind which only R is known -/
theorem sv_join {C : Ctx} {P : List Nat} {st : Stmt} {rest : List Stmt} {ρ : Rho} {Φ : Fl → Rho → Prop} (R : Rho → Prop) (h1 : S1 C P st ρ (thn' R Φ)) (h2 : ∀ ρ', R ρ' → SV C P rest ρ' Φ) : SV C P (st :: rest) ρ Φ :=
  sv_cons (h1.mono fun fl ρ' q => by
    cases fl with
    | nx => exact h2 ρ' q
    | _ => exact q)
section
variable {C : Ctx} {ρ : Rho} {Ξ : Exc → Rho → Prop} {tg : Expr} {k : List D → Rho → Prop} {pos : Pos}
theorem ei_zipT {a b : Expr} {p tpos : Pos} {elts : List Expr} {kk : Nat} (hm : C.G.mg "zip" = none) (h : EV C a ρ (fun o ρ1 => EV C b ρ1 (fun o2 ρ2 => ∃ ds es, o.frz = .tup ds ∧ o2.frz = .tup es ∧ k (List.zipWith (fun d e => .tup [d, e]) ds es) ρ2) Ξ) Ξ) (hg : C.sc.names.lookup ("zip" : Str) = some .globalImplicit := by rfl)
    (hs : ∀ env, starEach [a, b] env = (false, eval a env) :: starEach [b] env := by intro _; rfl) (hs2 : ∀ env, starEach [b] env = (false, eval b env) :: starEach [] env := by intro _; rfl) (hpl : ∀ env, (backTo pos (starEach [b] env)).any (·.1) = false := by intro _; rfl) :
    EI C (.Tuple elts kk tpos) (.Call (.Name "zip" p) [a, b] [] pos) ρ k Ξ := by
  intro X hx W tk σ F H fp s x
  refine w_i (RZ.pi_zipA (hx.gl hg) (by rw [hx.mg]; exact hm) (pa_cons pe_w (pa_cons pe_w pa_nil (hs2 _)) (hs _)) (hs _) (hpl _)) ((EV.d (k := fun d ρ1 => EV C b ρ1 (fun o2 ρ2 => ∃ ds es, d = .tup ds ∧ o2.frz = .tup es ∧ k (List.zipWith (fun d e => .tup [d, e]) ds es) ρ2) Ξ) h hx tk s x).mono fun v H1 ⟨d, ρ1, F1, fp1, h1, s1, a1, m1⟩ => ?_)
  refine (EV.d (k := fun d2 ρ2 => ∃ ds es, d = .tup ds ∧ d2 = .tup es ∧ k (List.zipWith (fun d e => .tup [d, e]) ds es) ρ2) h1 hx tk s1 (x.along m1)).mono fun u H2 ⟨d2, ρ2, F2, fp2, ⟨ds, es, e1, e2, q⟩, s2, a2, m2⟩ => ?_
  subst e1
  subst e2
  have a1 := a1.mono m2.ef
  cases a1 with
  | @tup pa vs _ hh t =>
    cases a2 with
    | @tup pb ws _ hh2 t2 =>
      refine ⟨pa, pb, vs, ws, rfl, .inr ⟨(by rw [hx.K]; exact s2.ex.t hh), (by rw [hx.K]; exact s2.ex.t hh2), _, ρ2, F2, fp2, q, s2, m1.trans m2, ?_⟩⟩
      intro i F' H' e1 e2
      have h1 : SqT X.K H' pa vs := by rw [hx.K]; exact e2.t (e1.t hh)
      have h2 : SqT X.K H' pb ws := by rw [hx.K]; exact e2.t (e1.t hh2)
      refine ⟨fun d hd => ?_, fun hi => ⟨vs, ws, h1, h2, ?_⟩⟩
      · rw [List.getElem?_zipWith] at hd
        cases q1 : ds[i]? with
        | none => rw [q1] at hd; cases hd
        | some d1 =>
          cases q2 : es[i]? with
          | none => rw [q1, q2] at hd; cases hd
          | some d2 =>
            rw [q1, q2] at hd
            have hd' : D.tup [d1, d2] = d := Option.some.inj hd
            subst hd'
            obtain ⟨v1, ev1, av1⟩ := t.get q1
            obtain ⟨v2, ev2, av2⟩ := t2.get q2
            refine ⟨⟨vs, ws, v1, v2, h1, h2, ev1, ev2⟩, fun y H'' ⟨T, w1, w2, ey, hT, eh, hw1, hw2⟩ => ?_⟩
            subst ey eh
            have e3 := hw1 vs h1
            rw [ev1] at e3
            cases e3
            have e4 := hw2 ws h2
            rw [ev2] at e4
            cases e4
            have g := Gw.new e2 hT (.tup [v1, v2])
            exact ⟨_, .tup (.inl (.inl upd_same)) (.cons (av1.mono (e1.trans g.1)) (.cons (av2.mono (e1.trans g.1)) .nil)), g⟩
      · rw [List.length_zipWith] at hi
        rw [t.length, t2.length]
        omega
end
/-- a slot's own value is frozen from here on -/
theorem sv_frz {C : Ctx} {P : List Nat} {sts : List Stmt} {ρ : Rho} {Φ : Fl → Rho → Prop} {i : Nat} {o : O} (hr : ρ[i]? = some (some o)) (h : SV C P sts (ρ.set i (some (.fz o.frz))) Φ) : SV C P sts ρ Φ := by
  intro X hx W tk po σ F H fp D s k
  obtain ⟨v, e, r⟩ := s.slot i _ hr
  obtain ⟨F2, s2, a2, e2, k2⟩ := (s.drop i).freeze r fun q hq => not_wo s hq
  have hi : i < ρ.length := by rw [s.len]; exact (List.getElem?_eq_some_iff.mp e).1
  have s3 := s2.put (σ' := σ) (v := v) (o := .fz o.frz) (S := []) (i := i) (.fz a2) (fun _ z => by cases z) (by rw [List.length_set]; exact hi) rfl e (fun _ _ => rfl)
  rw [List.set_set] at s3
  refine h X hx W tk po σ F2 H _ D s3 (k.along .refl ⟨e2, fun q u hq hn => ⟨hq, k2 q fun z => hn ⟨i, z⟩⟩, fun q hq => ?_⟩)
  rcases own_wi hq with z | z
  · exact .inl (own_wo z)
  · cases z
theorem ET.cut {C : Ctx} {c : Expr} {ρ : Rho} {k : Bool → Rho → Prop} {Ξ : Exc → Rho → Prop} (v : Bool) (h : ET C c ρ (fun b ρ' => b = v ∧ ρ' = ρ) Ξ) (q : k v ρ) : ET C c ρ k Ξ := by
  intro X hx W tk σ F H fp s x
  refine wT.mono (h X hx W tk σ F H fp s x) fun b H' ⟨ρ', F', fp', ⟨e1, e2⟩, s', m'⟩ => ?_
  subst e1 e2
  exact ⟨_, F', fp', q, s', m'⟩
theorem EV.cut {C : Ctx} {e : Expr} {ρ : Rho} {k : O → Rho → Prop} {Ξ : Exc → Rho → Prop} (v : O) (h : EV C e ρ (fun o ρ' => o = v ∧ ρ' = ρ) Ξ) (q : k v ρ) : EV C e ρ k Ξ :=
  h.mono fun o ρ' ⟨e1, e2⟩ => by subst e1 e2; exact q
theorem Outs.same {P : List Nat} {ρ : Rho} : ∀ (os : List O) (j : Nat), (os.all fun o => match o with | .fz _ => true | _ => false) = true → Outs P ρ j os os
  | [], _, _ => trivial
  | o :: os, j, h => by
    simp only [List.all_cons, Bool.and_eq_true] at h
    refine ⟨.inl ?_, Outs.same os (j + 1) h.2⟩
    cases o with
    | fz d => exact ⟨d, rfl, rfl⟩
    | _ => cases h.1
section
variable {P : List Nat} {os : List O} {k : O → List O → Prop} {Ξ : Exc → List O → Prop} {ρ : Rho} {o o0 o1 : O} {c : Exc}
/-- the ends of a def all of whose arguments are frozen -/
theorem ret_f (q : k o os) (h : (os.all fun o => match o with | .fz _ => true | _ => false) = true := by rfl) : retΦ P os k Ξ (.ret o) ρ := ⟨os, Outs.same os 0 h, q⟩
theorem exc_f (q : Ξ c os) (h : (os.all fun o => match o with | .fz _ => true | _ => false) = true := by rfl) : retΦ P os k Ξ (.exc c) ρ := ⟨os, Outs.same os 0 h, q⟩
theorem nx_f (q : k (.fz .non) os) (h : (os.all fun o => match o with | .fz _ => true | _ => false) = true := by rfl) : retΦ P os k Ξ .nx ρ := ⟨os, Outs.same os 0 h, q⟩
/-- .. whose first argument is lent -/
theorem ret_p (hr : ρ[0]? = some (some o1)) (q : k o (o1 :: os)) (hP : 0 ∈ P := by decide) (h : (os.all fun o => match o with | .fz _ => true | _ => false) = true := by rfl) : retΦ P (o0 :: os) k Ξ (.ret o) ρ := ⟨o1 :: os, ⟨.inr ⟨hP, hr⟩, Outs.same os 1 h⟩, q⟩
theorem exc_p (hr : ρ[0]? = some (some o1)) (q : Ξ c (o1 :: os)) (hP : 0 ∈ P := by decide) (h : (os.all fun o => match o with | .fz _ => true | _ => false) = true := by rfl) : retΦ P (o0 :: os) k Ξ (.exc c) ρ := ⟨o1 :: os, ⟨.inr ⟨hP, hr⟩, Outs.same os 1 h⟩, q⟩
end
def DefIn (G : Gx) (x : Str) (st : Stmt) : Prop := ∃ f fd, FunD G.K x x (defArgs st) (defBody st) (defScope st) [] [] f fd ∧ G.mg x = some (.ref f)
theorem fok_in {G : Gx} {x : Str} {st : Stmt} {ps N : List Str} {lv : Nat} {S : FSpec} {P : List Nat} (h : DefIn G x st) (sc : FnScope N ps (defScope st))
    (hb : ∀ (kV doc pm : Value) (an : Option Addr) (cdv ct : Value) (us : List Value), us.length = ps.length → bindArgs (PySem.W.fnOf x x (defArgs st) (defBody st) (defScope st) .none kV doc pm an cdv ct) ⟨us, []⟩ = pure (ps.zip us))
    (hS : ∀ os k Ξ, S os k Ξ → os.length = ps.length ∧ SV { G := G, lv := lv, N := N, sc := defScope st, top := true } P (defBody st) (os.map some ++ List.replicate (N.length - os.length) none) (retΦ P os k Ξ)) : FOK G (lv + 1) x [] S := by
  obtain ⟨f, fd, F, hm⟩ := h
  refine fok_def F sc hm ⟨[], .nil, ?_⟩ (fun _ => .nil) hS
  exact F.bindsN hb
/-- a loop whose turns change nothing but the forgotten slots -/
theorem for_each {C : Ctx} {P : List Nat} {tg : Expr} {sl : List Nat} {body : List Stmt} {fg : List Nat} {Φ : Fl → Rho → Prop} {ds : List D} {ρ1 : Rho} (J : Nat → Prop) (h0 : J 0)
    (turn : ∀ i d, ds[i]? = some d → J i → TGt C tg sl d (wipeR ρ1 fg) (fun ρ2 => SV C P body ρ2 (forΦ' fg (fun ρ => J (i + 1) ∧ ρ = wipeR ρ1 fg) Φ))) (done : J ds.length → Φ .nx (wipeR ρ1 fg)) : ForAsk C P tg sl body fg Φ ds ρ1 :=
  ⟨fun i ρ' => J i ∧ ρ' = wipeR ρ1 fg, ⟨h0, rfl⟩, fun i d ρ' hd ⟨hj, e⟩ => by subst e; exact turn i d hd hj, fun ρ' ⟨hj, e⟩ => by subst e; exact done hj⟩
end Fr

set_option Elab.async false
set_option linter.all false
set_option maxRecDepth 100000
set_option maxHeartbeats 2000000
/-! Fr11: what every law's pen and take promise. -/
namespace Fr
open PySem PySem.Spec PyProof.Rows L2
def penO (cs : List Int) (a g : Int) : O := .lst [.fz (.lst (cs.map .int)), .fz (.int a), .fz (.int g)]
def S_pen : FSpec := fun os k Ξ => ∃ ns : List Int, os = [.fz (.scr ns)] ∧ ∀ cs : List Int, cs.length ≤ 63 → k (penO cs 0 0) os
def S_take : FSpec := fun os k Ξ => ∃ (cs : List Int) (a g upto : Int), os = [penO cs a g, .fz (.int upto)] ∧ cs.length ≤ 63 ∧ 0 ≤ a ∧ a ≤ 100000 ∧ 0 ≤ g ∧ 0 < upto ∧ upto < 1073741824 ∧
  ∀ r a' g' : Int, 0 ≤ r → r < upto → a ≤ a' → a' ≤ a + 1 → 0 ≤ g' → k (.fz (.int r)) [penO cs a' g', .fz (.int upto)]
theorem cells_eq (ns : List Int) : ∃ cs : List Int, cs.length ≤ 63 ∧ cutD (ns.map D.int) none (some 63) = cs.map D.int := by
  refine ⟨(ns.drop (HT.sIx (ns.map D.int).length 0 none)).take (HT.sIx (ns.map D.int).length (ns.map D.int).length (some 63) - HT.sIx (ns.map D.int).length 0 none), ?_, ?_⟩
  · rw [List.length_take]
    simp only [HT.sIx]
    simp
    omega
  · unfold cutD
    rw [List.map_take, List.map_drop]
theorem sq_bound {a : Int} (h0 : 0 ≤ a) (h1 : a ≤ 100000) : 0 ≤ 7919 * a * a ∧ 7919 * a * a ≤ 79190000000000 := by
  have h2 : 0 ≤ a * a := Int.mul_nonneg h0 h0
  have h3 : a * a ≤ 100000 * 100000 := Int.mul_le_mul h1 h1 h0 (by decide)
  rw [Int.mul_assoc]
  omega
theorem pow_nonneg' {i : Int} (h : 0 ≤ i) (n : Nat) : 0 ≤ i ^ n := Int.pow_nonneg h
theorem cpow_ok {i j : Int} (h0 : 0 ≤ i) (h1 : i < 18446744073709551616) (h2 : 0 ≤ j) (h3 : j ≤ 1000) : CPow i j := ⟨h2, by omega, by omega⟩
theorem at_mod {cs : List Int} {a : Int} (h : cs ≠ []) : ∃ c, L2.atI (cs.map D.int) (a % ((cs.map D.int).length : Int)) = some (.int c) := by
  have hl : 0 < ((cs.map D.int).length : Int) := by
    rw [List.length_map]
    have := List.length_pos_iff.mpr h
    omega
  have h0 := Int.emod_nonneg a (Int.ne_of_gt hl)
  have h1 := Int.emod_lt_of_pos a hl
  generalize a % ((cs.map D.int).length : Int) = z at h0 h1 ⊢
  unfold L2.atI L2.ixN
  rw [if_pos h0, if_pos h1]
  have h2 : z.toNat < cs.length := by rw [List.length_map] at h1; omega
  exact ⟨cs[z.toNat], by simp [h2]⟩
theorem great_ok {b : Bool} {n : Int} (h : (b && decide (10 ^ (18 : Int).toNat ≤ (if n < 0 then -n else n))) = true) : 0 ≤ 2 * ((if n < 0 then -n else n) - 10 ^ (18 : Int).toNat) + (if (decide (n < 0)) = true then 1 else 0) := by
  rw [Bool.and_eq_true] at h
  have h2 := of_decide_eq_true h.2
  generalize (10 : Int) ^ (18 : Int).toNat = t at h2 ⊢
  generalize (if n < 0 then -n else n) = m at h2 ⊢
  split <;> omega
theorem pyL_ints : ∀ cs : List Int, pyL (cs.map .int) = cs.map PyData.int
  | [] => by rw [List.map_nil, pyL, List.map_nil]
  | c :: cs => by rw [List.map_cons, pyL, D.py, pyL_ints cs, List.map_cons]
theorem ok_ints (cs : List Int) : (D.lst (cs.map .int)).ok = true := by
  show SeqAt.shaped (D.lst (cs.map .int)).py = true
  rw [D.py, pyL_ints]
  exact PySem.W.shaped_ints cs
theorem cells_ne {cs : List Int} (h : (!(D.lst (cs.map .int)).eq (.lst [])) = true) : cs ≠ [] := by
  rintro rfl
  exact absurd h (by decide)
theorem at_int (ns : List Int) {r : Int} (h0 : 0 ≤ r) (h1 : r < (ns.length : Int)) : ∃ v, v ∈ ns ∧ L2.atI (ns.map D.int) r = some (.int v) := by
  have h2 : r.toNat < ns.length := by omega
  refine ⟨ns[r.toNat], List.getElem_mem h2, ?_⟩
  unfold L2.atI L2.ixN
  rw [if_pos h0, if_pos (by rw [List.length_map]; exact h1)]
  simp [h2]
end Fr

set_option Elab.async false
set_option linter.all false
set_option maxRecDepth 100000
set_option maxHeartbeats 2000000
/-! K76a: the package's side. -/
namespace K76
open PySem PySem.Spec PyProof.Rows L2 Fr
def top (i : Nat) : Stmt := PySem.Challenge.pw_feastrobes_k76_robes_written_and_read.main.body.getD i (.Pass ⟨0, 0, 0, 0⟩)
def BiOk (G : Gx) : Prop := ∀ x : Str, x ∈ (["isinstance", "int", "bool", "len", "tuple", "str", "list", "all", "abs", "min", "range", "zip"] : List Str) → G.mg x = none
structure Facts (G : Gx) : Prop where
  B : BiOk G
  MOST_SIZE : GConst G "MOST_SIZE" (.int 999)
  MOST_SEAM : GConst G "MOST_SEAM" (.int 99)
  MOST_FIGURES : GConst G "MOST_FIGURES" (.int 60)
  FIGURES : GConst G "FIGURES" (.str "0123456789")
  NoText : ExcK G "NoText"
  handled : Hnd G "NoText" "NoText" true
  is_RobeError : IsE G "NoText" "RobeError" true

abbrev s_is_whole : Stmt := top 3
abbrev s_is_robe : Stmt := top 4
abbrev s_show_robe : Stmt := top 9
abbrev s_need_text : Stmt := top 13
abbrev s_number_of : Stmt := top 14
abbrev s_read_robe : Stmt := top 15
abbrev s__law_pen : Stmt := top 17
abbrev s__law_take : Stmt := top 18
abbrev s__law_robe : Stmt := top 19
abbrev s__law_same : Stmt := top 20
abbrev s__law_number_in : Stmt := top 21
abbrev s__law_robe_in : Stmt := top 22
abbrev s__law_bent : Stmt := top 23
abbrev s__law_right : Stmt := top 24
abbrev s_law : Stmt := top 25

/-! ### what they compute -/
def isWhole (d : D) (l m : Int) : Bool := match d with
  | .int i => decide (l ≤ i) && decide (i ≤ m)
  | _ => false
def isRobe (ns : List Int) : Bool := match ns with
  | [a, b, c] => isWhole (.int a) 1 999 && isWhole (.int b) 0 99 && isWhole (.int c) 0 99 && decide (b < a)
  | _ => false
def num1 (w : Str) : Bool := !(decide (1 ≤ (w.length : Int)) && decide ((w.length : Int) ≤ 60)) || (decide (w.cps.toList[0]? = some 48) && !decide (w = "0"))
def digs (w : Str) : Bool := w.cps.toList.all fun c => decide (c ∈ ("0123456789" : Str).cps.toList)
def numOf (w : Str) : Option Int := if num1 w then none else if digs w then some ((NumText.digitsVal w.cps.toList : Nat) : Int) else none
def nums (zs : List Str) : Option (List Int) := if zs.all (fun w => (numOf w).isSome) then some (zs.map fun w => (numOf w).getD 0) else none
def readRobe (d : D) : Option (List Int) := match d with
  | .str z => match nums (Txt.split z "/") with
    | some ns => if isRobe ns then some ns else none
    | none => none
  | _ => none
abbrev noText : Exc := { name := "NoText" }
/-! ### promises -/
def S_is_whole : FSpec := fun os k Ξ => ∃ (d : D) (l m : Int), os = [.fz d, .fz (.int l), .fz (.int m)] ∧ d.ex = false ∧ k (.fz (.bl (isWhole d l m))) os
def S_is_robe : FSpec := fun os k Ξ => ∃ ns : List Int, os = [.fz (.tup (ns.map .int))] ∧ k (.fz (.bl (isRobe ns))) os
def S_show_robe : FSpec := fun os k Ξ => ∃ ns : List Int, os = [.fz (.tup (ns.map .int))] ∧ ns.length ≤ 3 ∧ (∀ n ∈ ns, 0 ≤ n ∧ n ≤ 999) ∧ k (.fz (.str (Txt.join "/" (ns.map fun n => toString n)))) os
def S_need_text : FSpec := fun os k Ξ => ∃ d : D, os = [.fz d] ∧ d.ex = false ∧ ((∃ z, d = .str z) → k (.fz .non) os) ∧ ((¬ ∃ z, d = .str z) → Ξ noText os)
def S_number_of : FSpec := fun os k Ξ => ∃ w : Str, os = [.fz (.str w)] ∧ w.length ≤ 100000 ∧ (∀ n, numOf w = some n → k (.fz (.int n)) os) ∧ (numOf w = none → Ξ noText os)
def S_read_robe : FSpec := fun os k Ξ => ∃ d : D, os = [.fz d] ∧ d.ex = false ∧ (∀ z, d = .str z → z.length ≤ 50000) ∧ (∀ ns, readRobe d = some ns → k (.fz (.tup (ns.map .int))) os) ∧ (readRobe d = none → Ξ noText os)

theorem isi_int {d : D} (h : isiD d "int" = true) : (∃ i, d = .int i) ∨ ∃ b, d = .bl b := by
  cases d <;> first | exact .inl ⟨_, rfl⟩ | exact .inr ⟨_, rfl⟩ | (revert h; decide) | cases h
theorem isi_bool {d : D} (h : isiD d "bool" = false) : ¬ ∃ b, d = .bl b := by
  rintro ⟨b, rfl⟩
  revert h
  cases b <;> decide
theorem isi_str {d : D} : isiD d "str" = true ↔ ∃ z, d = .str z := by
  constructor
  · intro h
    cases d <;> first | exact ⟨_, rfl⟩ | (revert h; decide) | cases h
  · rintro ⟨z, rfl⟩
    rfl

theorem isWhole_no {d : D} {l m : Int} (h : isiD d "int" = false) : isWhole d l m = false := by
  cases d <;> first | rfl | simp at h
theorem isWhole_bool {d : D} {l m : Int} (h : isiD d "bool" = true) : isWhole d l m = false := by
  cases d <;> first | rfl | simp at h

theorem ok_is_whole {G : Gx} (Kc : Facts G)  (h : DefIn G "is_whole" s_is_whole) : FOK G 1 "is_whole" [] S_is_whole := by
  have B := Kc.B
  refine fok_in (N := ["thing", "least", "most"]) (ps := ["thing", "least", "most"]) (P := []) h ⟨rfl, rfl, rfl, by decide +kernel, rfl, by decide +kernel, by decide +kernel⟩ (fun _ _ _ _ _ _ us hl => match us, hl with | [_, _, _], _ => rfl) ?_
  rintro os k Ξ ⟨d, l, m, rfl, hex, hk⟩
  refine ⟨rfl, ?_⟩
  refine sv_one ?_
  refine s_ret ?_
  refine ev_and ?_
  refine ev_isi (T' := "int") (B _ (by decide)) (B _ (by decide)) ?_
  refine ev_var (i := 0) rfl ?_
  refine ⟨by first | rfl | decide | assumption | omega, ?_⟩
  refine ⟨_, rfl, fun h1 => ?_, fun h2 => ?_⟩
  · skip
    refine ev_and ?_
    refine ev_not ?_
    refine ev_isi (T' := "bool") (B _ (by decide)) (B _ (by decide)) ?_
    refine ev_var (i := 0) rfl ?_
    refine ⟨by first | rfl | decide | assumption | omega, ?_⟩
    refine ⟨_, rfl, ?_⟩
    refine ⟨_, rfl, fun h3 => ?_, fun h4 => ?_⟩
    · obtain ⟨i, rfl⟩ : ∃ i, d = .int i := (isi_int h1).resolve_right (isi_bool (by simpa using h3))
      refine ev_one ?_
      refine ev_chainV ?_
      refine ev_var (i := 1) rfl ?_
      refine ev_var (i := 0) rfl ?_
      refine ⟨?dz, ?g1, ?g2⟩
      case g1 =>
        intro k' hk'
        refine ev_var (i := 2) rfl ?_
        exact hk'
      refine ⟨_, _, .leI, .leI, ?_⟩
      exact ret_f (Ξ := Ξ) (by first | simpa [isWhole, *] using hk | (rw [isWhole_no (by assumption)] at hk; exact hk) | (rw [isWhole_bool (by simpa using h4)] at hk; exact hk))
    · skip
      exact ret_f (Ξ := Ξ) (by first | simpa [isWhole, *] using hk | (rw [isWhole_no (by assumption)] at hk; exact hk) | (rw [isWhole_bool (by simpa using h4)] at hk; exact hk))
  · skip
    exact ret_f (Ξ := Ξ) (by first | simpa [isWhole, *] using hk | (rw [isWhole_no (by assumption)] at hk; exact hk) | (rw [isWhole_bool (by simpa using h4)] at hk; exact hk))
theorem isRobe_no {ns : List Int} (h : ¬ (ns.length : Int) = 3) : isRobe ns = false := by
  match ns with
  | [a, b, c] => simp at h
  | [] => rfl
  | [_] => rfl
  | [_, _] => rfl
  | _ :: _ :: _ :: _ :: _ => rfl

theorem ok_is_robe {G : Gx} (Kc : Facts G) (F_is_whole : FOK G 1 "is_whole" [] S_is_whole) (h : DefIn G "is_robe" s_is_robe) : FOK G 2 "is_robe" [] S_is_robe := by
  have B := Kc.B
  refine fok_in (N := ["thing", "size", "take", "out"]) (ps := ["thing"]) (P := []) h ⟨rfl, rfl, rfl, by decide +kernel, rfl, by decide +kernel, by decide +kernel⟩ (fun _ _ _ _ _ _ us hl => match us, hl with | [_], _ => rfl) ?_
  rintro os k Ξ ⟨ns, rfl, hk⟩
  refine ⟨rfl, ?_⟩
  refine sv_cons ?_
  refine s_if ?_
  refine ET.cut (v := !decide (((ns.map D.int).length : Int) = 3)) ?_ ?_
  · skip
    refine EW.t ?_
    refine ew_or ?_
    refine et_not ?_
    refine et_val ?_
    refine ev_isi (T' := "tuple") (B _ (by decide)) (B _ (by decide)) ?_
    refine ev_var (i := 0) rfl ?_
    refine ⟨by first | rfl | decide | assumption | omega, ?_⟩
    first | refine ⟨_, .bl, ?_⟩ | refine ⟨_, .int, ?_⟩ | refine ⟨_, .lst, ?_⟩ | refine ⟨_, .str (by first | decide | omega | exact sz (by omega)), ?_⟩
    refine ⟨fun h1 => ?_, fun h2 => ?_⟩
    · skip
      exact ⟨by first | rfl | simp_all | (simp at *; done), rfl⟩
    · skip
      refine ew_or1 ?_
      refine et_cmp ?_
      refine ev_cb (id := "len") (B _ (by decide)) ?_
      refine evs_cons ?_
      refine ev_var (i := 0) rfl ?_
      refine evs_nil ?_
      first | refine ⟨_, .lenL, ?_⟩ | refine ⟨_, .lenT, ?_⟩ | refine ⟨_, .lenS (by first | decide | omega | exact sz (by omega)), ?_⟩
      refine ev_int ?_
      first | refine ⟨_, .neI, ?_⟩ | refine ⟨_, .neS, ?_⟩ | refine ⟨_, .neB, ?_⟩ | refine ⟨_, .neD (by first | rfl | decide | assumption | omega) (by first | rfl | decide | assumption | omega), ?_⟩
      exact ⟨by first | rfl | simp_all | (simp at *; done), rfl⟩
  refine ⟨fun h3 => ?_, fun h4 => ?_⟩
  · skip
    refine sv_one ?_
    refine s_ret ?_
    refine ev_bl ?_
    exact ret_f (Ξ := Ξ) (by first | exact hk | (rw [isRobe_no (by simpa using h3)] at hk; exact hk) | (have hk2 : k (.fz (.bl ((isWhole (.int a) 1 999 && isWhole (.int b) 0 99 && isWhole (.int c) 0 99) && decide (b < a)))) _ := hk; generalize (isWhole (.int a) 1 999 && isWhole (.int b) 0 99 && isWhole (.int c) 0 99) = x at *; cases x <;> simp_all))
  · skip
    refine sv_nil ?_
    refine sq_nx ?_
    obtain ⟨a, b, c, rfl⟩ : ∃ a b c, ns = [a, b, c] := by
      match ns, h4 with
      | [a, b, c], _ => exact ⟨a, b, c, rfl⟩
      | [], h => simp at h
      | [_], h => simp at h
      | [_, _], h => simp at h
      | _ :: _ :: _ :: _ :: _, h => simp at h; omega
    refine sv_cons ?_
    refine s_asg (sl := [1, 2, 3]) ?_
    refine ev_var (i := 0) rfl ?_
    refine tg_tup ?_
    refine tgs_cons (sl := [1]) (sl' := [2, 3]) ?_
    refine tg_name (i := 1) ?_
    refine tgs_cons (sl := [2]) (sl' := [3]) ?_
    refine tg_name (i := 2) ?_
    refine tgs_cons (sl := [3]) (sl' := []) ?_
    refine tg_name (i := 3) ?_
    refine tgs_nil ?_
    refine sq_nx ?_
    refine sv_cons ?_
    refine s_if ?_
    refine ET.cut (v := !(isWhole (.int a) 1 999 && isWhole (.int b) 0 99 && isWhole (.int c) 0 99)) ?_ ?_
    · skip
      refine EW.t ?_
      refine ew_or ?_
      refine et_not ?_
      refine et_val ?_
      refine ev_call (F_is_whole.mono (Nat.le_of_ble_eq_true rfl)) ?_
      refine eva_cons ?_
      refine ev_var (i := 1) rfl ?_
      refine eva_cons ?_
      refine ev_int ?_
      refine eva_cons ?_
      refine ev_glob (Kc.MOST_SIZE) ?_
      refine eva_nil ?_
      refine ⟨_, _, _, rfl, rfl, ?_⟩
      first | refine ⟨_, .bl, ?_⟩ | refine ⟨_, .int, ?_⟩ | refine ⟨_, .lst, ?_⟩ | refine ⟨_, .str (by first | decide | omega | exact sz (by omega)), ?_⟩
      refine ⟨fun h5 => ?_, fun h6 => ?_⟩
      · skip
        exact ⟨by first | rfl | simp_all | (simp at *; done), rfl⟩
      · skip
        refine ew_or ?_
        refine et_not ?_
        refine et_val ?_
        refine ev_call (F_is_whole.mono (Nat.le_of_ble_eq_true rfl)) ?_
        refine eva_cons ?_
        refine ev_var (i := 2) rfl ?_
        refine eva_cons ?_
        refine ev_int ?_
        refine eva_cons ?_
        refine ev_glob (Kc.MOST_SEAM) ?_
        refine eva_nil ?_
        refine ⟨_, _, _, rfl, rfl, ?_⟩
        first | refine ⟨_, .bl, ?_⟩ | refine ⟨_, .int, ?_⟩ | refine ⟨_, .lst, ?_⟩ | refine ⟨_, .str (by first | decide | omega | exact sz (by omega)), ?_⟩
        refine ⟨fun h7 => ?_, fun h8 => ?_⟩
        · skip
          exact ⟨by first | rfl | simp_all | (simp at *; done), rfl⟩
        · skip
          refine ew_or1 ?_
          refine et_not ?_
          refine et_val ?_
          refine ev_call (F_is_whole.mono (Nat.le_of_ble_eq_true rfl)) ?_
          refine eva_cons ?_
          refine ev_var (i := 3) rfl ?_
          refine eva_cons ?_
          refine ev_int ?_
          refine eva_cons ?_
          refine ev_glob (Kc.MOST_SEAM) ?_
          refine eva_nil ?_
          refine ⟨_, _, _, rfl, rfl, ?_⟩
          first | refine ⟨_, .bl, ?_⟩ | refine ⟨_, .int, ?_⟩ | refine ⟨_, .lst, ?_⟩ | refine ⟨_, .str (by first | decide | omega | exact sz (by omega)), ?_⟩
          exact ⟨by first | rfl | simp_all | (simp at *; done), rfl⟩
    refine ⟨fun h9 => ?_, fun h10 => ?_⟩
    · skip
      refine sv_one ?_
      refine s_ret ?_
      refine ev_bl ?_
      exact ret_f (Ξ := Ξ) (by first | exact hk | (rw [isRobe_no (by simpa using h3)] at hk; exact hk) | (have hk2 : k (.fz (.bl ((isWhole (.int a) 1 999 && isWhole (.int b) 0 99 && isWhole (.int c) 0 99) && decide (b < a)))) _ := hk; generalize (isWhole (.int a) 1 999 && isWhole (.int b) 0 99 && isWhole (.int c) 0 99) = x at *; cases x <;> simp_all))
    · skip
      refine sv_nil ?_
      refine sq_nx ?_
      refine sv_one ?_
      refine s_ret ?_
      refine ev_cmp ?_
      refine ev_var (i := 2) rfl ?_
      refine ev_var (i := 1) rfl ?_
      refine ⟨_, .ltI, ?_⟩
      exact ret_f (Ξ := Ξ) (by first | exact hk | (rw [isRobe_no (by simpa using h3)] at hk; exact hk) | (have hk2 : k (.fz (.bl ((isWhole (.int a) 1 999 && isWhole (.int b) 0 99 && isWhole (.int c) 0 99) && decide (b < a)))) _ := hk; generalize (isWhole (.int a) 1 999 && isWhole (.int b) 0 99 && isWhole (.int c) 0 99) = x at *; cases x <;> simp_all))
theorem ok_need_text {G : Gx} (Kc : Facts G)  (h : DefIn G "need_text" s_need_text) : FOK G 1 "need_text" [] S_need_text := by
  have B := Kc.B
  refine fok_in (N := ["text"]) (ps := ["text"]) (P := []) h ⟨rfl, rfl, rfl, by decide +kernel, rfl, by decide +kernel, by decide +kernel⟩ (fun _ _ _ _ _ _ us hl => match us, hl with | [_], _ => rfl) ?_
  rintro os k Ξ ⟨d, rfl, hex, hk1, hk2⟩
  refine ⟨rfl, ?_⟩
  refine sv_one ?_
  refine s_if ?_
  refine et_not ?_
  refine et_val ?_
  refine ev_isi (T' := "str") (B _ (by decide)) (B _ (by decide)) ?_
  refine ev_var (i := 0) rfl ?_
  refine ⟨by first | rfl | decide | assumption | omega, ?_⟩
  first | refine ⟨_, .bl, ?_⟩ | refine ⟨_, .int, ?_⟩ | refine ⟨_, .lst, ?_⟩ | refine ⟨_, .str (by first | decide | omega | exact sz (by omega)), ?_⟩
  refine ⟨fun h1 => ?_, fun h2 => ?_⟩
  · skip
    refine sv_one ?_
    refine s_raise (Kc.NoText) ?_
    exact exc_f (hk2 fun ⟨z, e⟩ => by subst e; simp at h1)
  · skip
    refine sv_nil ?_
    exact nx_f (hk1 (isi_str.mp (by simpa using h2)))
theorem str_small {n : Int} (h0 : 0 ≤ n) (h1 : n ≤ 999) : (toString n : Str).length ≤ 3 := by
  have : ∀ m : Fin 1000, ((toString ((m.val : Nat) : Int) : String) : Str).length ≤ 3 := by decide +kernel
  have h := this ⟨n.toNat, by omega⟩
  have e : ((n.toNat : Nat) : Int) = n := Int.toNat_of_nonneg h0
  simp only [e] at h
  exact h
theorem show_small {ns : List Int} (hl : ns.length ≤ 3) (hn : ∀ n ∈ ns, 0 ≤ n ∧ n ≤ 999) : ((ns.map fun n => (toString n : Str)).map (·.length)).sum + (ns.map fun n => (toString n : Str)).length * ("/" : Str).length ≤ 16777216 := by
  have h1 : ∀ l : List Int, (∀ n ∈ l, 0 ≤ n ∧ n ≤ 999) → ((l.map fun n => (toString n : Str)).map (·.length)).sum ≤ 3 * l.length := by
    intro l
    induction l with
    | nil => intro _; simp
    | cons a l ih =>
      intro h
      have := ih fun n hn => h n (List.mem_cons_of_mem _ hn)
      have := str_small (h a List.mem_cons_self).1 (h a List.mem_cons_self).2
      simp only [List.map_cons, List.sum_cons, List.length_cons]
      omega
  have := h1 ns hn
  have e : ("/" : Str).length = 1 := by decide
  rw [e, List.length_map]
  omega

theorem ok_show_robe {G : Gx} (Kc : Facts G)  (h : DefIn G "show_robe" s_show_robe) : FOK G 1 "show_robe" [] S_show_robe := by
  have B := Kc.B
  refine fok_in (N := ["robe", "part"]) (ps := ["robe"]) (P := []) h ⟨rfl, rfl, rfl, by decide +kernel, rfl, by decide +kernel, by decide +kernel⟩ (fun _ _ _ _ _ _ us hl => match us, hl with | [_], _ => rfl) ?_
  rintro os k Ξ ⟨ns, rfl, hl, hn, hk⟩
  refine ⟨rfl, ?_⟩
  refine sv_one ?_
  refine s_ret ?_
  refine ev_ms PySem.F.slot_str_join PySem.F.type_str_join ?_
  refine ev_str ?_
  refine ⟨_, rfl, ?_⟩
  refine evs_cons ?_
  refine ev_lc [("part", 1)] (sl := [1]) ?_
  refine ei_tup ?_
  refine ev_var (i := 0) rfl ?_
  first | refine ⟨_, frz_fzs _, ?_⟩ | refine ⟨_, rfl, ?_⟩
  refine lc_map (fun d => match d with | .int n => .fz (.str (toString n)) | _ => .fz .non) (by rw [List.length_map]; omega) ?_ ?_
  · intro d hd
    obtain ⟨n, hn1, rfl⟩ := List.mem_map.mp hd
    have ⟨g0, g1⟩ := hn n hn1
    refine tg_name (i := 1) ?_
    refine ev_ct (id := "str") (B _ (by decide)) ?_
    refine evs_cons ?_
    refine ev_var (i := 1) rfl ?_
    refine evs_nil ?_
    first | refine ⟨_, .strS, ?_⟩ | refine ⟨_, .strI (lg_ok (by omega) (by omega)), ?_⟩
    exact ⟨by first | rfl | simp_all | (simp at *; done), rfl⟩
  · skip
    refine evs_nil ?_
    rw [show (O.lst (List.map (fun d => match d with | .int n => .fz (.str (toString n)) | _ => .fz .non) (List.map D.int ns))).frz = D.lst ((ns.map fun n => (toString n : Str)).map D.str) from by rw [frz_map]; simp [Function.comp_def]]
    refine ⟨_, .join ?_, ?_⟩
    · exact show_small hl hn
    exact ret_f (Ξ := Ξ) hk
theorem cons_of {w : Str} (h : 1 ≤ (w.length : Int)) : ∃ c cs, w.cps.toList = c :: cs := by
  cases e : w.cps.toList with
  | nil =>
    have : w.length = 0 := by rw [show w.length = w.cps.toList.length from by simp [Str.length], e]; rfl
    omega
  | cons c cs => exact ⟨c, cs, rfl⟩
theorem one_eq (c n : Nat) : (decide ((⟨#[c]⟩ : Str) = ⟨#[n]⟩)) = decide (c = n) := by
  by_cases h : c = n
  · subst h; simp
  · rw [decide_eq_false h, decide_eq_false]
    intro e
    injection e with e
    exact h (by simpa using e)

theorem s48 : ("0" : Str) = ⟨#[48]⟩ := by decide
theorem digs_all {w : Str} (h : digs w = true) : NumText.AllDigits w.cps.toList := fun c hc => by
  have h1 := List.all_eq_true.mp h c hc
  have h2 : c ∈ ("0123456789" : Str).cps.toList := of_decide_eq_true h1
  have e : ("0123456789" : Str).cps.toList = [48, 49, 50, 51, 52, 53, 54, 55, 56, 57] := by decide
  rw [e] at h2
  simp at h2
  omega
theorem num1_ne {w : Str} (h : num1 w = false) : 1 ≤ (w.length : Int) ∧ (w.length : Int) ≤ 60 := by
  unfold num1 at h
  simp at h
  omega

theorem ok_number_of {G : Gx} (Kc : Facts G)  (h : DefIn G "number_of" s_number_of) : FOK G 1 "number_of" [] S_number_of := by
  have B := Kc.B
  refine fok_in (N := ["word", "sign"]) (ps := ["word"]) (P := []) h ⟨rfl, rfl, rfl, by decide +kernel, rfl, by decide +kernel, by decide +kernel⟩ (fun _ _ _ _ _ _ us hl => match us, hl with | [_], _ => rfl) ?_
  rintro os k Ξ ⟨w, rfl, hl, hk1, hk2⟩
  refine ⟨rfl, ?_⟩
  refine sv_cons ?_
  refine s_if ?_
  refine ET.cut (v := num1 w) ?_ ?_
  · skip
    refine EW.t ?_
    refine ew_or ?_
    refine et_not ?_
    refine et_chainV ?_
    refine ev_int ?_
    refine ev_cb (id := "len") (B _ (by decide)) ?_
    refine evs_cons ?_
    refine ev_var (i := 0) rfl ?_
    refine evs_nil ?_
    first | refine ⟨_, .lenL, ?_⟩ | refine ⟨_, .lenT, ?_⟩ | refine ⟨_, .lenS (by first | decide | omega | exact sz (by omega)), ?_⟩
    refine ⟨?dz, ?g1, ?g2⟩
    case g1 =>
      intro k' hk'
      refine ev_glob (Kc.MOST_FIGURES) ?_
      exact hk'
    refine ⟨_, _, .leI, .leI, ?_⟩
    refine ⟨fun h1 => ?_, fun h2 => ?_⟩
    · skip
      exact ⟨by unfold num1; rw [h1]; rfl, rfl⟩
    · skip
      have h2' := h2
      simp at h2'
      obtain ⟨c, cs, hc⟩ := cons_of (w := w) (by omega)
      refine ew_or1 ?_
      refine EW.t ?_
      refine ew_and ?_
      refine et_cmp ?_
      refine ev_ix ?_
      refine ev_var (i := 0) rfl ?_
      refine ev_int ?_
      refine ⟨_, .str (c := c) (sz (by omega)) (by rw [hc]; simp [L2.atI, L2.ixN]), ?_⟩
      refine ev_str ?_
      first | refine ⟨_, .eqI, ?_⟩ | refine ⟨_, .eqS, ?_⟩ | refine ⟨_, .eqB, ?_⟩ | refine ⟨_, .eqD (by first | rfl | decide | assumption | omega) (by first | rfl | decide | assumption | omega), ?_⟩
      refine ⟨fun h3 => ?_, fun h4 => ?_⟩
      · skip
        refine ew_and1 ?_
        refine et_cmp ?_
        refine ev_var (i := 0) rfl ?_
        refine ev_str ?_
        first | refine ⟨_, .neI, ?_⟩ | refine ⟨_, .neS, ?_⟩ | refine ⟨_, .neB, ?_⟩ | refine ⟨_, .neD (by first | rfl | decide | assumption | omega) (by first | rfl | decide | assumption | omega), ?_⟩
        exact ⟨by
          have e : c = 48 := by
            have := h3
            rw [s48, one_eq] at this
            exact of_decide_eq_true this
          subst e
          unfold num1
          rw [h2, hc]
          simp, rfl⟩
      · skip
        exact ⟨by
          have e : ¬ c = 48 := by
            have := h4
            rw [s48, one_eq] at this
            exact of_decide_eq_false this
          unfold num1
          rw [h2, hc]
          simp [e], rfl⟩
  refine ⟨fun h5 => ?_, fun h6 => ?_⟩
  · skip
    refine sv_one ?_
    refine s_raise (Kc.NoText) ?_
    exact exc_f (k := k) (hk2 (by unfold numOf; rw [if_pos h5]))
  · skip
    refine sv_nil ?_
    refine sq_nx ?_
    refine sv_cons ?_
    refine s_for (sl := [1]) [1] ?_
    refine ei_str ?_
    refine ev_var (i := 0) rfl ?_
    first | refine ⟨_, frz_fzs _, ?_⟩ | refine ⟨_, rfl, ?_⟩
    refine for_each (fun j => ((w.cps.toList.take j).all fun c => decide (c ∈ ("0123456789" : Str).cps.toList)) = true) ?_ ?_ ?_
    · simp
    · intro j d hd hj
      obtain ⟨c, hc, rfl⟩ := signs_at hd
      refine tg_name (i := 1) ?_
      refine sv_one ?_
      refine s_if ?_
      refine et_cmp ?_
      refine ev_var (i := 1) rfl ?_
      refine ev_glob (Kc.FIGURES) ?_
      first | refine ⟨_, .niC, ?_⟩ | refine ⟨_, .niL (by first | rfl | decide | assumption | omega) (by first | rfl | decide | assumption | omega), ?_⟩ | refine ⟨_, .niT (by first | rfl | decide | assumption | omega) (by first | rfl | decide | assumption | omega), ?_⟩
      refine ⟨fun h7 => ?_, fun h8 => ?_⟩
      · skip
        refine sv_one ?_
        refine s_raise (Kc.NoText) ?_
        exact exc_f (k := k) (hk2 (by
          unfold numOf
          rw [if_neg (by rw [h6]; decide), if_neg]
          intro z
          have h9 := List.all_eq_true.mp z c (List.mem_of_getElem? hc)
          rw [h9] at h7
          cases h7))
      · skip
        refine sv_nil ?_
        exact ⟨by rw [List.take_succ, hc]; simp_all, rfl⟩
    · intro hj
      have hg : digs w = true := by
        have hj2 := hj
        rw [show (Fr.signs w).length = w.cps.toList.length from by simp [Fr.signs], List.take_length] at hj2
        exact hj2
      have hr := num1_ne h6
      have hi := intText_digits (digs_all hg) (by obtain ⟨c, cs, e⟩ := cons_of hr.1; rw [e]; simp) (by omega)
      refine sq_nx ?_
      refine sv_one ?_
      refine s_ret ?_
      refine ev_ct (id := "int") (B _ (by decide)) ?_
      refine evs_cons ?_
      refine ev_var (i := 0) rfl ?_
      refine evs_nil ?_
      refine ⟨_, .intS hi (by omega), ?_⟩
      exact ret_f (Ξ := Ξ) (hk1 _ (by unfold numOf; rw [if_neg (by rw [h6]; decide), if_pos hg]))
theorem le_sum : ∀ {l : List Nat} {n : Nat}, n ∈ l → n ≤ l.sum
  | a :: l, n, h => by
    rw [List.sum_cons]
    rcases List.mem_cons.mp h with e | h
    · omega
    · have := le_sum h
      omega
theorem nums_some {zs : List Str} {acc : List O} {f : D → Option O} (hf : ∀ w, f (.str w) = (numOf w).map fun n => .fz (.int n)) (h : (zs.map D.str).map f = acc.map some) : ∃ ns, nums zs = some ns ∧ acc = ns.map fun n => .fz (.int n) := by
  have key : ∀ {zs : List Str} {acc : List O}, (zs.map D.str).map f = acc.map some → (zs.all fun w => (numOf w).isSome) = true ∧ acc = zs.map fun w => .fz (.int ((numOf w).getD 0)) := by
    intro zs
    induction zs with
    | nil => intro acc h; cases acc <;> simp_all
    | cons w zs ih =>
      intro acc h
      cases acc with
      | nil => simp at h
      | cons a acc =>
        simp only [List.map_cons, List.cons.injEq] at h
        obtain ⟨h1, h2⟩ := h
        obtain ⟨i1, i2⟩ := ih h2
        rw [hf] at h1
        cases e : numOf w with
        | none => rw [e] at h1; cases h1
        | some n =>
          rw [e] at h1
          cases h1
          exact ⟨by rw [List.all_cons, e, i1]; rfl, by rw [List.map_cons, e, i2]; rfl⟩
  obtain ⟨k1, k2⟩ := key h
  exact ⟨zs.map fun w => (numOf w).getD 0, by unfold nums; rw [if_pos k1], by rw [k2, List.map_map]; rfl⟩
theorem nums_none {zs : List Str} {w : Str} (h : w ∈ zs) (e : numOf w = none) : nums zs = none := by
  unfold nums
  rw [if_neg]
  intro z
  have := List.all_eq_true.mp z w h
  rw [e] at this
  cases this
theorem split_small {z : Str} (h : z.length ≤ 50000) : (Txt.split z "/").length ≤ 50002 ∧ ∀ w ∈ Txt.split z "/", w.length ≤ 100000 := by
  have h1 := PyProof.Rows.split_le z "/"
  have h2 := PyProof.Rows.split_weight z "/" (by decide)
  refine ⟨by omega, fun w hw => ?_⟩
  have h3 : w.length ≤ ((Txt.split z "/").map (·.length)).sum := le_sum (List.mem_map_of_mem hw)
  omega

theorem ok_read_robe {G : Gx} (Kc : Facts G) (F_need_text : FOK G 1 "need_text" [] S_need_text) (F_number_of : FOK G 1 "number_of" [] S_number_of) (F_is_robe : FOK G 2 "is_robe" [] S_is_robe) (h : DefIn G "read_robe" s_read_robe) : FOK G 3 "read_robe" [] S_read_robe := by
  have B := Kc.B
  refine fok_in (N := ["text", "found", "word"]) (ps := ["text"]) (P := []) h ⟨rfl, rfl, rfl, by decide +kernel, rfl, by decide +kernel, by decide +kernel⟩ (fun _ _ _ _ _ _ us hl => match us, hl with | [_], _ => rfl) ?_
  rintro os k Ξ ⟨d, rfl, hex, hl, hk1, hk2⟩
  refine ⟨rfl, ?_⟩
  refine sv_cons ?_
  refine s_expr ?_
  refine ev_call (F_need_text.mono (Nat.le_of_ble_eq_true rfl)) ?_
  refine eva_cons ?_
  refine ev_var (i := 0) rfl ?_
  refine eva_nil ?_
  refine ⟨_, rfl, by first | assumption | rfl, fun hz => ?_, fun hz => exc_f (k := k) (hk2 (by cases d <;> first | rfl | exact absurd ⟨_, rfl⟩ hz))⟩
  obtain ⟨z, rfl⟩ := hz
  obtain ⟨hs1, hs2⟩ := split_small (hl z rfl)
  refine sq_nx ?_
  refine sv_cons ?_
  refine s_set (i := 1) ?_
  refine ev_ct (id := "tuple") (B _ (by decide)) ?_
  refine evs_cons ?_
  refine ev_lc [("word", 2)] (sl := [2]) ?_
  refine ei_lst ?_
  refine ev_ms PySem.F.slot_str_split PySem.F.type_str_split ?_
  refine ev_var (i := 0) rfl ?_
  refine ⟨_, rfl, ?_⟩
  refine evs_cons ?_
  refine ev_str ?_
  refine evs_nil ?_
  refine ⟨_, .split (by decide) (by have := hl z rfl; exact sz (by omega)), ?_⟩
  first | refine ⟨_, frz_fzs _, ?_⟩ | refine ⟨_, rfl, ?_⟩
  refine lc_try (fun d => match d with | .str w => (numOf w).map fun n => .fz (.int n) | _ => none) (by rw [List.length_map]; omega) ?_ ?_
  · intro d hd
    obtain ⟨w, hw, rfl⟩ := List.mem_map.mp hd
    refine tg_name (i := 2) ?_
    refine ev_call (F_number_of.mono (Nat.le_of_ble_eq_true rfl)) ?_
    refine eva_cons ?_
    refine ev_var (i := 2) rfl ?_
    refine eva_nil ?_
    refine ⟨_, rfl, hs2 w hw, fun n hn => ?_, fun hn => exc_f (k := k) (hk2 (by show (match nums _ with | some ns => _ | none => none) = none; rw [nums_none hw hn]))⟩
    exact ⟨by show (numOf w).map _ = _; rw [hn]; rfl, rfl⟩
  · intro acc hacc
    obtain ⟨ns, hns, rfl⟩ := nums_some (fun w => rfl) hacc
    refine evs_nil ?_
    rw [show (O.lst (ns.map fun n => O.fz (D.int n))).frz = D.lst (ns.map D.int) from by rw [frz_lst, show (ns.map fun n => O.fz (D.int n)) = (ns.map D.int).map O.fz from by rw [List.map_map]; rfl, frzL_fz]]
    first | refine ⟨_, .tupL, ?_⟩ | refine ⟨_, .tupT, ?_⟩
    refine sq_nx ?_
    refine sv_cons ?_
    refine s_if ?_
    refine et_not ?_
    refine et_val ?_
    refine ev_call (F_is_robe.mono (Nat.le_of_ble_eq_true rfl)) ?_
    refine eva_cons ?_
    refine ev_var (i := 1) rfl ?_
    refine eva_nil ?_
    refine ⟨_, rfl, ?_⟩
    first | refine ⟨_, .bl, ?_⟩ | refine ⟨_, .int, ?_⟩ | refine ⟨_, .lst, ?_⟩ | refine ⟨_, .str (by first | decide | omega | exact sz (by omega)), ?_⟩
    refine ⟨fun h1 => ?_, fun h2 => ?_⟩
    · skip
      refine sv_one ?_
      refine s_raise (Kc.NoText) ?_
      exact exc_f (k := k) (hk2 (by show (match nums _ with | some ns => _ | none => none) = _; rw [hns]; show (if isRobe ns = true then _ else _) = _; rw [if_neg (by simpa using h1)]))
    · skip
      refine sv_nil ?_
      refine sq_nx ?_
      refine sv_one ?_
      refine s_ret ?_
      refine ev_var (i := 1) rfl ?_
      exact ret_f (Ξ := Ξ) (hk1 _ (by show (match nums _ with | some ns => _ | none => none) = _; rw [hns]; show (if isRobe ns = true then _ else _) = _; rw [if_pos (by simpa using h2)]))
end K76

set_option Elab.async false
set_option linter.all false
set_option maxRecDepth 100000
set_option maxHeartbeats 2000000
/-! K76b: the law's side. -/
namespace K76
open PySem PySem.Spec PyProof.Rows L2 Fr
def S_robe : FSpec := fun os k Ξ => ∃ (cs : List Int) (a g : Int), os = [penO cs a g] ∧ cs.length ≤ 63 ∧ 0 ≤ a ∧ a ≤ 90000 ∧ 0 ≤ g ∧ ∀ s t o a' g' : Int, 1 ≤ s → s ≤ 999 → 0 ≤ t → t ≤ 99 → t < s → 0 ≤ o → o ≤ 99 → a ≤ a' → a' ≤ a + 20 → 0 ≤ g' → k (.fz (.tup [.int s, .int t, .int o])) [penO cs a' g']
def numIn (w : Str) (l m : Int) : Option Int := match numOf w with
  | some n => if l ≤ n ∧ n ≤ m then some n else none
  | none => none
def optI : Option Int → D
  | some n => .int n
  | none => .non
def optT : Option (List Int) → D
  | some ns => .tup (ns.map .int)
  | none => .non
def S_same0 : FSpec := fun os k Ξ => ∃ a b : Int, os = [.fz (.int a), .fz (.int b)] ∧ k (.fz (.bl (decide (a = b)))) os
def S_same : FSpec := fun os k Ξ => ∃ as bs : List Int, os = [.fz (.tup (as.map .int)), .fz (.tup (bs.map .int))] ∧ as.length ≤ 1000 ∧ k (.fz (.bl (decide (as = bs)))) os
def S_number_in : FSpec := fun os k Ξ => ∃ (w : Str) (l m : Int), os = [.fz (.str w), .fz (.int l), .fz (.int m)] ∧ w.length ≤ 100000 ∧ PyData.strOk w = true ∧ k (.fz (optI (numIn w l m))) os
def S_robe_in : FSpec := fun os k Ξ => ∃ w : Str, os = [.fz (.str w)] ∧ w.length ≤ 50000 ∧ PyData.strOk w = true ∧ k (.fz (optT (readRobe (.str w)))) os
def S_bent : FSpec := fun os k Ξ => ∃ (cs : List Int) (a g : Int) (z : Str), os = [penO cs a g, .fz (.str z)] ∧ cs.length ≤ 63 ∧ 0 ≤ a ∧ a ≤ 90000 ∧ 0 ≤ g ∧ z.length ≤ 20 ∧ PyData.strOk z = true ∧ ∀ (y : Str) (a' g' : Int), y.length ≤ 50000 → PyData.strOk y = true → a ≤ a' → a' ≤ a + 20 → 0 ≤ g' → k (.fz (.str y)) [penO cs a' g', .fz (.str z)]
def S_right : FSpec := fun os k Ξ => ∃ (d : D) (o : Option (List Int)), os = [.fz d, .fz (optT o)] ∧ d.ex = false ∧ (∀ z, d = .str z → z.length ≤ 50000) ∧ k (.fz (.bl (decide (readRobe d = o)))) os

theorem ok__law_pen {G : Gx} (Kc : Facts G) (h : DefIn G "_law_pen" s__law_pen) : FOK G 1 "_law_pen" [] S_pen := by
  have B := Kc.B
  refine fok_in (N := ["_law_script", "_law_cell"]) (ps := ["_law_script"]) (P := []) h ⟨rfl, rfl, rfl, by decide +kernel, rfl, by decide +kernel, by decide +kernel⟩ (fun _ _ _ _ _ _ us hl => match us, hl with | [_], _ => rfl) ?_
  rintro os k Ξ ⟨ns, rfl, hk⟩
  refine ⟨rfl, ?_⟩
  show SV _ _ _ [some _, none] _
  refine sv_one ?_
  refine s_ret ?_
  refine ev_lst ?_
  refine evs_cons ?_
  refine ev_lc [("_law_cell", 1)] (sl := [1]) ?_
  refine ei_lst ?_
  refine ev_sl ?_
  refine ev_var (i := 0) rfl ?_
  refine ev_int ?_
  refine ⟨_, rfl, ?_⟩
  refine ⟨_, .scr, ?_⟩
  obtain ⟨cs, hcs, ecs⟩ := cells_eq ns
  rw [ecs]
  first | refine ⟨_, frz_fzs _, ?_⟩ | refine ⟨_, rfl, ?_⟩
  refine lc_map (fun d => .fz d) (by rw [List.length_map]; omega) ?_ ?_
  · intro d hd
    skip
    refine tg_name (i := 1) ?_
    refine ev_var (i := 1) rfl ?_
    exact ⟨by first | rfl | (simp_all; done) | (simp at *; done), rfl⟩
  · skip
    refine evs_cons ?_
    refine ev_int ?_
    refine evs_cons ?_
    refine ev_int ?_
    refine evs_nil ?_
    refine ⟨Nat.le_of_ble_eq_true rfl, ?_⟩
    exact ret_f (Ξ := Ξ) (by have h9 := hk cs hcs; rw [frz_fzs]; exact h9)
theorem ok__law_take {G : Gx} (Kc : Facts G) (h : DefIn G "_law_take" s__law_take) : FOK G 1 "_law_take" [] S_take := by
  have B := Kc.B
  refine fok_in (N := ["_law_pen_here", "_law_upto", "_law_found", "_law_at", "_law_cell", "_law_great", "_law_number"]) (ps := ["_law_pen_here", "_law_upto"]) (P := [0]) h ⟨rfl, rfl, rfl, by decide +kernel, rfl, by decide +kernel, by decide +kernel⟩ (fun _ _ _ _ _ _ us hl => match us, hl with | [_, _], _ => rfl) ?_
  rintro os k Ξ ⟨cs, a, g, upto, rfl, hcs, ha0, ha1, hg0, hu0, hu1, hk⟩
  refine ⟨rfl, ?_⟩
  show SV _ _ _ [some _, some _, none, none, none, none, none] _
  refine sv_cons ?_
  refine s_if ?_
  refine et_cmp ?_
  refine ev_ixO (i := 0) rfl ?_
  refine ev_int ?_
  refine ⟨rfl, _, _, rfl, rfl, ?_⟩
  refine ev_int ?_
  refine ⟨_, .gtI, ?_⟩
  refine ⟨fun h1 => ?_, fun h2 => ?_⟩
  · skip
    refine sv_cons ?_
    refine s_set (i := 2) ?_
    refine ev_bin ?_
    refine ev_ixO (i := 0) rfl ?_
    refine ev_int ?_
    refine ⟨rfl, _, _, rfl, rfl, ?_⟩
    refine ev_var (i := 1) rfl ?_
    refine ⟨_, .modI (by first | decide | assumption | omega), ?_⟩
    refine sq_nx ?_
    refine sv_cons ?_
    refine s_setix (i := 0) ?_
    refine ev_bin ?_
    refine ev_ixO (i := 0) rfl ?_
    refine ev_int ?_
    refine ⟨rfl, _, _, rfl, rfl, ?_⟩
    refine ev_var (i := 1) rfl ?_
    refine ⟨_, .fdivI (by first | exact ⟨by decide, by decide⟩ | exact ⟨hu0, hu1⟩), ?_⟩
    refine ⟨⟨_, rfl⟩, ?_⟩
    refine ev_int ?_
    refine ⟨_, _, _, rfl, rfl, rfl, ?_⟩
    refine sq_nx ?_
    refine sv_one ?_
    refine s_ret ?_
    refine ev_var (i := 2) rfl ?_
    exact ret_p (Ξ := Ξ) rfl (hk _ _ _ (Int.emod_nonneg _ (by omega)) (Int.emod_lt_of_pos _ hu0) (Int.le_refl _) (by omega) (Int.ediv_nonneg hg0 (by omega)))
  · skip
    refine sv_nil ?_
    refine sq_nx ?_
    refine sv_cons ?_
    refine s_set (i := 3) ?_
    refine ev_ixO (i := 0) rfl ?_
    refine ev_int ?_
    refine ⟨rfl, _, _, rfl, rfl, ?_⟩
    refine sq_nx ?_
    refine sv_cons ?_
    refine s_setix (i := 0) ?_
    refine ev_bin ?_
    refine ev_var (i := 3) rfl ?_
    refine ev_int ?_
    first | refine ⟨_, .addI, ?_⟩ | refine ⟨_, .addS (by first | decide | omega | exact sz (by omega)), ?_⟩ | refine ⟨_, .addL (by first | decide | omega | exact sz (by omega)), ?_⟩ | refine ⟨_, .addT (by first | decide | omega | exact sz (by omega)), ?_⟩
    refine ⟨⟨_, rfl⟩, ?_⟩
    refine ev_int ?_
    refine ⟨_, _, _, rfl, rfl, rfl, ?_⟩
    refine sq_nx ?_
    refine sv_cons ?_
    refine s_set (i := 4) ?_
    refine ev_bin ?_
    refine ev_bin ?_
    refine ev_int ?_
    refine ev_var (i := 3) rfl ?_
    refine ⟨_, .mulI (by first | exact .inl ⟨by decide, by decide⟩ | exact .inr ⟨by decide, by decide⟩ | exact .inr ⟨by omega, by omega⟩), ?_⟩
    refine ev_int ?_
    first | refine ⟨_, .addI, ?_⟩ | refine ⟨_, .addS (by first | decide | omega | exact sz (by omega)), ?_⟩ | refine ⟨_, .addL (by first | decide | omega | exact sz (by omega)), ?_⟩ | refine ⟨_, .addT (by first | decide | omega | exact sz (by omega)), ?_⟩
    refine sq_nx ?_
    refine sv_join (fun ρ' => ∃ n : Int, ρ' = [some (penO cs (a + 1) g), some (.fz (.int upto)), none, some (.fz (.int a)), some (.fz (.int n)), none, none]) ?_ ?_
    · skip
      refine s_if ?_
      refine et_cmp ?_
      refine ev_ixO (i := 0) rfl ?_
      refine ev_int ?_
      refine ⟨rfl, _, _, rfl, rfl, ?_⟩
      refine ev_lst ?_
      refine evs_nil ?_
      refine ⟨Nat.le_of_ble_eq_true rfl, ?_⟩
      first | refine ⟨_, .neI, ?_⟩ | refine ⟨_, .neS, ?_⟩ | refine ⟨_, .neB, ?_⟩ | refine ⟨_, .neD (by first | rfl | decide | assumption | omega | exact ok_ints _) (by first | rfl | decide | assumption | omega | exact ok_ints _), ?_⟩
      refine ⟨fun h3 => ?_, fun h4 => ?_⟩
      · skip
        refine sv_one ?_
        have hne := cells_ne h3
        obtain ⟨n0, hn0⟩ := at_mod (a := a) hne
        have hlp : 0 < ((cs.map D.int).length : Int) := by
          rw [List.length_map]
          have := List.length_pos_iff.mpr hne
          omega
        refine s_set (i := 4) ?_
        refine ev_ix ?_
        refine ev_ixO (i := 0) rfl ?_
        refine ev_int ?_
        refine ⟨rfl, _, _, rfl, rfl, ?_⟩
        refine ev_bin ?_
        refine ev_var (i := 3) rfl ?_
        refine ev_cb (id := "len") (B _ (by decide)) ?_
        refine evs_cons ?_
        refine ev_ixO (i := 0) rfl ?_
        refine ev_int ?_
        refine ⟨rfl, _, _, rfl, rfl, ?_⟩
        refine evs_nil ?_
        first | refine ⟨_, .lenL, ?_⟩ | refine ⟨_, .lenT, ?_⟩ | refine ⟨_, .lenS (by first | decide | omega | exact sz (by omega)), ?_⟩
        refine ⟨_, .modI hlp, ?_⟩
        refine ⟨_, .lst hn0, ?_⟩
        refine sq_nx ?_; exact ⟨_, rfl⟩
      · skip
        refine sv_nil ?_
        refine sq_nx ?_; exact ⟨_, rfl⟩
    rintro _ ⟨n, rfl⟩
    refine sv_cons ?_
    refine s_if ?_
    refine ET.cut (v := decide (a < ((cs.map D.int).length : Int)) && decide (10 ^ (18 : Int).toNat ≤ (if n < 0 then -n else n))) ?_ ?_
    · skip
      refine EW.t ?_
      refine ew_and ?_
      refine et_cmp ?_
      refine ev_var (i := 3) rfl ?_
      refine ev_cb (id := "len") (B _ (by decide)) ?_
      refine evs_cons ?_
      refine ev_ixO (i := 0) rfl ?_
      refine ev_int ?_
      refine ⟨rfl, _, _, rfl, rfl, ?_⟩
      refine evs_nil ?_
      first | refine ⟨_, .lenL, ?_⟩ | refine ⟨_, .lenT, ?_⟩ | refine ⟨_, .lenS (by first | decide | omega | exact sz (by omega)), ?_⟩
      refine ⟨_, .ltI, ?_⟩
      refine ⟨fun h5 => ?_, fun h6 => ?_⟩
      · skip
        refine ew_and1 ?_
        refine et_cmp ?_
        refine ev_cb (id := "abs") (B _ (by decide)) ?_
        refine evs_cons ?_
        refine ev_var (i := 4) rfl ?_
        refine evs_nil ?_
        refine ⟨_, .abs, ?_⟩
        refine ev_bin ?_
        refine ev_int ?_
        refine ev_int ?_
        refine ⟨_, .powI (by first | exact ⟨by decide, by decide, by decide⟩ | exact cpow_ok (by omega) (by omega) (by decide) (by decide) | (have h5 := sq_bound ha0 ha1; have h6 := Int.emod_nonneg n (show (2147483629 : Int) ≠ 0 by decide); have h7 := Int.emod_lt_of_pos n (show (0 : Int) < 2147483629 by decide); exact cpow_ok (by omega) (by omega) (by decide) (by decide))), ?_⟩
        refine ⟨_, .geI, ?_⟩
        exact ⟨by first | rfl | (simp_all; done) | (simp at *; done), rfl⟩
      · skip
        exact ⟨by rw [h6]; rfl, rfl⟩
    refine ⟨fun h7 => ?_, fun h8 => ?_⟩
    · skip
      refine sv_cons ?_
      refine s_set (i := 5) ?_
      refine ev_bin ?_
      refine ev_bin ?_
      refine ev_int ?_
      refine ev_bin ?_
      refine ev_cb (id := "abs") (B _ (by decide)) ?_
      refine evs_cons ?_
      refine ev_var (i := 4) rfl ?_
      refine evs_nil ?_
      refine ⟨_, .abs, ?_⟩
      refine ev_bin ?_
      refine ev_int ?_
      refine ev_int ?_
      refine ⟨_, .powI (by first | exact ⟨by decide, by decide, by decide⟩ | exact cpow_ok (by omega) (by omega) (by decide) (by decide) | (have h5 := sq_bound ha0 ha1; have h6 := Int.emod_nonneg n (show (2147483629 : Int) ≠ 0 by decide); have h7 := Int.emod_lt_of_pos n (show (0 : Int) < 2147483629 by decide); exact cpow_ok (by omega) (by omega) (by decide) (by decide))), ?_⟩
      refine ⟨_, .subI, ?_⟩
      refine ⟨_, .mulI (by first | exact .inl ⟨by decide, by decide⟩ | exact .inr ⟨by decide, by decide⟩ | exact .inr ⟨by omega, by omega⟩), ?_⟩
      refine ev_ct (id := "int") (B _ (by decide)) ?_
      refine evs_cons ?_
      refine ev_cmp ?_
      refine ev_var (i := 4) rfl ?_
      refine ev_int ?_
      refine ⟨_, .ltI, ?_⟩
      refine evs_nil ?_
      first | refine ⟨_, .intB, ?_⟩ | refine ⟨_, .intI, ?_⟩ | refine ⟨_, .intS (by first | rfl | decide | assumption | omega | exact ok_ints _) (by first | decide | omega | exact sz (by omega)), ?_⟩
      first | refine ⟨_, .addI, ?_⟩ | refine ⟨_, .addS (by first | decide | omega | exact sz (by omega)), ?_⟩ | refine ⟨_, .addL (by first | decide | omega | exact sz (by omega)), ?_⟩ | refine ⟨_, .addT (by first | decide | omega | exact sz (by omega)), ?_⟩
      refine sq_nx ?_
      refine sv_cons ?_
      refine s_setix (i := 0) ?_
      refine ev_bin ?_
      refine ev_var (i := 5) rfl ?_
      refine ev_var (i := 1) rfl ?_
      refine ⟨_, .fdivI (by first | exact ⟨by decide, by decide⟩ | exact ⟨hu0, hu1⟩), ?_⟩
      refine ⟨⟨_, rfl⟩, ?_⟩
      refine ev_int ?_
      refine ⟨_, _, _, rfl, rfl, rfl, ?_⟩
      refine sq_nx ?_
      refine sv_one ?_
      refine s_ret ?_
      refine ev_bin ?_
      refine ev_var (i := 5) rfl ?_
      refine ev_var (i := 1) rfl ?_
      refine ⟨_, .modI (by first | decide | assumption | omega), ?_⟩
      exact ret_p (Ξ := Ξ) rfl (hk _ _ _ (Int.emod_nonneg _ (by omega)) (Int.emod_lt_of_pos _ hu0) (by omega) (Int.le_refl _) (Int.ediv_nonneg (great_ok (by assumption)) (by omega)))
    · skip
      refine sv_nil ?_
      refine sq_nx ?_
      refine sv_join (fun ρ' => ∃ m : Int, 0 ≤ m ∧ m < 2147483647 ∧ ρ' = [some (penO cs (a + 1) g), some (.fz (.int upto)), none, some (.fz (.int a)), some (.fz (.int n)), none, some (.fz (.int m))]) ?_ ?_
      · skip
        refine s_set (i := 6) ?_
        refine ev_bin ?_
        refine ev_bin ?_
        refine ev_bin ?_
        refine ev_bin ?_
        refine ev_bin ?_
        refine ev_bin ?_
        refine ev_var (i := 4) rfl ?_
        refine ev_int ?_
        refine ⟨_, .modI (by first | decide | assumption | omega), ?_⟩
        refine ev_bin ?_
        refine ev_int ?_
        refine ev_var (i := 3) rfl ?_
        refine ⟨_, .mulI (by first | exact .inl ⟨by decide, by decide⟩ | exact .inr ⟨by decide, by decide⟩ | exact .inr ⟨by omega, by omega⟩), ?_⟩
        first | refine ⟨_, .addI, ?_⟩ | refine ⟨_, .addS (by first | decide | omega | exact sz (by omega)), ?_⟩ | refine ⟨_, .addL (by first | decide | omega | exact sz (by omega)), ?_⟩ | refine ⟨_, .addT (by first | decide | omega | exact sz (by omega)), ?_⟩
        refine ev_bin ?_
        refine ev_bin ?_
        refine ev_int ?_
        refine ev_var (i := 3) rfl ?_
        refine ⟨_, .mulI (by first | exact .inl ⟨by decide, by decide⟩ | exact .inr ⟨by decide, by decide⟩ | exact .inr ⟨by omega, by omega⟩), ?_⟩
        refine ev_var (i := 3) rfl ?_
        refine ⟨_, .mulI (by first | exact .inl ⟨by decide, by decide⟩ | exact .inr ⟨by decide, by decide⟩ | exact .inr ⟨by omega, by omega⟩), ?_⟩
        first | refine ⟨_, .addI, ?_⟩ | refine ⟨_, .addS (by first | decide | omega | exact sz (by omega)), ?_⟩ | refine ⟨_, .addL (by first | decide | omega | exact sz (by omega)), ?_⟩ | refine ⟨_, .addT (by first | decide | omega | exact sz (by omega)), ?_⟩
        refine ev_int ?_
        first | refine ⟨_, .addI, ?_⟩ | refine ⟨_, .addS (by first | decide | omega | exact sz (by omega)), ?_⟩ | refine ⟨_, .addL (by first | decide | omega | exact sz (by omega)), ?_⟩ | refine ⟨_, .addT (by first | decide | omega | exact sz (by omega)), ?_⟩
        refine ev_int ?_
        refine ⟨_, .powI (by first | exact ⟨by decide, by decide, by decide⟩ | exact cpow_ok (by omega) (by omega) (by decide) (by decide) | (have h5 := sq_bound ha0 ha1; have h6 := Int.emod_nonneg n (show (2147483629 : Int) ≠ 0 by decide); have h7 := Int.emod_lt_of_pos n (show (0 : Int) < 2147483629 by decide); exact cpow_ok (by omega) (by omega) (by decide) (by decide))), ?_⟩
        refine ev_int ?_
        refine ⟨_, .modI (by first | decide | assumption | omega), ?_⟩
        refine sq_nx ⟨_, Int.emod_nonneg _ (by decide), Int.emod_lt_of_pos _ (by decide), rfl⟩
      rintro _ ⟨m, hm0, hm1, rfl⟩
      refine sv_join (fun ρ' => ∃ m : Int, 0 ≤ m ∧ m < 2147483647 ∧ ρ' = [some (penO cs (a + 1) g), some (.fz (.int upto)), none, some (.fz (.int a)), some (.fz (.int n)), none, some (.fz (.int m))]) ?_ ?_
      · skip
        refine s_set (i := 6) ?_
        refine ev_bin ?_
        refine ev_bin ?_
        refine ev_bin ?_
        refine ev_bin ?_
        refine ev_bin ?_
        refine ev_var (i := 6) rfl ?_
        refine ev_int ?_
        refine ⟨_, .mulI (by first | exact .inl ⟨by decide, by decide⟩ | exact .inr ⟨by decide, by decide⟩ | exact .inr ⟨by omega, by omega⟩), ?_⟩
        refine ev_bin ?_
        refine ev_int ?_
        refine ev_var (i := 3) rfl ?_
        refine ⟨_, .mulI (by first | exact .inl ⟨by decide, by decide⟩ | exact .inr ⟨by decide, by decide⟩ | exact .inr ⟨by omega, by omega⟩), ?_⟩
        first | refine ⟨_, .addI, ?_⟩ | refine ⟨_, .addS (by first | decide | omega | exact sz (by omega)), ?_⟩ | refine ⟨_, .addL (by first | decide | omega | exact sz (by omega)), ?_⟩ | refine ⟨_, .addT (by first | decide | omega | exact sz (by omega)), ?_⟩
        refine ev_int ?_
        first | refine ⟨_, .addI, ?_⟩ | refine ⟨_, .addS (by first | decide | omega | exact sz (by omega)), ?_⟩ | refine ⟨_, .addL (by first | decide | omega | exact sz (by omega)), ?_⟩ | refine ⟨_, .addT (by first | decide | omega | exact sz (by omega)), ?_⟩
        refine ev_int ?_
        refine ⟨_, .powI (by first | exact ⟨by decide, by decide, by decide⟩ | exact cpow_ok (by omega) (by omega) (by decide) (by decide) | (have h5 := sq_bound ha0 ha1; have h6 := Int.emod_nonneg n (show (2147483629 : Int) ≠ 0 by decide); have h7 := Int.emod_lt_of_pos n (show (0 : Int) < 2147483629 by decide); exact cpow_ok (by omega) (by omega) (by decide) (by decide))), ?_⟩
        refine ev_int ?_
        refine ⟨_, .modI (by first | decide | assumption | omega), ?_⟩
        refine sq_nx ⟨_, Int.emod_nonneg _ (by decide), Int.lt_trans (Int.emod_lt_of_pos _ (by decide)) (by decide), rfl⟩
      rintro _ ⟨m2, hm2, hm3, rfl⟩
      refine sv_join (fun ρ' => ∃ m : Int, 0 ≤ m ∧ ρ' = [some (penO cs (a + 1) g), some (.fz (.int upto)), none, some (.fz (.int a)), some (.fz (.int n)), none, some (.fz (.int m))]) ?_ ?_
      · skip
        refine s_if ?_
        refine et_cmp ?_
        refine ev_var (i := 1) rfl ?_
        refine ev_bin ?_
        refine ev_int ?_
        refine ev_int ?_
        refine ⟨_, .powI (by first | exact ⟨by decide, by decide, by decide⟩ | exact cpow_ok (by omega) (by omega) (by decide) (by decide) | (have h5 := sq_bound ha0 ha1; have h6 := Int.emod_nonneg n (show (2147483629 : Int) ≠ 0 by decide); have h7 := Int.emod_lt_of_pos n (show (0 : Int) < 2147483629 by decide); exact cpow_ok (by omega) (by omega) (by decide) (by decide))), ?_⟩
        refine ⟨_, .gtI, ?_⟩
        refine ⟨fun h9 => ?_, fun h10 => ?_⟩
        · skip
          refine sv_one ?_
          refine s_set (i := 6) ?_
          refine ev_bin ?_
          refine ev_bin ?_
          refine ev_var (i := 6) rfl ?_
          refine ev_int ?_
          first | refine ⟨_, .addI, ?_⟩ | refine ⟨_, .addS (by first | decide | omega | exact sz (by omega)), ?_⟩ | refine ⟨_, .addL (by first | decide | omega | exact sz (by omega)), ?_⟩ | refine ⟨_, .addT (by first | decide | omega | exact sz (by omega)), ?_⟩
          refine ev_int ?_
          refine ⟨_, .powI (by first | exact ⟨by decide, by decide, by decide⟩ | exact cpow_ok (by omega) (by omega) (by decide) (by decide) | (have h5 := sq_bound ha0 ha1; have h6 := Int.emod_nonneg n (show (2147483629 : Int) ≠ 0 by decide); have h7 := Int.emod_lt_of_pos n (show (0 : Int) < 2147483629 by decide); exact cpow_ok (by omega) (by omega) (by decide) (by decide))), ?_⟩
          refine sq_nx ⟨_, pow_nonneg' (by omega) _, rfl⟩
        · skip
          refine sv_nil ?_
          refine sq_nx ⟨_, hm2, rfl⟩
      rintro _ ⟨m4, hm4, rfl⟩
      refine sv_one ?_
      refine s_ret ?_
      refine ev_bin ?_
      refine ev_bin ?_
      refine ev_var (i := 6) rfl ?_
      refine ev_int ?_
      refine ⟨_, .fdivI (by first | exact ⟨by decide, by decide⟩ | exact ⟨hu0, hu1⟩), ?_⟩
      refine ev_var (i := 1) rfl ?_
      refine ⟨_, .modI (by first | decide | assumption | omega), ?_⟩
      exact ret_p (Ξ := Ξ) rfl (hk _ _ _ (Int.emod_nonneg _ (by omega)) (Int.emod_lt_of_pos _ hu0) (by omega) (Int.le_refl _) hg0)
theorem ok__law_robe {G : Gx} (Kc : Facts G) (F__law_take : FOK G 1 "_law_take" [] S_take) (h : DefIn G "_law_robe" s__law_robe) : FOK G 2 "_law_robe" [] S_robe := by
  have B := Kc.B
  refine fok_in (N := ["_law_pen_here", "_law_length", "_law_take_here", "_law_out"]) (ps := ["_law_pen_here"]) (P := [0]) h ⟨rfl, rfl, rfl, by decide +kernel, rfl, by decide +kernel, by decide +kernel⟩ (fun _ _ _ _ _ _ us hl => match us, hl with | [_], _ => rfl) ?_
  rintro os k Ξ ⟨cs, a, g, rfl, hcs, ha0, ha9, hg0, hk⟩
  refine ⟨rfl, ?_⟩
  show SV _ _ _ [some _, none, none, none] _
  refine sv_cons ?_
  refine s_set (i := 1) ?_
  refine ev_bin ?_
  refine ev_int ?_
  refine ev_call (F__law_take.mono (Nat.le_of_ble_eq_true rfl)) ?_
  refine eva_borL (i := 0) ⟨_, rfl⟩ ?_
  refine eva_cons ?_
  refine ev_ix ?_
  refine ev_lst ?_
  refine evs_cons ?_
  refine ev_int ?_
  refine evs_cons ?_
  refine ev_int ?_
  refine evs_cons ?_
  refine ev_int ?_
  refine evs_nil ?_
  refine ⟨Nat.le_of_ble_eq_true rfl, ?_⟩
  refine ev_call (F__law_take.mono (Nat.le_of_ble_eq_true rfl)) ?_
  refine eva_borL (i := 0) ⟨_, rfl⟩ ?_
  refine eva_cons ?_
  refine ev_int ?_
  refine eva_nil ?_
  refine ⟨_, rfl, ?_⟩
  refine ⟨_, _, _, _, rfl, hcs, by omega, by omega, by omega, by omega, by omega, fun r1 a1 g1 hr1 hs1 ha1 hb1 hg1 => ?_⟩
  dsimp only [refill, List.set_cons_zero, List.set_cons_succ, List.map_cons, List.map_nil, List.cons_append, List.nil_append]
  obtain ⟨v1, hv1, ev1⟩ := at_int [12, 60, 999] hr1 hs1
  refine ⟨_, .lst ev1, ?_⟩
  have hw1 : 12 ≤ v1 ∧ v1 ≤ 999 := by simp at hv1; omega
  refine eva_nil ?_
  refine ⟨_, rfl, ?_⟩
  refine ⟨_, _, _, _, rfl, hcs, by omega, by omega, by omega, by omega, by omega, fun r2 a2 g2 hr2 hs2 ha2 hb2 hg2 => ?_⟩
  dsimp only [refill, List.set_cons_zero, List.set_cons_succ, List.map_cons, List.map_nil, List.cons_append, List.nil_append]
  first | refine ⟨_, .addI, ?_⟩ | refine ⟨_, .addS (by first | decide | omega | exact sz (by omega)), ?_⟩ | refine ⟨_, .addL (by first | decide | omega | exact sz (by omega)), ?_⟩ | refine ⟨_, .addT (by first | decide | omega | exact sz (by omega)), ?_⟩
  refine sq_nx ?_
  refine sv_cons ?_
  refine s_set (i := 2) ?_
  refine ev_cb (id := "min") (B _ (by decide)) ?_
  refine evs_cons ?_
  refine ev_bin ?_
  refine ev_var (i := 1) rfl ?_
  refine ev_int ?_
  refine ⟨_, .subI, ?_⟩
  refine evs_cons ?_
  refine ev_ix ?_
  refine ev_lst ?_
  refine evs_cons ?_
  refine ev_int ?_
  refine evs_cons ?_
  refine ev_call (F__law_take.mono (Nat.le_of_ble_eq_true rfl)) ?_
  refine eva_borL (i := 0) ⟨_, rfl⟩ ?_
  refine eva_cons ?_
  refine ev_int ?_
  refine eva_nil ?_
  refine ⟨_, rfl, ?_⟩
  refine ⟨_, _, _, _, rfl, hcs, by omega, by omega, by omega, by omega, by omega, fun r3 a3 g3 hr3 hs3 ha3 hb3 hg3 => ?_⟩
  dsimp only [refill, List.set_cons_zero, List.set_cons_succ, List.map_cons, List.map_nil, List.cons_append, List.nil_append]
  refine evs_cons ?_
  refine ev_call (F__law_take.mono (Nat.le_of_ble_eq_true rfl)) ?_
  refine eva_borL (i := 0) ⟨_, rfl⟩ ?_
  refine eva_cons ?_
  refine ev_int ?_
  refine eva_nil ?_
  refine ⟨_, rfl, ?_⟩
  refine ⟨_, _, _, _, rfl, hcs, by omega, by omega, by omega, by omega, by omega, fun r4 a4 g4 hr4 hs4 ha4 hb4 hg4 => ?_⟩
  dsimp only [refill, List.set_cons_zero, List.set_cons_succ, List.map_cons, List.map_nil, List.cons_append, List.nil_append]
  refine evs_cons ?_
  refine ev_int ?_
  refine evs_nil ?_
  refine ⟨Nat.le_of_ble_eq_true rfl, ?_⟩
  refine ev_call (F__law_take.mono (Nat.le_of_ble_eq_true rfl)) ?_
  refine eva_borL (i := 0) ⟨_, rfl⟩ ?_
  refine eva_cons ?_
  refine ev_int ?_
  refine eva_nil ?_
  refine ⟨_, rfl, ?_⟩
  refine ⟨_, _, _, _, rfl, hcs, by omega, by omega, by omega, by omega, by omega, fun r5 a5 g5 hr5 hs5 ha5 hb5 hg5 => ?_⟩
  dsimp only [refill, List.set_cons_zero, List.set_cons_succ, List.map_cons, List.map_nil, List.cons_append, List.nil_append]
  obtain ⟨v2, hv2, ev2⟩ := at_int [0, r3, r4, 99] hr5 hs5
  refine ⟨_, .lst ev2, ?_⟩
  have hw2 : 0 ≤ v2 ∧ v2 ≤ 99 := by simp at hv2; omega
  refine evs_nil ?_
  refine ⟨_, .min2, ?_⟩
  have hmin : 0 ≤ (if v2 < 1 + r2 - 1 then v2 else 1 + r2 - 1) ∧ (if v2 < 1 + r2 - 1 then v2 else 1 + r2 - 1) ≤ 99 ∧ (if v2 < 1 + r2 - 1 then v2 else 1 + r2 - 1) < 1 + r2 := by split <;> omega
  generalize (if v2 < 1 + r2 - 1 then v2 else 1 + r2 - 1) = tk at hmin ⊢
  refine sq_nx ?_
  refine sv_cons ?_
  refine s_set (i := 3) ?_
  refine ev_ix ?_
  refine ev_lst ?_
  refine evs_cons ?_
  refine ev_int ?_
  refine evs_cons ?_
  refine ev_call (F__law_take.mono (Nat.le_of_ble_eq_true rfl)) ?_
  refine eva_borL (i := 0) ⟨_, rfl⟩ ?_
  refine eva_cons ?_
  refine ev_int ?_
  refine eva_nil ?_
  refine ⟨_, rfl, ?_⟩
  refine ⟨_, _, _, _, rfl, hcs, by omega, by omega, by omega, by omega, by omega, fun r6 a6 g6 hr6 hs6 ha6 hb6 hg6 => ?_⟩
  dsimp only [refill, List.set_cons_zero, List.set_cons_succ, List.map_cons, List.map_nil, List.cons_append, List.nil_append]
  refine evs_cons ?_
  refine ev_call (F__law_take.mono (Nat.le_of_ble_eq_true rfl)) ?_
  refine eva_borL (i := 0) ⟨_, rfl⟩ ?_
  refine eva_cons ?_
  refine ev_int ?_
  refine eva_nil ?_
  refine ⟨_, rfl, ?_⟩
  refine ⟨_, _, _, _, rfl, hcs, by omega, by omega, by omega, by omega, by omega, fun r7 a7 g7 hr7 hs7 ha7 hb7 hg7 => ?_⟩
  dsimp only [refill, List.set_cons_zero, List.set_cons_succ, List.map_cons, List.map_nil, List.cons_append, List.nil_append]
  refine evs_cons ?_
  refine ev_int ?_
  refine evs_nil ?_
  refine ⟨Nat.le_of_ble_eq_true rfl, ?_⟩
  refine ev_call (F__law_take.mono (Nat.le_of_ble_eq_true rfl)) ?_
  refine eva_borL (i := 0) ⟨_, rfl⟩ ?_
  refine eva_cons ?_
  refine ev_int ?_
  refine eva_nil ?_
  refine ⟨_, rfl, ?_⟩
  refine ⟨_, _, _, _, rfl, hcs, by omega, by omega, by omega, by omega, by omega, fun r8 a8 g8 hr8 hs8 ha8 hb8 hg8 => ?_⟩
  dsimp only [refill, List.set_cons_zero, List.set_cons_succ, List.map_cons, List.map_nil, List.cons_append, List.nil_append]
  obtain ⟨v3, hv3, ev3⟩ := at_int [0, r6, r7, 99] hr8 hs8
  refine ⟨_, .lst ev3, ?_⟩
  have hw3 : 0 ≤ v3 ∧ v3 ≤ 99 := by simp at hv3; omega
  refine sq_nx ?_
  refine sv_one ?_
  refine s_ret ?_
  refine ev_tup ?_
  refine evs_cons ?_
  refine ev_var (i := 1) rfl ?_
  refine evs_cons ?_
  refine ev_var (i := 2) rfl ?_
  refine evs_cons ?_
  refine ev_var (i := 3) rfl ?_
  refine evs_nil ?_
  refine ⟨Nat.le_of_ble_eq_true rfl, ?_⟩
  exact ret_p (Ξ := Ξ) rfl (hk _ _ _ _ _ (by omega) (by omega) (by omega) (by omega) (by omega) (by omega) (by omega) (by omega) (by omega) (by omega))
theorem ok__law_same0 {G : Gx} (Kc : Facts G)  (h : DefIn G "_law_same" s__law_same) : FOK G 1 "_law_same" [] S_same0 := by
  have B := Kc.B
  refine fok_in (N := ["_law_found", "_law_due", "_law_one", "_law_other"]) (ps := ["_law_found", "_law_due"]) (P := []) h ⟨rfl, rfl, rfl, by decide +kernel, rfl, by decide +kernel, by decide +kernel⟩ (fun _ _ _ _ _ _ us hl => match us, hl with | [_, _], _ => rfl) ?_
  rintro os k Ξ ⟨x, y, rfl, hk⟩
  refine ⟨rfl, ?_⟩
  show SV _ _ _ [some _, some _, none, none] _
  refine sv_cons ?_
  refine s_if ?_
  refine et_val ?_
  refine ev_isi2 (T' := "tuple") (U' := "list") (B _ (by decide)) (B _ (by decide)) (B _ (by decide)) ?_
  refine ev_var (i := 1) rfl ?_
  refine ⟨by first | rfl | decide | assumption | omega | exact ok_ints _, ?_⟩
  first | refine ⟨_, .bl, ?_⟩ | refine ⟨_, .int, ?_⟩ | refine ⟨_, .lst, ?_⟩ | refine ⟨_, .str (by first | decide | omega | exact sz (by omega)), ?_⟩
  refine ⟨fun h1 => ?_, fun h2 => ?_⟩
  · (try (simp at h1; done)) <;> (
    skip
    refine sv_cons ?_
    refine s_if ?_
    refine EW.t ?_
    refine ew_or ?_
    refine et_cmp ?_
    refine ev_isi (T' := "tuple") (B _ (by decide)) (B _ (by decide)) ?_
    refine ev_var (i := 0) rfl ?_
    refine ⟨by first | rfl | decide | assumption | omega | exact ok_ints _, ?_⟩
    refine ev_isi (T' := "tuple") (B _ (by decide)) (B _ (by decide)) ?_
    refine ev_var (i := 1) rfl ?_
    refine ⟨by first | rfl | decide | assumption | omega | exact ok_ints _, ?_⟩
    first | refine ⟨_, .neI, ?_⟩ | refine ⟨_, .neS, ?_⟩ | refine ⟨_, .neB, ?_⟩ | refine ⟨_, .neD (by first | rfl | decide | assumption | omega | exact ok_ints _) (by first | rfl | decide | assumption | omega | exact ok_ints _), ?_⟩
    refine ⟨fun h3 => ?_, fun h4 => ?_⟩
    · (try (simp at h3; done)) <;> (
      skip
      refine ⟨fun h5 => ?_, fun h6 => ?_⟩
      · (try (simp at h5; done)) <;> (
        skip
        refine sv_one ?_
        refine s_ret ?_
        refine ev_bl ?_
        exact ret_f (Ξ := Ξ) hk
        )
      · (try (simp at h6; done)) <;> (
        skip
        refine sv_nil ?_
        refine sq_nx ?_
        refine sv_one ?_
        refine s_ret ?_
        refine ev_and ?_
        refine ev_cmp ?_
        refine ev_cb (id := "len") (B _ (by decide)) ?_
        refine evs_cons ?_
        refine ev_var (i := 0) rfl ?_
        refine evs_nil ?_
        first | refine ⟨_, .lenL, ?_⟩ | refine ⟨_, .lenT, ?_⟩ | refine ⟨_, .lenS (by first | decide | omega | exact sz (by omega)), ?_⟩
        refine ev_cb (id := "len") (B _ (by decide)) ?_
        refine evs_cons ?_
        refine ev_var (i := 1) rfl ?_
        refine evs_nil ?_
        first | refine ⟨_, .lenL, ?_⟩ | refine ⟨_, .lenT, ?_⟩ | refine ⟨_, .lenS (by first | decide | omega | exact sz (by omega)), ?_⟩
        first | refine ⟨_, .eqI, ?_⟩ | refine ⟨_, .eqS, ?_⟩ | refine ⟨_, .eqB, ?_⟩ | refine ⟨_, .eqD (by first | rfl | decide | assumption | omega | exact ok_ints _) (by first | rfl | decide | assumption | omega | exact ok_ints _), ?_⟩
        refine ⟨_, rfl, fun h7 => ?_, fun h8 => ?_⟩
        · (try (simp at h7; done)) <;> (
          skip
          refine ev_one ?_
          refine ev_cb (id := "all") (B _ (by decide)) ?_
          refine evs_cons ?_
          refine ev_lc [("_law_one", 2), ("_law_other", 3)] (sl := [2, 3]) ?_
          refine ei_zip (B _ (by decide)) ?_
          refine ev_var (i := 0) rfl ?_
          refine ev_var (i := 1) rfl ?_
          refine ⟨_, _, rfl, rfl, ?_⟩
          refine lc_map (_) (by first | decide | omega | exact sz (by omega)) ?_ ?_
          · intro d hd
            skip
            refine tg_tup ?_
            refine tgs_cons (sl := [2]) (sl' := [3]) ?_
            refine tg_name (i := 2) ?_
            refine tgs_cons (sl := [3]) (sl' := []) ?_
            refine tg_name (i := 3) ?_
            refine tgs_nil ?_
            refine ev_call (F__law_same.mono (Nat.le_of_ble_eq_true rfl)) ?_
            refine eva_cons ?_
            refine ev_var (i := 2) rfl ?_
            refine eva_cons ?_
            refine ev_var (i := 3) rfl ?_
            refine eva_nil ?_
            refine ⟨_, _, rfl, ?_⟩
            exact ⟨by first | rfl | (simp_all; done) | (simp at *; done), rfl⟩
          · skip
            refine evs_nil ?_
            refine ⟨_, .all, ?_⟩
            exact ret_f (Ξ := Ξ) hk
          )
        · (try (simp at h8; done)) <;> (
          skip
          exact ret_f (Ξ := Ξ) hk
          )
        )
      )
    · (try (simp at h4; done)) <;> (
      skip
      refine ew_or1 ?_
      refine et_cmp ?_
      refine ev_isi (T' := "list") (B _ (by decide)) (B _ (by decide)) ?_
      refine ev_var (i := 0) rfl ?_
      refine ⟨by first | rfl | decide | assumption | omega | exact ok_ints _, ?_⟩
      refine ev_isi (T' := "list") (B _ (by decide)) (B _ (by decide)) ?_
      refine ev_var (i := 1) rfl ?_
      refine ⟨by first | rfl | decide | assumption | omega | exact ok_ints _, ?_⟩
      first | refine ⟨_, .neI, ?_⟩ | refine ⟨_, .neS, ?_⟩ | refine ⟨_, .neB, ?_⟩ | refine ⟨_, .neD (by first | rfl | decide | assumption | omega | exact ok_ints _) (by first | rfl | decide | assumption | omega | exact ok_ints _), ?_⟩
      refine ⟨fun h9 => ?_, fun h10 => ?_⟩
      · (try (simp at h9; done)) <;> (
        skip
        refine sv_one ?_
        refine s_ret ?_
        refine ev_bl ?_
        exact ret_f (Ξ := Ξ) hk
        )
      · (try (simp at h10; done)) <;> (
        skip
        refine sv_nil ?_
        refine sq_nx ?_
        refine sv_one ?_
        refine s_ret ?_
        refine ev_and ?_
        refine ev_cmp ?_
        refine ev_cb (id := "len") (B _ (by decide)) ?_
        refine evs_cons ?_
        refine ev_var (i := 0) rfl ?_
        refine evs_nil ?_
        first | refine ⟨_, .lenL, ?_⟩ | refine ⟨_, .lenT, ?_⟩ | refine ⟨_, .lenS (by first | decide | omega | exact sz (by omega)), ?_⟩
        refine ev_cb (id := "len") (B _ (by decide)) ?_
        refine evs_cons ?_
        refine ev_var (i := 1) rfl ?_
        refine evs_nil ?_
        first | refine ⟨_, .lenL, ?_⟩ | refine ⟨_, .lenT, ?_⟩ | refine ⟨_, .lenS (by first | decide | omega | exact sz (by omega)), ?_⟩
        first | refine ⟨_, .eqI, ?_⟩ | refine ⟨_, .eqS, ?_⟩ | refine ⟨_, .eqB, ?_⟩ | refine ⟨_, .eqD (by first | rfl | decide | assumption | omega | exact ok_ints _) (by first | rfl | decide | assumption | omega | exact ok_ints _), ?_⟩
        refine ⟨_, rfl, fun h11 => ?_, fun h12 => ?_⟩
        · (try (simp at h11; done)) <;> (
          skip
          refine ev_one ?_
          refine ev_cb (id := "all") (B _ (by decide)) ?_
          refine evs_cons ?_
          refine ev_lc [("_law_one", 2), ("_law_other", 3)] (sl := [2, 3]) ?_
          refine ei_zip (B _ (by decide)) ?_
          refine ev_var (i := 0) rfl ?_
          refine ev_var (i := 1) rfl ?_
          refine ⟨_, _, rfl, rfl, ?_⟩
          refine lc_map (_) (by first | decide | omega | exact sz (by omega)) ?_ ?_
          · intro d hd
            skip
            refine tg_tup ?_
            refine tgs_cons (sl := [2]) (sl' := [3]) ?_
            refine tg_name (i := 2) ?_
            refine tgs_cons (sl := [3]) (sl' := []) ?_
            refine tg_name (i := 3) ?_
            refine tgs_nil ?_
            refine ev_call (F__law_same.mono (Nat.le_of_ble_eq_true rfl)) ?_
            refine eva_cons ?_
            refine ev_var (i := 2) rfl ?_
            refine eva_cons ?_
            refine ev_var (i := 3) rfl ?_
            refine eva_nil ?_
            refine ⟨_, _, rfl, ?_⟩
            exact ⟨by first | rfl | (simp_all; done) | (simp at *; done), rfl⟩
          · skip
            refine evs_nil ?_
            refine ⟨_, .all, ?_⟩
            exact ret_f (Ξ := Ξ) hk
          )
        · (try (simp at h12; done)) <;> (
          skip
          exact ret_f (Ξ := Ξ) hk
          )
        )
      )
    )
  · (try (simp at h2; done)) <;> (
    skip
    refine sv_nil ?_
    refine sq_nx ?_
    refine sv_cons ?_
    refine s_if ?_
    refine EW.t ?_
    refine ew_or ?_
    refine et_val ?_
    refine ev_isi (T' := "bool") (B _ (by decide)) (B _ (by decide)) ?_
    refine ev_var (i := 0) rfl ?_
    refine ⟨by first | rfl | decide | assumption | omega | exact ok_ints _, ?_⟩
    first | refine ⟨_, .bl, ?_⟩ | refine ⟨_, .int, ?_⟩ | refine ⟨_, .lst, ?_⟩ | refine ⟨_, .str (by first | decide | omega | exact sz (by omega)), ?_⟩
    refine ⟨fun h13 => ?_, fun h14 => ?_⟩
    · (try (simp at h13; done)) <;> (
      skip
      refine ⟨fun h15 => ?_, fun h16 => ?_⟩
      · (try (simp at h15; done)) <;> (
        skip
        refine sv_one ?_
        refine s_ret ?_
        refine ev_and ?_
        refine ev_isi (T' := "bool") (B _ (by decide)) (B _ (by decide)) ?_
        refine ev_var (i := 0) rfl ?_
        refine ⟨by first | rfl | decide | assumption | omega | exact ok_ints _, ?_⟩
        refine ⟨_, rfl, fun h17 => ?_, fun h18 => ?_⟩
        · (try (simp at h17; done)) <;> (
          skip
          refine ev_and ?_
          refine ev_isi (T' := "bool") (B _ (by decide)) (B _ (by decide)) ?_
          refine ev_var (i := 1) rfl ?_
          refine ⟨by first | rfl | decide | assumption | omega | exact ok_ints _, ?_⟩
          refine ⟨_, rfl, fun h19 => ?_, fun h20 => ?_⟩
          · (try (simp at h19; done)) <;> (
            skip
            refine ev_one ?_
            refine ev_cmp ?_
            refine ev_var (i := 0) rfl ?_
            refine ev_var (i := 1) rfl ?_
            first | refine ⟨_, .eqI, ?_⟩ | refine ⟨_, .eqS, ?_⟩ | refine ⟨_, .eqB, ?_⟩ | refine ⟨_, .eqD (by first | rfl | decide | assumption | omega | exact ok_ints _) (by first | rfl | decide | assumption | omega | exact ok_ints _), ?_⟩
            exact ret_f (Ξ := Ξ) hk
            )
          · (try (simp at h20; done)) <;> (
            skip
            exact ret_f (Ξ := Ξ) hk
            )
          )
        · (try (simp at h18; done)) <;> (
          skip
          exact ret_f (Ξ := Ξ) hk
          )
        )
      · (try (simp at h16; done)) <;> (
        skip
        refine sv_nil ?_
        refine sq_nx ?_
        refine sv_cons ?_
        refine s_if ?_
        refine et_val ?_
        refine ev_isi2 (T' := "tuple") (U' := "list") (B _ (by decide)) (B _ (by decide)) (B _ (by decide)) ?_
        refine ev_var (i := 0) rfl ?_
        refine ⟨by first | rfl | decide | assumption | omega | exact ok_ints _, ?_⟩
        first | refine ⟨_, .bl, ?_⟩ | refine ⟨_, .int, ?_⟩ | refine ⟨_, .lst, ?_⟩ | refine ⟨_, .str (by first | decide | omega | exact sz (by omega)), ?_⟩
        refine ⟨fun h21 => ?_, fun h22 => ?_⟩
        · (try (simp at h21; done)) <;> (
          skip
          refine sv_one ?_
          refine s_ret ?_
          refine ev_bl ?_
          exact ret_f (Ξ := Ξ) hk
          )
        · (try (simp at h22; done)) <;> (
          skip
          refine sv_nil ?_
          refine sq_nx ?_
          refine sv_one ?_
          refine s_ret ?_
          refine ev_and ?_
          refine ev_cmp ?_
          refine ev_isi (T' := "str") (B _ (by decide)) (B _ (by decide)) ?_
          refine ev_var (i := 0) rfl ?_
          refine ⟨by first | rfl | decide | assumption | omega | exact ok_ints _, ?_⟩
          refine ev_isi (T' := "str") (B _ (by decide)) (B _ (by decide)) ?_
          refine ev_var (i := 1) rfl ?_
          refine ⟨by first | rfl | decide | assumption | omega | exact ok_ints _, ?_⟩
          first | refine ⟨_, .eqI, ?_⟩ | refine ⟨_, .eqS, ?_⟩ | refine ⟨_, .eqB, ?_⟩ | refine ⟨_, .eqD (by first | rfl | decide | assumption | omega | exact ok_ints _) (by first | rfl | decide | assumption | omega | exact ok_ints _), ?_⟩
          refine ⟨_, rfl, fun h23 => ?_, fun h24 => ?_⟩
          · (try (simp at h23; done)) <;> (
            skip
            refine ev_one ?_
            refine ev_cmp ?_
            refine ev_var (i := 0) rfl ?_
            refine ev_var (i := 1) rfl ?_
            first | refine ⟨_, .eqI, ?_⟩ | refine ⟨_, .eqS, ?_⟩ | refine ⟨_, .eqB, ?_⟩ | refine ⟨_, .eqD (by first | rfl | decide | assumption | omega | exact ok_ints _) (by first | rfl | decide | assumption | omega | exact ok_ints _), ?_⟩
            exact ret_f (Ξ := Ξ) hk
            )
          · (try (simp at h24; done)) <;> (
            skip
            exact ret_f (Ξ := Ξ) hk
            )
          )
        )
      )
    · (try (simp at h14; done)) <;> (
      skip
      refine ew_or1 ?_
      refine et_val ?_
      refine ev_isi (T' := "bool") (B _ (by decide)) (B _ (by decide)) ?_
      refine ev_var (i := 1) rfl ?_
      refine ⟨by first | rfl | decide | assumption | omega | exact ok_ints _, ?_⟩
      first | refine ⟨_, .bl, ?_⟩ | refine ⟨_, .int, ?_⟩ | refine ⟨_, .lst, ?_⟩ | refine ⟨_, .str (by first | decide | omega | exact sz (by omega)), ?_⟩
      refine ⟨fun h25 => ?_, fun h26 => ?_⟩
      · (try (simp at h25; done)) <;> (
        skip
        refine sv_one ?_
        refine s_ret ?_
        refine ev_and ?_
        refine ev_isi (T' := "bool") (B _ (by decide)) (B _ (by decide)) ?_
        refine ev_var (i := 0) rfl ?_
        refine ⟨by first | rfl | decide | assumption | omega | exact ok_ints _, ?_⟩
        refine ⟨_, rfl, fun h27 => ?_, fun h28 => ?_⟩
        · (try (simp at h27; done)) <;> (
          skip
          refine ev_and ?_
          refine ev_isi (T' := "bool") (B _ (by decide)) (B _ (by decide)) ?_
          refine ev_var (i := 1) rfl ?_
          refine ⟨by first | rfl | decide | assumption | omega | exact ok_ints _, ?_⟩
          refine ⟨_, rfl, fun h29 => ?_, fun h30 => ?_⟩
          · (try (simp at h29; done)) <;> (
            skip
            refine ev_one ?_
            refine ev_cmp ?_
            refine ev_var (i := 0) rfl ?_
            refine ev_var (i := 1) rfl ?_
            first | refine ⟨_, .eqI, ?_⟩ | refine ⟨_, .eqS, ?_⟩ | refine ⟨_, .eqB, ?_⟩ | refine ⟨_, .eqD (by first | rfl | decide | assumption | omega | exact ok_ints _) (by first | rfl | decide | assumption | omega | exact ok_ints _), ?_⟩
            exact ret_f (Ξ := Ξ) hk
            )
          · (try (simp at h30; done)) <;> (
            skip
            exact ret_f (Ξ := Ξ) hk
            )
          )
        · (try (simp at h28; done)) <;> (
          skip
          exact ret_f (Ξ := Ξ) hk
          )
        )
      · (try (simp at h26; done)) <;> (
        skip
        refine sv_nil ?_
        refine sq_nx ?_
        refine sv_cons ?_
        refine s_if ?_
        refine et_val ?_
        refine ev_isi2 (T' := "tuple") (U' := "list") (B _ (by decide)) (B _ (by decide)) (B _ (by decide)) ?_
        refine ev_var (i := 0) rfl ?_
        refine ⟨by first | rfl | decide | assumption | omega | exact ok_ints _, ?_⟩
        first | refine ⟨_, .bl, ?_⟩ | refine ⟨_, .int, ?_⟩ | refine ⟨_, .lst, ?_⟩ | refine ⟨_, .str (by first | decide | omega | exact sz (by omega)), ?_⟩
        refine ⟨fun h31 => ?_, fun h32 => ?_⟩
        · (try (simp at h31; done)) <;> (
          skip
          refine sv_one ?_
          refine s_ret ?_
          refine ev_bl ?_
          exact ret_f (Ξ := Ξ) hk
          )
        · (try (simp at h32; done)) <;> (
          skip
          refine sv_nil ?_
          refine sq_nx ?_
          refine sv_one ?_
          refine s_ret ?_
          refine ev_and ?_
          refine ev_cmp ?_
          refine ev_isi (T' := "str") (B _ (by decide)) (B _ (by decide)) ?_
          refine ev_var (i := 0) rfl ?_
          refine ⟨by first | rfl | decide | assumption | omega | exact ok_ints _, ?_⟩
          refine ev_isi (T' := "str") (B _ (by decide)) (B _ (by decide)) ?_
          refine ev_var (i := 1) rfl ?_
          refine ⟨by first | rfl | decide | assumption | omega | exact ok_ints _, ?_⟩
          first | refine ⟨_, .eqI, ?_⟩ | refine ⟨_, .eqS, ?_⟩ | refine ⟨_, .eqB, ?_⟩ | refine ⟨_, .eqD (by first | rfl | decide | assumption | omega | exact ok_ints _) (by first | rfl | decide | assumption | omega | exact ok_ints _), ?_⟩
          refine ⟨_, rfl, fun h33 => ?_, fun h34 => ?_⟩
          · (try (simp at h33; done)) <;> (
            skip
            refine ev_one ?_
            refine ev_cmp ?_
            refine ev_var (i := 0) rfl ?_
            refine ev_var (i := 1) rfl ?_
            first | refine ⟨_, .eqI, ?_⟩ | refine ⟨_, .eqS, ?_⟩ | refine ⟨_, .eqB, ?_⟩ | refine ⟨_, .eqD (by first | rfl | decide | assumption | omega | exact ok_ints _) (by first | rfl | decide | assumption | omega | exact ok_ints _), ?_⟩
            exact ret_f (Ξ := Ξ) hk
            )
          · (try (simp at h34; done)) <;> (
            skip
            exact ret_f (Ξ := Ξ) hk
            )
          )
        )
      )
    )
theorem zip_ints {xs ys : List Int} {d : D} (h : d ∈ List.zipWith (fun d e => D.tup [d, e]) (xs.map D.int) (ys.map D.int)) : ∃ x y, d = .tup [.int x, .int y] := by
  induction xs generalizing ys with
  | nil => simp at h
  | cons x xs ih =>
    cases ys with
    | nil => simp at h
    | cons y ys =>
      simp only [List.map_cons, List.zipWith_cons_cons, List.mem_cons] at h
      rcases h with e | h
      · exact ⟨x, y, e⟩
      · exact ih h
def sameF (d : D) : O := match d with
  | .tup [.int x, .int y] => .fz (.bl (decide (x = y)))
  | _ => .fz .non
theorem same_frz : ∀ (xs ys : List Int), (O.lst ((List.zipWith (fun d e => D.tup [d, e]) (xs.map D.int) (ys.map D.int)).map sameF)).frz = .lst ((List.zipWith (fun x y => decide (x = y)) xs ys).map .bl)
  | [], ys => by simp
  | x :: xs, [] => by simp
  | x :: xs, y :: ys => by
    have h := same_frz xs ys
    rw [frz_lst] at h ⊢
    injection h with h
    simp only [List.map_cons, List.zipWith_cons_cons, frzL_cons, h]
    rfl
theorem same_all : ∀ (xs ys : List Int), xs.length = ys.length → (List.zipWith (fun x y => decide (x = y)) xs ys).all id = decide (xs = ys)
  | [], [], _ => rfl
  | [], y :: ys, h => by simp at h
  | x :: xs, [], h => by simp at h
  | x :: xs, y :: ys, h => by
    have h2 := same_all xs ys (by simpa using h)
    simp only [List.zipWith_cons_cons, List.all_cons, h2, id]
    by_cases e : x = y <;> by_cases e2 : xs = ys <;> simp [e, e2]

theorem ok__law_same {G : Gx} (Kc : Facts G) (F__law_same : FOK G 1 "_law_same" [] S_same0) (h : DefIn G "_law_same" s__law_same) : FOK G 2 "_law_same" [] S_same := by
  have B := Kc.B
  refine fok_in (N := ["_law_found", "_law_due", "_law_one", "_law_other"]) (ps := ["_law_found", "_law_due"]) (P := []) h ⟨rfl, rfl, rfl, by decide +kernel, rfl, by decide +kernel, by decide +kernel⟩ (fun _ _ _ _ _ _ us hl => match us, hl with | [_, _], _ => rfl) ?_
  rintro os k Ξ ⟨xs, ys, rfl, hlx, hk⟩
  refine ⟨rfl, ?_⟩
  show SV _ _ _ [some _, some _, none, none] _
  refine sv_cons ?_
  refine s_if ?_
  refine et_val ?_
  refine ev_isi2 (T' := "tuple") (U' := "list") (B _ (by decide)) (B _ (by decide)) (B _ (by decide)) ?_
  refine ev_var (i := 1) rfl ?_
  refine ⟨by first | rfl | decide | assumption | omega | exact ok_ints _, ?_⟩
  first | refine ⟨_, .bl, ?_⟩ | refine ⟨_, .int, ?_⟩ | refine ⟨_, .lst, ?_⟩ | refine ⟨_, .str (by first | decide | omega | exact sz (by omega)), ?_⟩
  refine ⟨fun h1 => ?_, fun h2 => ?_⟩
  · (try (simp at h1; done)) <;> (
    skip
    refine sv_cons ?_
    refine s_if ?_
    refine EW.t ?_
    refine ew_or ?_
    refine et_cmp ?_
    refine ev_isi (T' := "tuple") (B _ (by decide)) (B _ (by decide)) ?_
    refine ev_var (i := 0) rfl ?_
    refine ⟨by first | rfl | decide | assumption | omega | exact ok_ints _, ?_⟩
    refine ev_isi (T' := "tuple") (B _ (by decide)) (B _ (by decide)) ?_
    refine ev_var (i := 1) rfl ?_
    refine ⟨by first | rfl | decide | assumption | omega | exact ok_ints _, ?_⟩
    first | refine ⟨_, .neI, ?_⟩ | refine ⟨_, .neS, ?_⟩ | refine ⟨_, .neB, ?_⟩ | refine ⟨_, .neD (by first | rfl | decide | assumption | omega | exact ok_ints _) (by first | rfl | decide | assumption | omega | exact ok_ints _), ?_⟩
    refine ⟨fun h3 => ?_, fun h4 => ?_⟩
    · (try (simp at h3; done)) <;> (
      skip
      refine ⟨fun h5 => ?_, fun h6 => ?_⟩
      · (try (simp at h5; done)) <;> (
        skip
        refine sv_one ?_
        refine s_ret ?_
        refine ev_bl ?_
        exact ret_f (Ξ := Ξ) (by first | exact hk | (rw [same_all _ _ (by first | (simp_all; done) | (simp_all; omega))]; exact hk) | (rw [decide_eq_false (by intro e; subst e; simp_all)] at hk; exact hk))
        )
      · (try (simp at h6; done)) <;> (
        skip
        refine sv_nil ?_
        refine sq_nx ?_
        refine sv_one ?_
        refine s_ret ?_
        refine ev_and ?_
        refine ev_cmp ?_
        refine ev_cb (id := "len") (B _ (by decide)) ?_
        refine evs_cons ?_
        refine ev_var (i := 0) rfl ?_
        refine evs_nil ?_
        first | refine ⟨_, .lenL, ?_⟩ | refine ⟨_, .lenT, ?_⟩ | refine ⟨_, .lenS (by first | decide | omega | exact sz (by omega)), ?_⟩
        refine ev_cb (id := "len") (B _ (by decide)) ?_
        refine evs_cons ?_
        refine ev_var (i := 1) rfl ?_
        refine evs_nil ?_
        first | refine ⟨_, .lenL, ?_⟩ | refine ⟨_, .lenT, ?_⟩ | refine ⟨_, .lenS (by first | decide | omega | exact sz (by omega)), ?_⟩
        first | refine ⟨_, .eqI, ?_⟩ | refine ⟨_, .eqS, ?_⟩ | refine ⟨_, .eqB, ?_⟩ | refine ⟨_, .eqD (by first | rfl | decide | assumption | omega | exact ok_ints _) (by first | rfl | decide | assumption | omega | exact ok_ints _), ?_⟩
        refine ⟨_, rfl, fun h7 => ?_, fun h8 => ?_⟩
        · (try (simp at h7; done)) <;> (
          skip
          refine ev_one ?_
          refine ev_cb (id := "all") (B _ (by decide)) ?_
          refine evs_cons ?_
          refine ev_lc [("_law_one", 2), ("_law_other", 3)] (sl := [2, 3]) ?_
          refine ei_zipT (B _ (by decide)) ?_
          refine ev_var (i := 0) rfl ?_
          refine ev_var (i := 1) rfl ?_
          refine ⟨_, _, rfl, rfl, ?_⟩
          refine lc_map (sameF) (by rw [List.length_zipWith, List.length_map]; omega) ?_ ?_
          · intro d hd
            obtain ⟨x, y, rfl⟩ := zip_ints hd
            refine tg_tup ?_
            refine tgs_cons (sl := [2]) (sl' := [3]) ?_
            refine tg_name (i := 2) ?_
            refine tgs_cons (sl := [3]) (sl' := []) ?_
            refine tg_name (i := 3) ?_
            refine tgs_nil ?_
            refine ev_call (F__law_same.mono (Nat.le_of_ble_eq_true rfl)) ?_
            refine eva_cons ?_
            refine ev_var (i := 2) rfl ?_
            refine eva_cons ?_
            refine ev_var (i := 3) rfl ?_
            refine eva_nil ?_
            refine ⟨_, _, rfl, ?_⟩
            exact ⟨by first | rfl | (simp_all; done) | (simp at *; done), rfl⟩
          · skip
            refine evs_nil ?_
            rw [same_frz]
            refine ⟨_, .all, ?_⟩
            exact ret_f (Ξ := Ξ) (by first | exact hk | (rw [same_all _ _ (by first | (simp_all; done) | (simp_all; omega))]; exact hk) | (rw [decide_eq_false (by intro e; subst e; simp_all)] at hk; exact hk))
          )
        · (try (simp at h8; done)) <;> (
          skip
          exact ret_f (Ξ := Ξ) (by first | exact hk | (rw [same_all _ _ (by first | (simp_all; done) | (simp_all; omega))]; exact hk) | (rw [decide_eq_false (by intro e; subst e; simp_all)] at hk; exact hk))
          )
        )
      )
    · (try (simp at h4; done)) <;> (
      skip
      refine ew_or1 ?_
      refine et_cmp ?_
      refine ev_isi (T' := "list") (B _ (by decide)) (B _ (by decide)) ?_
      refine ev_var (i := 0) rfl ?_
      refine ⟨by first | rfl | decide | assumption | omega | exact ok_ints _, ?_⟩
      refine ev_isi (T' := "list") (B _ (by decide)) (B _ (by decide)) ?_
      refine ev_var (i := 1) rfl ?_
      refine ⟨by first | rfl | decide | assumption | omega | exact ok_ints _, ?_⟩
      first | refine ⟨_, .neI, ?_⟩ | refine ⟨_, .neS, ?_⟩ | refine ⟨_, .neB, ?_⟩ | refine ⟨_, .neD (by first | rfl | decide | assumption | omega | exact ok_ints _) (by first | rfl | decide | assumption | omega | exact ok_ints _), ?_⟩
      refine ⟨fun h9 => ?_, fun h10 => ?_⟩
      · (try (simp at h9; done)) <;> (
        skip
        refine sv_one ?_
        refine s_ret ?_
        refine ev_bl ?_
        exact ret_f (Ξ := Ξ) (by first | exact hk | (rw [same_all _ _ (by first | (simp_all; done) | (simp_all; omega))]; exact hk) | (rw [decide_eq_false (by intro e; subst e; simp_all)] at hk; exact hk))
        )
      · (try (simp at h10; done)) <;> (
        skip
        refine sv_nil ?_
        refine sq_nx ?_
        refine sv_one ?_
        refine s_ret ?_
        refine ev_and ?_
        refine ev_cmp ?_
        refine ev_cb (id := "len") (B _ (by decide)) ?_
        refine evs_cons ?_
        refine ev_var (i := 0) rfl ?_
        refine evs_nil ?_
        first | refine ⟨_, .lenL, ?_⟩ | refine ⟨_, .lenT, ?_⟩ | refine ⟨_, .lenS (by first | decide | omega | exact sz (by omega)), ?_⟩
        refine ev_cb (id := "len") (B _ (by decide)) ?_
        refine evs_cons ?_
        refine ev_var (i := 1) rfl ?_
        refine evs_nil ?_
        first | refine ⟨_, .lenL, ?_⟩ | refine ⟨_, .lenT, ?_⟩ | refine ⟨_, .lenS (by first | decide | omega | exact sz (by omega)), ?_⟩
        first | refine ⟨_, .eqI, ?_⟩ | refine ⟨_, .eqS, ?_⟩ | refine ⟨_, .eqB, ?_⟩ | refine ⟨_, .eqD (by first | rfl | decide | assumption | omega | exact ok_ints _) (by first | rfl | decide | assumption | omega | exact ok_ints _), ?_⟩
        refine ⟨_, rfl, fun h11 => ?_, fun h12 => ?_⟩
        · (try (simp at h11; done)) <;> (
          skip
          refine ev_one ?_
          refine ev_cb (id := "all") (B _ (by decide)) ?_
          refine evs_cons ?_
          refine ev_lc [("_law_one", 2), ("_law_other", 3)] (sl := [2, 3]) ?_
          refine ei_zipT (B _ (by decide)) ?_
          refine ev_var (i := 0) rfl ?_
          refine ev_var (i := 1) rfl ?_
          refine ⟨_, _, rfl, rfl, ?_⟩
          refine lc_map (sameF) (by rw [List.length_zipWith, List.length_map]; omega) ?_ ?_
          · intro d hd
            obtain ⟨x, y, rfl⟩ := zip_ints hd
            refine tg_tup ?_
            refine tgs_cons (sl := [2]) (sl' := [3]) ?_
            refine tg_name (i := 2) ?_
            refine tgs_cons (sl := [3]) (sl' := []) ?_
            refine tg_name (i := 3) ?_
            refine tgs_nil ?_
            refine ev_call (F__law_same.mono (Nat.le_of_ble_eq_true rfl)) ?_
            refine eva_cons ?_
            refine ev_var (i := 2) rfl ?_
            refine eva_cons ?_
            refine ev_var (i := 3) rfl ?_
            refine eva_nil ?_
            refine ⟨_, _, rfl, ?_⟩
            exact ⟨by first | rfl | (simp_all; done) | (simp at *; done), rfl⟩
          · skip
            refine evs_nil ?_
            rw [same_frz]
            refine ⟨_, .all, ?_⟩
            exact ret_f (Ξ := Ξ) (by first | exact hk | (rw [same_all _ _ (by first | (simp_all; done) | (simp_all; omega))]; exact hk) | (rw [decide_eq_false (by intro e; subst e; simp_all)] at hk; exact hk))
          )
        · (try (simp at h12; done)) <;> (
          skip
          exact ret_f (Ξ := Ξ) (by first | exact hk | (rw [same_all _ _ (by first | (simp_all; done) | (simp_all; omega))]; exact hk) | (rw [decide_eq_false (by intro e; subst e; simp_all)] at hk; exact hk))
          )
        )
      )
    )
  · (try (simp at h2; done)) <;> (
    skip
    refine sv_nil ?_
    refine sq_nx ?_
    refine sv_cons ?_
    refine s_if ?_
    refine EW.t ?_
    refine ew_or ?_
    refine et_val ?_
    refine ev_isi (T' := "bool") (B _ (by decide)) (B _ (by decide)) ?_
    refine ev_var (i := 0) rfl ?_
    refine ⟨by first | rfl | decide | assumption | omega | exact ok_ints _, ?_⟩
    first | refine ⟨_, .bl, ?_⟩ | refine ⟨_, .int, ?_⟩ | refine ⟨_, .lst, ?_⟩ | refine ⟨_, .str (by first | decide | omega | exact sz (by omega)), ?_⟩
    refine ⟨fun h13 => ?_, fun h14 => ?_⟩
    · (try (simp at h13; done)) <;> (
      skip
      refine ⟨fun h15 => ?_, fun h16 => ?_⟩
      · (try (simp at h15; done)) <;> (
        skip
        refine sv_one ?_
        refine s_ret ?_
        refine ev_and ?_
        refine ev_isi (T' := "bool") (B _ (by decide)) (B _ (by decide)) ?_
        refine ev_var (i := 0) rfl ?_
        refine ⟨by first | rfl | decide | assumption | omega | exact ok_ints _, ?_⟩
        refine ⟨_, rfl, fun h17 => ?_, fun h18 => ?_⟩
        · (try (simp at h17; done)) <;> (
          skip
          refine ev_and ?_
          refine ev_isi (T' := "bool") (B _ (by decide)) (B _ (by decide)) ?_
          refine ev_var (i := 1) rfl ?_
          refine ⟨by first | rfl | decide | assumption | omega | exact ok_ints _, ?_⟩
          refine ⟨_, rfl, fun h19 => ?_, fun h20 => ?_⟩
          · (try (simp at h19; done)) <;> (
            skip
            refine ev_one ?_
            refine ev_cmp ?_
            refine ev_var (i := 0) rfl ?_
            refine ev_var (i := 1) rfl ?_
            first | refine ⟨_, .eqI, ?_⟩ | refine ⟨_, .eqS, ?_⟩ | refine ⟨_, .eqB, ?_⟩ | refine ⟨_, .eqD (by first | rfl | decide | assumption | omega | exact ok_ints _) (by first | rfl | decide | assumption | omega | exact ok_ints _), ?_⟩
            exact ret_f (Ξ := Ξ) (by first | exact hk | (rw [same_all _ _ (by first | (simp_all; done) | (simp_all; omega))]; exact hk) | (rw [decide_eq_false (by intro e; subst e; simp_all)] at hk; exact hk))
            )
          · (try (simp at h20; done)) <;> (
            skip
            exact ret_f (Ξ := Ξ) (by first | exact hk | (rw [same_all _ _ (by first | (simp_all; done) | (simp_all; omega))]; exact hk) | (rw [decide_eq_false (by intro e; subst e; simp_all)] at hk; exact hk))
            )
          )
        · (try (simp at h18; done)) <;> (
          skip
          exact ret_f (Ξ := Ξ) (by first | exact hk | (rw [same_all _ _ (by first | (simp_all; done) | (simp_all; omega))]; exact hk) | (rw [decide_eq_false (by intro e; subst e; simp_all)] at hk; exact hk))
          )
        )
      · (try (simp at h16; done)) <;> (
        skip
        refine sv_nil ?_
        refine sq_nx ?_
        refine sv_cons ?_
        refine s_if ?_
        refine et_val ?_
        refine ev_isi2 (T' := "tuple") (U' := "list") (B _ (by decide)) (B _ (by decide)) (B _ (by decide)) ?_
        refine ev_var (i := 0) rfl ?_
        refine ⟨by first | rfl | decide | assumption | omega | exact ok_ints _, ?_⟩
        first | refine ⟨_, .bl, ?_⟩ | refine ⟨_, .int, ?_⟩ | refine ⟨_, .lst, ?_⟩ | refine ⟨_, .str (by first | decide | omega | exact sz (by omega)), ?_⟩
        refine ⟨fun h21 => ?_, fun h22 => ?_⟩
        · (try (simp at h21; done)) <;> (
          skip
          refine sv_one ?_
          refine s_ret ?_
          refine ev_bl ?_
          exact ret_f (Ξ := Ξ) (by first | exact hk | (rw [same_all _ _ (by first | (simp_all; done) | (simp_all; omega))]; exact hk) | (rw [decide_eq_false (by intro e; subst e; simp_all)] at hk; exact hk))
          )
        · (try (simp at h22; done)) <;> (
          skip
          refine sv_nil ?_
          refine sq_nx ?_
          refine sv_one ?_
          refine s_ret ?_
          refine ev_and ?_
          refine ev_cmp ?_
          refine ev_isi (T' := "str") (B _ (by decide)) (B _ (by decide)) ?_
          refine ev_var (i := 0) rfl ?_
          refine ⟨by first | rfl | decide | assumption | omega | exact ok_ints _, ?_⟩
          refine ev_isi (T' := "str") (B _ (by decide)) (B _ (by decide)) ?_
          refine ev_var (i := 1) rfl ?_
          refine ⟨by first | rfl | decide | assumption | omega | exact ok_ints _, ?_⟩
          first | refine ⟨_, .eqI, ?_⟩ | refine ⟨_, .eqS, ?_⟩ | refine ⟨_, .eqB, ?_⟩ | refine ⟨_, .eqD (by first | rfl | decide | assumption | omega | exact ok_ints _) (by first | rfl | decide | assumption | omega | exact ok_ints _), ?_⟩
          refine ⟨_, rfl, fun h23 => ?_, fun h24 => ?_⟩
          · (try (simp at h23; done)) <;> (
            skip
            refine ev_one ?_
            refine ev_cmp ?_
            refine ev_var (i := 0) rfl ?_
            refine ev_var (i := 1) rfl ?_
            first | refine ⟨_, .eqI, ?_⟩ | refine ⟨_, .eqS, ?_⟩ | refine ⟨_, .eqB, ?_⟩ | refine ⟨_, .eqD (by first | rfl | decide | assumption | omega | exact ok_ints _) (by first | rfl | decide | assumption | omega | exact ok_ints _), ?_⟩
            exact ret_f (Ξ := Ξ) (by first | exact hk | (rw [same_all _ _ (by first | (simp_all; done) | (simp_all; omega))]; exact hk) | (rw [decide_eq_false (by intro e; subst e; simp_all)] at hk; exact hk))
            )
          · (try (simp at h24; done)) <;> (
            skip
            exact ret_f (Ξ := Ξ) (by first | exact hk | (rw [same_all _ _ (by first | (simp_all; done) | (simp_all; omega))]; exact hk) | (rw [decide_eq_false (by intro e; subst e; simp_all)] at hk; exact hk))
            )
          )
        )
      )
    · (try (simp at h14; done)) <;> (
      skip
      refine ew_or1 ?_
      refine et_val ?_
      refine ev_isi (T' := "bool") (B _ (by decide)) (B _ (by decide)) ?_
      refine ev_var (i := 1) rfl ?_
      refine ⟨by first | rfl | decide | assumption | omega | exact ok_ints _, ?_⟩
      first | refine ⟨_, .bl, ?_⟩ | refine ⟨_, .int, ?_⟩ | refine ⟨_, .lst, ?_⟩ | refine ⟨_, .str (by first | decide | omega | exact sz (by omega)), ?_⟩
      refine ⟨fun h25 => ?_, fun h26 => ?_⟩
      · (try (simp at h25; done)) <;> (
        skip
        refine sv_one ?_
        refine s_ret ?_
        refine ev_and ?_
        refine ev_isi (T' := "bool") (B _ (by decide)) (B _ (by decide)) ?_
        refine ev_var (i := 0) rfl ?_
        refine ⟨by first | rfl | decide | assumption | omega | exact ok_ints _, ?_⟩
        refine ⟨_, rfl, fun h27 => ?_, fun h28 => ?_⟩
        · (try (simp at h27; done)) <;> (
          skip
          refine ev_and ?_
          refine ev_isi (T' := "bool") (B _ (by decide)) (B _ (by decide)) ?_
          refine ev_var (i := 1) rfl ?_
          refine ⟨by first | rfl | decide | assumption | omega | exact ok_ints _, ?_⟩
          refine ⟨_, rfl, fun h29 => ?_, fun h30 => ?_⟩
          · (try (simp at h29; done)) <;> (
            skip
            refine ev_one ?_
            refine ev_cmp ?_
            refine ev_var (i := 0) rfl ?_
            refine ev_var (i := 1) rfl ?_
            first | refine ⟨_, .eqI, ?_⟩ | refine ⟨_, .eqS, ?_⟩ | refine ⟨_, .eqB, ?_⟩ | refine ⟨_, .eqD (by first | rfl | decide | assumption | omega | exact ok_ints _) (by first | rfl | decide | assumption | omega | exact ok_ints _), ?_⟩
            exact ret_f (Ξ := Ξ) (by first | exact hk | (rw [same_all _ _ (by first | (simp_all; done) | (simp_all; omega))]; exact hk) | (rw [decide_eq_false (by intro e; subst e; simp_all)] at hk; exact hk))
            )
          · (try (simp at h30; done)) <;> (
            skip
            exact ret_f (Ξ := Ξ) (by first | exact hk | (rw [same_all _ _ (by first | (simp_all; done) | (simp_all; omega))]; exact hk) | (rw [decide_eq_false (by intro e; subst e; simp_all)] at hk; exact hk))
            )
          )
        · (try (simp at h28; done)) <;> (
          skip
          exact ret_f (Ξ := Ξ) (by first | exact hk | (rw [same_all _ _ (by first | (simp_all; done) | (simp_all; omega))]; exact hk) | (rw [decide_eq_false (by intro e; subst e; simp_all)] at hk; exact hk))
          )
        )
      · (try (simp at h26; done)) <;> (
        skip
        refine sv_nil ?_
        refine sq_nx ?_
        refine sv_cons ?_
        refine s_if ?_
        refine et_val ?_
        refine ev_isi2 (T' := "tuple") (U' := "list") (B _ (by decide)) (B _ (by decide)) (B _ (by decide)) ?_
        refine ev_var (i := 0) rfl ?_
        refine ⟨by first | rfl | decide | assumption | omega | exact ok_ints _, ?_⟩
        first | refine ⟨_, .bl, ?_⟩ | refine ⟨_, .int, ?_⟩ | refine ⟨_, .lst, ?_⟩ | refine ⟨_, .str (by first | decide | omega | exact sz (by omega)), ?_⟩
        refine ⟨fun h31 => ?_, fun h32 => ?_⟩
        · (try (simp at h31; done)) <;> (
          skip
          refine sv_one ?_
          refine s_ret ?_
          refine ev_bl ?_
          exact ret_f (Ξ := Ξ) (by first | exact hk | (rw [same_all _ _ (by first | (simp_all; done) | (simp_all; omega))]; exact hk) | (rw [decide_eq_false (by intro e; subst e; simp_all)] at hk; exact hk))
          )
        · (try (simp at h32; done)) <;> (
          skip
          refine sv_nil ?_
          refine sq_nx ?_
          refine sv_one ?_
          refine s_ret ?_
          refine ev_and ?_
          refine ev_cmp ?_
          refine ev_isi (T' := "str") (B _ (by decide)) (B _ (by decide)) ?_
          refine ev_var (i := 0) rfl ?_
          refine ⟨by first | rfl | decide | assumption | omega | exact ok_ints _, ?_⟩
          refine ev_isi (T' := "str") (B _ (by decide)) (B _ (by decide)) ?_
          refine ev_var (i := 1) rfl ?_
          refine ⟨by first | rfl | decide | assumption | omega | exact ok_ints _, ?_⟩
          first | refine ⟨_, .eqI, ?_⟩ | refine ⟨_, .eqS, ?_⟩ | refine ⟨_, .eqB, ?_⟩ | refine ⟨_, .eqD (by first | rfl | decide | assumption | omega | exact ok_ints _) (by first | rfl | decide | assumption | omega | exact ok_ints _), ?_⟩
          refine ⟨_, rfl, fun h33 => ?_, fun h34 => ?_⟩
          · (try (simp at h33; done)) <;> (
            skip
            refine ev_one ?_
            refine ev_cmp ?_
            refine ev_var (i := 0) rfl ?_
            refine ev_var (i := 1) rfl ?_
            first | refine ⟨_, .eqI, ?_⟩ | refine ⟨_, .eqS, ?_⟩ | refine ⟨_, .eqB, ?_⟩ | refine ⟨_, .eqD (by first | rfl | decide | assumption | omega | exact ok_ints _) (by first | rfl | decide | assumption | omega | exact ok_ints _), ?_⟩
            exact ret_f (Ξ := Ξ) (by first | exact hk | (rw [same_all _ _ (by first | (simp_all; done) | (simp_all; omega))]; exact hk) | (rw [decide_eq_false (by intro e; subst e; simp_all)] at hk; exact hk))
            )
          · (try (simp at h34; done)) <;> (
            skip
            exact ret_f (Ξ := Ξ) (by first | exact hk | (rw [same_all _ _ (by first | (simp_all; done) | (simp_all; omega))]; exact hk) | (rw [decide_eq_false (by intro e; subst e; simp_all)] at hk; exact hk))
            )
          )
        )
      )
    )
theorem pyL_one : ∀ zs : List Nat, pyL (zs.map fun c => .str ⟨#[c]⟩) = zs.map fun c => PyData.str ⟨#[c]⟩
  | [] => by rw [List.map_nil, pyL, List.map_nil]
  | c :: cs => by rw [List.map_cons, pyL, D.py, pyL_one cs, List.map_cons]
theorem ok_one {zs : List Nat} (hz : ∀ c ∈ zs, c < 0x110000) : (D.lst (zs.map fun c => .str ⟨#[c]⟩)).ok = true := by
  show SeqAt.shaped (D.lst (zs.map fun c => .str ⟨#[c]⟩)).py = true
  rw [D.py, pyL_one]
  have h1 : PyData.canLayAll0 (zs.map fun c => PyData.str ⟨#[c]⟩) = true := by
    induction zs with
    | nil => simp [PyData.canLayAll0]
    | cons z zs ih =>
      rw [List.map_cons, PyData.canLayAll0, ih fun c h => hz c (List.mem_cons_of_mem _ h), PyData.canLay0]
      have := hz z List.mem_cons_self
      simp [PyData.strOk]
      omega
  have h2 : PyData.depthAll (zs.map fun c => PyData.str ⟨#[c]⟩) ≤ 1 := by
    clear h1 hz
    induction zs with
    | nil => simp [PyData.depthAll]
    | cons z zs ih =>
      simp only [List.map_cons, PyData.depthAll, PyData.depth]
      omega
  show (PyData.canLay0 (.list (zs.map fun c => PyData.str ⟨#[c]⟩)) && decide (PyData.depth (.list (zs.map fun c => PyData.str ⟨#[c]⟩)) ≤ 64)) = true
  rw [Bool.and_eq_true]
  refine ⟨by simp only [PyData.canLay0]; exact h1, decide_eq_true (by simp only [PyData.depth]; omega)⟩
theorem ok_signs {xs : List D} (h : ∀ x ∈ xs, ∃ c, c < 0x110000 ∧ x = .str ⟨#[c]⟩) : (D.lst xs).ok = true := by
  have : ∃ zs : List Nat, (∀ c ∈ zs, c < 0x110000) ∧ xs = zs.map fun c => .str ⟨#[c]⟩ := by
    induction xs with
    | nil => exact ⟨[], by simp, rfl⟩
    | cons x xs ih =>
      obtain ⟨zs, hz, e⟩ := ih fun y hy => h y (List.mem_cons_of_mem _ hy)
      obtain ⟨z, hz2, e2⟩ := h x List.mem_cons_self
      refine ⟨z :: zs, fun c hc => ?_, by rw [e, e2]; rfl⟩
      rcases List.mem_cons.mp hc with w | w
      · rw [w]; exact hz2
      · exact hz c w
  obtain ⟨zs, hz, rfl⟩ := this
  exact ok_one hz
theorem eq_nil (xs : List D) : (D.lst xs).eq (.lst []) = xs.isEmpty := by
  show PyData.eqv (D.lst xs).py (D.lst []).py = _
  rw [D.py, D.py]
  cases xs with
  | nil => rw [pyL]; rfl
  | cons x xs =>
    rw [pyL, pyL]
    rfl
def notDig (d : D) : Bool := match d with
  | .str z => match z.cps.toList with
    | [c] => !decide (c ∈ ("0123456789" : Str).cps.toList)
    | _ => false
  | _ => false
theorem notDig_empty (w : Str) : ((Fr.signs w).filter notDig).isEmpty = digs w := by
  unfold digs Fr.signs
  generalize w.cps.toList = l
  induction l with
  | nil => rfl
  | cons c l ih =>
    rw [List.map_cons, List.all_cons]
    by_cases h : c ∈ ("0123456789" : Str).cps.toList
    · rw [List.filter_cons_of_neg (by show ¬ (!decide (c ∈ ("0123456789" : Str).cps.toList)) = true; rw [decide_eq_true h]; decide), ih, decide_eq_true h]
      rfl
    · rw [List.filter_cons_of_pos (by show (!decide (c ∈ ("0123456789" : Str).cps.toList)) = true; rw [decide_eq_false h]; decide), decide_eq_false h]
      rfl
theorem signs_mem {w : Str} {d : D} (h : d ∈ Fr.signs w) : ∃ c, d = .str ⟨#[c]⟩ := by
  unfold Fr.signs at h
  obtain ⟨c, _, e⟩ := List.mem_map.mp h
  exact ⟨c, e.symm⟩
theorem sOk {w : Str} (hw : PyData.strOk w = true) {c : Nat} (h : c ∈ w.cps.toList) : c < 0x110000 := by
  unfold PyData.strOk at hw
  rw [← Array.all_toList] at hw
  exact of_decide_eq_true (List.all_eq_true.mp hw c h)
theorem sOk_of {w : Str} (h : ∀ c ∈ w.cps.toList, c < 0x110000) : PyData.strOk w = true := by
  unfold PyData.strOk
  rw [← Array.all_toList]
  exact List.all_eq_true.mpr fun c hc => decide_eq_true (h c hc)
theorem signs_memOk {w : Str} (hw : PyData.strOk w = true) {d : D} (h : d ∈ Fr.signs w) : ∃ c, c < 0x110000 ∧ d = .str ⟨#[c]⟩ := by
  unfold Fr.signs at h
  obtain ⟨c, hc, e⟩ := List.mem_map.mp h
  exact ⟨c, sOk hw hc, e.symm⟩

theorem signs_len (w : Str) : (Fr.signs w).length = w.length := by simp [Fr.signs, Str.length]
theorem num1_e {w : Str} (h : w = "") : num1 w = true := by subst h; decide
theorem num1_big {w : Str} (h : decide (60 < (w.length : Int)) = true) : num1 w = true := by
  unfold num1
  have := of_decide_eq_true h
  rw [decide_eq_false (show ¬ (w.length : Int) ≤ 60 by omega)]
  simp
theorem ne_len {w : Str} (h : decide (w = "") = false) : 1 ≤ (w.length : Int) := by
  have h1 := of_decide_eq_false h
  cases e : w.length with
  | zero =>
    exfalso
    refine h1 ?_
    obtain ⟨c⟩ := w
    have : c = #[] := Array.size_eq_zero_iff.mp e
    subst this
    rfl
  | succ n => omega
theorem numIn_1 {w : Str} {l m : Int} (h : num1 w = true) : numIn w l m = none := by unfold numIn numOf; rw [if_pos h]
theorem numIn_2 {w : Str} {l m : Int} (h : num1 w = false) (h2 : digs w = false) : numIn w l m = none := by unfold numIn numOf; rw [if_neg (by rw [h]; decide), if_neg (by rw [h2]; decide)]
theorem numIn_3 {w : Str} {l m : Int} (h : num1 w = false) (h2 : digs w = true) : numIn w l m = if (decide (l ≤ ((NumText.digitsVal w.cps.toList : Nat) : Int)) && decide (((NumText.digitsVal w.cps.toList : Nat) : Int) ≤ m)) = true then some ((NumText.digitsVal w.cps.toList : Nat) : Int) else none := by
  unfold numIn numOf
  rw [if_neg (by rw [h]; decide), if_pos h2]
  simp

theorem ok__law_number_in {G : Gx} (Kc : Facts G)  (h : DefIn G "_law_number_in" s__law_number_in) : FOK G 1 "_law_number_in" [] S_number_in := by
  have B := Kc.B
  refine fok_in (N := ["_law_word", "_law_least", "_law_most", "_law_sign"]) (ps := ["_law_word", "_law_least", "_law_most"]) (P := []) h ⟨rfl, rfl, rfl, by decide +kernel, rfl, by decide +kernel, by decide +kernel⟩ (fun _ _ _ _ _ _ us hl => match us, hl with | [_, _, _], _ => rfl) ?_
  rintro os k Ξ ⟨w, l, m, rfl, hl, hw, hk⟩
  refine ⟨rfl, ?_⟩
  show SV _ _ _ [some _, some _, some _, none] _
  refine sv_cons ?_
  refine s_if ?_
  refine ET.cut (v := num1 w) ?_ ?_
  · skip
    refine EW.t ?_
    refine ew_or ?_
    refine et_cmp ?_
    refine ev_var (i := 0) rfl ?_
    refine ev_str ?_
    first | refine ⟨_, .eqI, ?_⟩ | refine ⟨_, .eqS, ?_⟩ | refine ⟨_, .eqB, ?_⟩ | refine ⟨_, .eqD (by first | rfl | decide | assumption | omega | exact ok_ints _) (by first | rfl | decide | assumption | omega | exact ok_ints _), ?_⟩
    refine ⟨fun h1 => ?_, fun h2 => ?_⟩
    · (try (simp at h1; done)) <;> (
      skip
      exact ⟨by exact (num1_e (of_decide_eq_true h1)).symm, rfl⟩
      )
    · (try (simp at h2; done)) <;> (
      skip
      refine ew_or ?_
      refine et_cmp ?_
      refine ev_cb (id := "len") (B _ (by decide)) ?_
      refine evs_cons ?_
      refine ev_var (i := 0) rfl ?_
      refine evs_nil ?_
      first | refine ⟨_, .lenL, ?_⟩ | refine ⟨_, .lenT, ?_⟩ | refine ⟨_, .lenS (by first | decide | omega | exact sz (by omega)), ?_⟩
      refine ev_int ?_
      refine ⟨_, .gtI, ?_⟩
      refine ⟨fun h3 => ?_, fun h4 => ?_⟩
      · (try (simp at h3; done)) <;> (
        skip
        exact ⟨by exact (num1_big h3).symm, rfl⟩
        )
      · (try (simp at h4; done)) <;> (
        skip
        refine ew_or1 ?_
        refine EW.t ?_
        refine ew_and ?_
        refine et_cmp ?_
        refine ev_ix ?_
        refine ev_var (i := 0) rfl ?_
        refine ev_int ?_
        obtain ⟨c, cs, hc⟩ := cons_of (ne_len h2)
        refine ⟨_, .str (c := c) (sz (by omega)) (by rw [hc]; simp [L2.atI, L2.ixN]), ?_⟩
        refine ev_str ?_
        first | refine ⟨_, .eqI, ?_⟩ | refine ⟨_, .eqS, ?_⟩ | refine ⟨_, .eqB, ?_⟩ | refine ⟨_, .eqD (by first | rfl | decide | assumption | omega | exact ok_ints _) (by first | rfl | decide | assumption | omega | exact ok_ints _), ?_⟩
        refine ⟨fun h5 => ?_, fun h6 => ?_⟩
        · (try (simp at h5; done)) <;> (
          skip
          refine ew_and1 ?_
          refine et_cmp ?_
          refine ev_var (i := 0) rfl ?_
          refine ev_str ?_
          first | refine ⟨_, .neI, ?_⟩ | refine ⟨_, .neS, ?_⟩ | refine ⟨_, .neB, ?_⟩ | refine ⟨_, .neD (by first | rfl | decide | assumption | omega | exact ok_ints _) (by first | rfl | decide | assumption | omega | exact ok_ints _), ?_⟩
          exact ⟨by
            have e : c = 48 := by
              have := h5
              rw [s48, one_eq] at this
              exact of_decide_eq_true this
            subst e
            unfold num1
            rw [decide_eq_true (ne_len h2), decide_eq_true (show (w.length : Int) ≤ 60 by have := of_decide_eq_false h4; omega), hc]
            simp, rfl⟩
          )
        · (try (simp at h6; done)) <;> (
          skip
          exact ⟨by
            have e : ¬ c = 48 := by
              have := h6
              rw [s48, one_eq] at this
              exact of_decide_eq_false this
            unfold num1
            rw [decide_eq_true (ne_len h2), decide_eq_true (show (w.length : Int) ≤ 60 by have := of_decide_eq_false h4; omega), hc]
            simp [e], rfl⟩
          )
        )
      )
  refine ⟨fun h7 => ?_, fun h8 => ?_⟩
  · (try (simp at h7; done)) <;> (
    skip
    refine sv_one ?_
    refine s_ret ?_
    refine ev_non ?_
    exact ret_f (Ξ := Ξ) (by rw [numIn_1 h7] at hk; exact hk)
    )
  · (try (simp at h8; done)) <;> (
    skip
    refine sv_nil ?_
    refine sq_nx ?_
    refine sv_cons ?_
    refine s_if ?_
    refine et_cmp ?_
    refine ev_lc [("_law_sign", 3)] (sl := [3]) ?_
    refine ei_str ?_
    refine ev_var (i := 0) rfl ?_
    first | refine ⟨_, frz_fzs _, ?_⟩ | refine ⟨_, rfl, ?_⟩
    refine lc_filter (notDig) (.fz) (by rw [signs_len]; omega) ?_ ?_
    · intro d hd
      obtain ⟨c, rfl⟩ := signs_mem hd
      refine tg_name (i := 3) ?_
      refine et_cmp ?_
      refine ev_var (i := 3) rfl ?_
      refine ev_str ?_
      first | refine ⟨_, .niC, ?_⟩ | refine ⟨_, .niL (by first | rfl | decide | assumption | omega | exact ok_ints _) (by first | rfl | decide | assumption | omega | exact ok_ints _), ?_⟩ | refine ⟨_, .niT (by first | rfl | decide | assumption | omega | exact ok_ints _) (by first | rfl | decide | assumption | omega | exact ok_ints _), ?_⟩
      refine ⟨rfl, rfl, fun hb => ?_⟩
      refine ev_var (i := 3) rfl ?_
      exact ⟨by first | rfl | (simp_all; done) | (simp at *; done), rfl⟩
    · skip
      refine ev_lst ?_
      refine evs_nil ?_
      refine ⟨Nat.le_of_ble_eq_true rfl, ?_⟩
      rw [frz_fzs]
      refine ⟨_, .neD (ok_signs fun x hx => signs_memOk hw (List.mem_filter.mp hx).1) (by decide), ?_⟩
      refine ⟨fun h9 => ?_, fun h10 => ?_⟩
      · (try (simp at h9; done)) <;> (
        skip
        refine sv_one ?_
        refine s_ret ?_
        refine ev_non ?_
        exact ret_f (Ξ := Ξ) (by rw [numIn_2 h8 (by rw [← notDig_empty, ← eq_nil]; simpa using h9)] at hk; exact hk)
        )
      · (try (simp at h10; done)) <;> (
        skip
        refine sv_nil ?_
        refine sq_nx ?_
        refine sv_cons ?_
        have hg : digs w = true := by
          rw [← notDig_empty, ← eq_nil]
          simpa using h10
        have hr := num1_ne h8
        have hi := intText_digits (digs_all hg) (by obtain ⟨c, cs, e⟩ := cons_of hr.1; rw [e]; simp) (by omega)
        refine s_if ?_
        refine ET.cut (v := !(decide (l ≤ ((NumText.digitsVal w.cps.toList : Nat) : Int)) && decide (((NumText.digitsVal w.cps.toList : Nat) : Int) ≤ m))) ?_ ?_
        · skip
          refine et_not ?_
          refine et_chainV ?_
          refine ev_var (i := 1) rfl ?_
          refine ev_ct (id := "int") (B _ (by decide)) ?_
          refine evs_cons ?_
          refine ev_var (i := 0) rfl ?_
          refine evs_nil ?_
          refine ⟨_, .intS hi (by omega), ?_⟩
          refine ⟨?dz, ?g1, ?g2⟩
          case g1 =>
            intro k' hk'
            refine ev_var (i := 2) rfl ?_
            exact hk'
          refine ⟨_, _, .leI, .leI, ?_⟩
          exact ⟨by first | rfl | (simp_all; done) | (simp at *; done), rfl⟩
        refine ⟨fun h11 => ?_, fun h12 => ?_⟩
        · (try (simp at h11; done)) <;> (
          skip
          refine sv_one ?_
          refine s_ret ?_
          refine ev_non ?_
          exact ret_f (Ξ := Ξ) (by rw [numIn_3 h8 hg, if_neg (by intro z; rw [z] at h11; cases h11)] at hk; exact hk)
          )
        · (try (simp at h12; done)) <;> (
          skip
          refine sv_nil ?_
          refine sq_nx ?_
          refine sv_one ?_
          refine s_ret ?_
          refine ev_ct (id := "int") (B _ (by decide)) ?_
          refine evs_cons ?_
          refine ev_var (i := 0) rfl ?_
          refine evs_nil ?_
          refine ⟨_, .intS hi (by omega), ?_⟩
          exact ret_f (Ξ := Ξ) (by rw [numIn_3 h8 hg, if_pos (by simpa using h12)] at hk; exact hk)
          )
        )
    )
theorem mem_join {y : Str} {c : Nat} : ∀ {l : List Str} {p : Str}, p ∈ l → c ∈ p.cps.toList → c ∈ (Str.join y l).cps.toList
  | [a], p, h, hc => by
    have e : p = a := by simpa using h
    subst e
    exact hc
  | a :: b :: r, p, h, hc => by
    show c ∈ ((a.cps ++ y.cps) ++ (Str.join y (b :: r)).cps).toList
    rw [Array.toList_append, Array.toList_append]
    rcases List.mem_cons.mp h with e | h
    · subst e
      exact List.mem_append_left _ (List.mem_append_left _ hc)
    · exact List.mem_append_right _ (mem_join h hc)
theorem split_ok {z : Str} (hz : PyData.strOk z = true) {w : Str} (hw : w ∈ Txt.split z "/") : PyData.strOk w = true :=
  sOk_of fun c hc => sOk hz (by
    have h := mem_join (y := "/") hw hc
    rw [StrLaws.join_split] at h
    exact h)
theorem numOf_nn {w : Str} {n : Int} (h : numOf w = some n) : 0 ≤ n := by
  unfold numOf at h
  split at h
  · cases h
  · split at h
    · cases h; omega
    · cases h
def inRobe (a b c : Option Int) : Option (List Int) := match a, b, c with
  | some a, some b, some c => if (decide (a < 1) || (decide (99 < b) || (decide (99 < c) || decide (a ≤ b)))) = true then none else some [a, b, c]
  | _, _, _ => none
theorem numIn_some {w : Str} {n : Int} (h : numIn w 0 999 = some n) : numOf w = some n ∧ 0 ≤ n ∧ n ≤ 999 := by
  unfold numIn at h
  cases e : numOf w with
  | none => rw [e] at h; cases h
  | some m =>
    rw [e] at h
    dsimp only at h
    split at h
    · cases h
      rename_i h2
      exact ⟨rfl, h2⟩
    · cases h
theorem numIn_none {w : Str} (h : numIn w 0 999 = none) : numOf w = none ∨ ∃ n, numOf w = some n ∧ 999 < n := by
  unfold numIn at h
  cases e : numOf w with
  | none => exact .inl rfl
  | some m =>
    rw [e] at h
    dsimp only at h
    split at h
    · cases h
    · rename_i h2
      exact .inr ⟨m, rfl, by have := numOf_nn e; omega⟩
theorem readRobe_3 {z : Str} {p q r : Str} (h : Txt.split z "/" = [p, q, r]) : readRobe (.str z) = inRobe (numIn p 0 999) (numIn q 0 999) (numIn r 0 999) := by
  have hs : readRobe (.str z) = (match nums [p, q, r] with
    | some ns => if isRobe ns then some ns else none
    | none => none) := by
    show (match nums (Txt.split z "/") with
      | some ns => if isRobe ns then some ns else none
      | none => none) = _
    rw [h]
  have key : ∀ a b c : Option Int, numOf p = a → numOf q = b → numOf r = c → nums [p, q, r] = (match a, b, c with
    | some a, some b, some c => some [a, b, c]
    | _, _, _ => none) := by
    intro a b c ha hb hc
    unfold nums
    cases a <;> cases b <;> cases c <;> simp [ha, hb, hc]
  rw [hs, key _ _ _ rfl rfl rfl]
  have sp : ∀ w : Str, (∃ n, numOf w = some n ∧ numIn w 0 999 = some n ∧ 0 ≤ n ∧ n ≤ 999) ∨ (numIn w 0 999 = none ∧ (numOf w = none ∨ ∃ n, numOf w = some n ∧ 999 < n)) := fun w => by
    cases e : numIn w 0 999 with
    | none => exact .inr ⟨rfl, numIn_none e⟩
    | some n =>
      obtain ⟨h1, h2⟩ := numIn_some e
      exact .inl ⟨n, h1, rfl, h2⟩
  rcases sp p with ⟨a, e1, e2, ha⟩ | ⟨e2, e1 | ⟨a, e1, ha⟩⟩ <;> rcases sp q with ⟨b, f1, f2, hb⟩ | ⟨f2, f1 | ⟨b, f1, hb⟩⟩ <;> rcases sp r with ⟨c, g1, g2, hc⟩ | ⟨g2, g1 | ⟨c, g1, hc⟩⟩ <;> rw [e1, e2, f1, f2, g1, g2] <;> simp only [inRobe, isRobe, isWhole, Bool.and_eq_true, Bool.or_eq_true, decide_eq_true_eq] <;> repeat (first | rfl | (split <;> first | rfl | (exfalso; omega) | skip))
theorem readRobe_n3 {z : Str} (h : ¬ ((Txt.split z "/").length : Int) = 3) : readRobe (.str z) = none := by
  show (match nums (Txt.split z "/") with
    | some ns => if isRobe ns then some ns else none
    | none => none) = _
  unfold nums
  split
  · rename_i ns hns
    split at hns
    · cases hns
      rw [isRobe_no (by rw [List.length_map]; exact h)]
      rfl
    · cases hns
  · rfl

theorem robe_end {k : O → List O → Prop} {os : List O} {a b c : Option Int} (h : (inRobe a b c).isNone = false) (hk : k (.fz (optT (inRobe a b c))) os) : k (.fz (.tup [optI a, optI b, optI c])) os := by
  rcases a with _ | a <;> rcases b with _ | b <;> rcases c with _ | c <;> first | (cases h; done) | skip
  unfold inRobe at h hk
  dsimp only at h hk
  split at hk
  · rename_i e
    rw [if_pos e] at h
    cases h
  · exact hk

@[simp] theorem eqF_nn : eqF .non .non = true := rfl
@[simp] theorem eqF_in {i : Int} : eqF (.int i) .non = false := rfl
@[simp] theorem optI_n : optI none = .non := rfl
@[simp] theorem optI_s {n : Int} : optI (some n) = .int n := rfl

theorem isNone_in (a b c : Int) : (inRobe (some a) (some b) (some c)).isNone = (decide (a < 1) || (decide (99 < b) || (decide (99 < c) || decide (a ≤ b)))) := by
  unfold inRobe
  dsimp only
  split <;> simp_all

theorem ok__law_robe_in {G : Gx} (Kc : Facts G) (F__law_number_in : FOK G 1 "_law_number_in" [] S_number_in) (h : DefIn G "_law_robe_in" s__law_robe_in) : FOK G 2 "_law_robe_in" [] S_robe_in := by
  have B := Kc.B
  refine fok_in (N := ["_law_word", "_law_parts", "_law_found", "_law_part"]) (ps := ["_law_word"]) (P := []) h ⟨rfl, rfl, rfl, by decide +kernel, rfl, by decide +kernel, by decide +kernel⟩ (fun _ _ _ _ _ _ us hl => match us, hl with | [_], _ => rfl) ?_
  rintro os k Ξ ⟨w, rfl, hl, hok, hk⟩
  refine ⟨rfl, ?_⟩
  show SV _ _ _ [some _, none, none, none] _
  refine sv_cons ?_
  refine s_set (i := 1) ?_
  refine ev_ms PySem.F.slot_str_split PySem.F.type_str_split ?_
  refine ev_var (i := 0) rfl ?_
  refine ⟨_, rfl, ?_⟩
  refine evs_cons ?_
  refine ev_str ?_
  refine evs_nil ?_
  refine ⟨_, .split (by decide) (sz (by omega)), ?_⟩
  refine sq_nx ?_
  refine sv_frz (i := 1) rfl ?_
  try simp only [RV.o, frz_fz, frz_fzs, frz_lst, frzL_fz, List.set_cons_zero, List.set_cons_succ]
  refine sv_cons ?_
  refine s_if ?_
  refine et_cmp ?_
  refine ev_cb (id := "len") (B _ (by decide)) ?_
  refine evs_cons ?_
  refine ev_var (i := 1) rfl ?_
  refine evs_nil ?_
  first | refine ⟨_, .lenL, ?_⟩ | refine ⟨_, .lenT, ?_⟩ | refine ⟨_, .lenS (by first | decide | omega | exact sz (by omega)), ?_⟩
  refine ev_int ?_
  first | refine ⟨_, .neI, ?_⟩ | refine ⟨_, .neS, ?_⟩ | refine ⟨_, .neB, ?_⟩ | refine ⟨_, .neD (by first | rfl | decide | assumption | omega | exact ok_ints _) (by first | rfl | decide | assumption | omega | exact ok_ints _), ?_⟩
  refine ⟨fun h1 => ?_, fun h2 => ?_⟩
  · (try (simp at h1; done)) <;> (
    skip
    refine sv_one ?_
    refine s_ret ?_
    refine ev_non ?_
    exact ret_f (Ξ := Ξ) (by rw [readRobe_n3 (by simpa using h1)] at hk; exact hk)
    )
  · (try (simp at h2; done)) <;> (
    skip
    refine sv_nil ?_
    refine sq_nx ?_
    refine sv_cons ?_
    obtain ⟨hs1, hs2⟩ := split_small hl
    obtain ⟨p, q, r, e3⟩ : ∃ p q r, Txt.split w "/" = [p, q, r] := by
      generalize Txt.split w "/" = l at h2
      match l, h2 with
      | [p, q, r], _ => exact ⟨p, q, r, rfl⟩
      | [], h => simp at h
      | [_], h => simp at h
      | [_, _], h => simp at h
      | _ :: _ :: _ :: _ :: _, h => simp at h; omega
    refine s_setLc (i := 2) [("_law_part", 3)] (sl := [3]) ?_
    refine ei_lst ?_
    refine ev_var (i := 1) rfl ?_
    first | refine ⟨_, frz_fzs _, ?_⟩ | refine ⟨_, rfl, ?_⟩
    refine lc_map (fun d => match d with | .str w => .fz (optI (numIn w 0 999)) | _ => .fz .non) (by rw [List.length_map]; omega) ?_ ?_
    · intro d hd
      obtain ⟨w0, hw0, rfl⟩ := List.mem_map.mp hd
      refine tg_name (i := 3) ?_
      refine ev_call (F__law_number_in.mono (Nat.le_of_ble_eq_true rfl)) ?_
      refine eva_cons ?_
      refine ev_var (i := 3) rfl ?_
      refine eva_cons ?_
      refine ev_int ?_
      refine eva_cons ?_
      refine ev_int ?_
      refine eva_nil ?_
      refine ⟨_, _, _, rfl, hs2 _ hw0, split_ok hok hw0, ?_⟩
      exact ⟨by first | rfl | (rw [isNone_in]; simp_all; done) | (rw [isNone_in]; simp only [*, Bool.false_or]; done), rfl⟩
    · rw [e3]
      rw [readRobe_3 e3] at hk
      simp only [List.map_cons, List.map_nil]
      generalize numIn p 0 999 = a at hk
      generalize numIn q 0 999 = b at hk
      generalize numIn r 0 999 = c at hk
      refine sq_nx ?_
      refine sv_frz (i := 2) rfl ?_
      try simp only [RV.o, frz_fz, frz_fzs, frz_lst, frzL_fz, List.set_cons_zero, List.set_cons_succ]
      refine sv_cons ?_
      refine s_if ?_
      refine ET.cut (v := (inRobe a b c).isNone) ?_ ?_
      · rcases a with _ | a <;> rcases b with _ | b <;> rcases c with _ | c <;> (
        refine EW.t ?_
        refine ew_or ?_
        refine et_cmp ?_
        refine ev_non ?_
        refine ev_var (i := 2) rfl ?_
        first | refine ⟨_, .inC, ?_⟩ | refine ⟨_, .inL (by first | rfl | decide | assumption | omega | exact ok_ints _) (by first | rfl | decide | assumption | omega | exact ok_ints _), ?_⟩ | refine ⟨_, .inT (by first | rfl | decide | assumption | omega | exact ok_ints _) (by first | rfl | decide | assumption | omega | exact ok_ints _), ?_⟩ | refine ⟨_, .strIn, ?_⟩
        refine ⟨fun h3 => ?_, fun h4 => ?_⟩
        · (try (simp at h3; done)) <;> (
          skip
          exact ⟨by first | rfl | (rw [isNone_in]; simp_all; done) | (rw [isNone_in]; simp only [*, Bool.false_or]; done), rfl⟩
          )
        · (try (simp at h4; done)) <;> (
          skip
          refine ew_or ?_
          refine et_cmp ?_
          refine ev_ix ?_
          refine ev_var (i := 2) rfl ?_
          refine ev_int ?_
          first | refine ⟨_, .tup rfl, ?_⟩ | refine ⟨_, .lst rfl, ?_⟩ | refine ⟨_, .str (by first | decide | omega | exact sz (by omega)) (by first | rfl | decide | assumption | omega | exact ok_ints _), ?_⟩ | refine ⟨_, .lst (by first | rfl | decide | assumption | omega | exact ok_ints _), ?_⟩
          refine ev_int ?_
          refine ⟨_, .ltI, ?_⟩
          refine ⟨fun h5 => ?_, fun h6 => ?_⟩
          · (try (simp at h5; done)) <;> (
            skip
            exact ⟨by first | rfl | (rw [isNone_in]; simp_all; done) | (rw [isNone_in]; simp only [*, Bool.false_or]; done), rfl⟩
            )
          · (try (simp at h6; done)) <;> (
            skip
            refine ew_or ?_
            refine et_cmp ?_
            refine ev_ix ?_
            refine ev_var (i := 2) rfl ?_
            refine ev_int ?_
            first | refine ⟨_, .tup rfl, ?_⟩ | refine ⟨_, .lst rfl, ?_⟩ | refine ⟨_, .str (by first | decide | omega | exact sz (by omega)) (by first | rfl | decide | assumption | omega | exact ok_ints _), ?_⟩ | refine ⟨_, .lst (by first | rfl | decide | assumption | omega | exact ok_ints _), ?_⟩
            refine ev_int ?_
            refine ⟨_, .gtI, ?_⟩
            refine ⟨fun h7 => ?_, fun h8 => ?_⟩
            · (try (simp at h7; done)) <;> (
              skip
              exact ⟨by first | rfl | (rw [isNone_in]; simp_all; done) | (rw [isNone_in]; simp only [*, Bool.false_or]; done), rfl⟩
              )
            · (try (simp at h8; done)) <;> (
              skip
              refine ew_or ?_
              refine et_cmp ?_
              refine ev_ix ?_
              refine ev_var (i := 2) rfl ?_
              refine ev_int ?_
              first | refine ⟨_, .tup rfl, ?_⟩ | refine ⟨_, .lst rfl, ?_⟩ | refine ⟨_, .str (by first | decide | omega | exact sz (by omega)) (by first | rfl | decide | assumption | omega | exact ok_ints _), ?_⟩ | refine ⟨_, .lst (by first | rfl | decide | assumption | omega | exact ok_ints _), ?_⟩
              refine ev_int ?_
              refine ⟨_, .gtI, ?_⟩
              refine ⟨fun h9 => ?_, fun h10 => ?_⟩
              · (try (simp at h9; done)) <;> (
                skip
                exact ⟨by first | rfl | (rw [isNone_in]; simp_all; done) | (rw [isNone_in]; simp only [*, Bool.false_or]; done), rfl⟩
                )
              · (try (simp at h10; done)) <;> (
                skip
                refine ew_or1 ?_
                refine et_cmp ?_
                refine ev_ix ?_
                refine ev_var (i := 2) rfl ?_
                refine ev_int ?_
                first | refine ⟨_, .tup rfl, ?_⟩ | refine ⟨_, .lst rfl, ?_⟩ | refine ⟨_, .str (by first | decide | omega | exact sz (by omega)) (by first | rfl | decide | assumption | omega | exact ok_ints _), ?_⟩ | refine ⟨_, .lst (by first | rfl | decide | assumption | omega | exact ok_ints _), ?_⟩
                refine ev_ix ?_
                refine ev_var (i := 2) rfl ?_
                refine ev_int ?_
                first | refine ⟨_, .tup rfl, ?_⟩ | refine ⟨_, .lst rfl, ?_⟩ | refine ⟨_, .str (by first | decide | omega | exact sz (by omega)) (by first | rfl | decide | assumption | omega | exact ok_ints _), ?_⟩ | refine ⟨_, .lst (by first | rfl | decide | assumption | omega | exact ok_ints _), ?_⟩
                refine ⟨_, .geI, ?_⟩
                exact ⟨by first | rfl | (rw [isNone_in]; simp_all; done) | (rw [isNone_in]; simp only [*, Bool.false_or]; done), rfl⟩
                )
              )
            )
          )
        )
      refine ⟨fun h11 => ?_, fun h12 => ?_⟩
      · (try (simp at h11; done)) <;> (
        skip
        refine sv_one ?_
        refine s_ret ?_
        refine ev_non ?_
        exact ret_f (Ξ := Ξ) (by revert hk h11; cases inRobe a b c with | none => exact fun h _ => h | some l => exact fun _ h => by cases h)
        )
      · (try (simp at h12; done)) <;> (
        skip
        refine sv_nil ?_
        refine sq_nx ?_
        refine sv_one ?_
        refine s_ret ?_
        refine ev_ct (id := "tuple") (B _ (by decide)) ?_
        refine evs_cons ?_
        refine ev_var (i := 2) rfl ?_
        refine evs_nil ?_
        first | refine ⟨_, .tupL, ?_⟩ | refine ⟨_, .tupT, ?_⟩
        exact ret_f (Ξ := Ξ) (by exact robe_end h12 hk)
        )
    )
end K76

set_option Elab.async false
set_option linter.all false
set_option maxRecDepth 100000
set_option maxHeartbeats 2000000
/-! K76c: the law's bent texts, its judge, the law. -/
namespace K76
open PySem PySem.Spec PyProof.Rows L2 Fr
def Sm (n : Nat) (s : Str) : Prop := s.length ≤ n ∧ PyData.strOk s = true
theorem app_cps (a b : Str) : (a ++ b).cps.toList = a.cps.toList ++ b.cps.toList := by
  show (a.cps ++ b.cps).toList = _
  exact Array.toList_append
theorem Sm.app {n m : Nat} {a b : Str} (h : Sm n a) (h' : Sm m b) : Sm (n + m) (a ++ b) := by
  refine ⟨?_, sOk_of fun c hc => ?_⟩
  · rw [Str.length_append]
    have := h.1
    have := h'.1
    omega
  · rw [app_cps] at hc
    rcases List.mem_append.mp hc with z | z
    · exact sOk h.2 z
    · exact sOk h'.2 z
theorem Sm.cut {n : Nat} {z : Str} (h : Sm n z) (lo hi : Option Int) : Sm n (cutS z lo hi) := by
  refine ⟨?_, sOk_of fun c hc => sOk h.2 ?_⟩
  · have h1 := h.1
    have h2 : z.length = z.cps.toList.length := by simp [Str.length]
    show (List.toArray _).size ≤ n
    rw [List.size_toArray, List.length_take, List.length_drop]
    omega
  · have h3 : c ∈ (z.cps.toList.drop (HT.sIx z.length 0 lo)).take (HT.sIx z.length z.length hi - HT.sIx z.length 0 lo) := by
      have := hc
      unfold cutS at this
      simpa using this
    exact List.mem_of_mem_drop (List.mem_of_mem_take h3)
theorem sm_sz {n m : Nat} {a b : Str} (h : Sm n a) (h' : Sm m b) (hn : n + m ≤ 16000000 := by decide) : a.length + b.length ≤ sizeLine := sz (by have := h.1; have := h'.1; omega)
theorem Sm.one {c : Nat} (h : c < 0x110000) : Sm 1 ⟨#[c]⟩ := ⟨Nat.le_refl _, sOk_of fun x hx => by
  have : x = c := by simpa using hx
  rw [this]; exact h⟩
theorem at_chr (z : Str) {r : Int} (h0 : 0 ≤ r) (h1 : r < (z.cps.toList.length : Int)) : ∃ c, c ∈ z.cps.toList ∧ L2.atI z.cps.toList r = some c := by
  have h2 : r.toNat < z.cps.toList.length := by omega
  refine ⟨z.cps.toList[r.toNat], List.getElem_mem h2, ?_⟩
  unfold L2.atI L2.ixN
  rw [if_pos h0, if_pos h1]
  simp only [Option.bind_some]
  exact List.getElem?_eq_getElem h2
def Wt (n : Nat) (ys : List Str) : Prop := (ys.map (·.length)).sum + ys.length ≤ n ∧ ∀ s ∈ ys, PyData.strOk s = true
theorem Wt.app {n m : Nat} {a b : List Str} (h : Wt n a) (h' : Wt m b) : Wt (n + m) (a ++ b) := by
  refine ⟨?_, fun s hs => (List.mem_append.mp hs).elim (h.2 s) (h'.2 s)⟩
  rw [List.map_append, List.sum_append, List.length_append]
  have := h.1
  have := h'.1
  omega
def cutL (zs : List Str) (lo hi : Option Int) : List Str := (zs.drop (HT.sIx zs.length 0 lo)).take (HT.sIx zs.length zs.length hi - HT.sIx zs.length 0 lo)
theorem sum_take : ∀ (l : List Str) (n : Nat), ((l.take n).map (·.length)).sum + (l.take n).length ≤ (l.map (·.length)).sum + l.length
  | [], n => by simp
  | a :: l, 0 => by simp
  | a :: l, n + 1 => by
    have := sum_take l n
    simp only [List.take_succ_cons, List.map_cons, List.sum_cons, List.length_cons]
    omega
theorem sum_drop : ∀ (l : List Str) (n : Nat), ((l.drop n).map (·.length)).sum + (l.drop n).length ≤ (l.map (·.length)).sum + l.length
  | [], n => by simp
  | a :: l, 0 => by simp
  | a :: l, n + 1 => by
    have := sum_drop l n
    simp only [List.drop_succ_cons, List.map_cons, List.sum_cons, List.length_cons]
    omega
theorem Wt.cut {n : Nat} {zs : List Str} (h : Wt n zs) (lo hi : Option Int) : Wt n (cutL zs lo hi) := by
  refine ⟨Nat.le_trans (sum_take _ _) (Nat.le_trans (sum_drop _ _) h.1), fun s hs => h.2 s ?_⟩
  exact List.mem_of_mem_drop (List.mem_of_mem_take hs)
theorem Wt.one {n : Nat} {s : Str} (h : Sm n s) : Wt (n + 1) [s] := ⟨by have := h.1; simp; omega, fun x hx => by
  have : x = s := by simpa using hx
  rw [this]; exact h.2⟩
theorem frz_l (ds : List D) : (RV.l ds).o.frz = .lst ds := frz_fzs ds
theorem cutD_str (zs : List Str) (lo hi : Option Int) : cutD (zs.map D.str) lo hi = (cutL zs lo hi).map D.str := by
  unfold Fr.cutD cutL
  rw [List.map_take, List.map_drop, List.length_map]
theorem frz_cut (zs : List Str) (lo hi : Option Int) : (RV.l (cutD (zs.map D.str) lo hi)).o.frz = .lst ((cutL zs lo hi).map .str) := by rw [frz_l, cutD_str]
theorem Wt.len {n : Nat} {a : List Str} (h : Wt n a) : a.length ≤ n := by have := h.1; omega
theorem add_l {d1 d2 : D} {n m : Nat} {x y : List Str} (e1 : d1 = .lst (x.map .str)) (e2 : d2 = .lst (y.map .str)) (h1 : Wt n x) (h2 : Wt m y) (hn : n + m ≤ 16000000 := by decide) : Bop .Add d1 d2 (.l ((x ++ y).map .str)) := by
  subst e1 e2
  rw [List.map_append]
  exact .addL (by rw [List.length_map, List.length_map]; exact sz (by have := h1.len; have := h2.len; omega))
theorem ms_join' {n : Nat} {d : D} {ys : List Str} (e : d = .lst (ys.map .str)) (h : Wt n ys) (hn : n ≤ 16000000 := by decide) : MS "str.join" "/" [d] (.d (.str (Txt.join "/" ys))) := by
  subst e
  refine .join ?_
  have := h.1
  have e : ("/" : Str).length = 1 := by decide
  rw [e]
  omega
theorem Wt.join {n : Nat} {ys : List Str} (h : Wt n ys) : Sm n (Txt.join "/" ys) := by
  have e : Txt.join "/" ys = Str.join "/" ys := StrLaws.glued_eq_join "/" ys
  rw [e]
  refine ⟨?_, sOk_of ?_⟩
  · cases ys with
    | nil => exact Nat.zero_le _
    | cons a l =>
      rw [PyProof.Rows.len_join_cons]
      have := h.1
      have e : ("/" : Str).length = 1 := by decide
      rw [e]
      simp only [List.length_cons] at this
      omega
  · have key : ∀ l : List Str, (∀ s ∈ l, PyData.strOk s = true) → ∀ c ∈ (Str.join "/" l).cps.toList, c < 0x110000 := by
      intro l
      induction l with
      | nil => intro _ c hc; simp [Str.join, Str.empty] at hc
      | cons a l ih =>
        intro hs c hc
        cases l with
        | nil => exact sOk (hs a List.mem_cons_self) hc
        | cons b r =>
          have hc' : c ∈ ((a ++ "/") ++ Str.join "/" (b :: r)).cps.toList := hc
          rw [app_cps, app_cps] at hc'
          rcases List.mem_append.mp hc' with z | z
          · rcases List.mem_append.mp z with w | w
            · exact sOk (hs a List.mem_cons_self) w
            · exact sOk (w := "/") (by decide +kernel) w
          · exact ih (fun s h => hs s (List.mem_cons_of_mem _ h)) c z
    exact key ys h.2
def odds (p0 : Str) : List Str := ["", "0", "00", "01", "99", "100", "999", "1000", "-1", "1_0", "+5", " 5", repZ "9" 61, repZ "9" 900, "x", p0]
theorem odds_ok {p0 : Str} (h : Sm 1000 p0) : ∀ s ∈ odds p0, Sm 1000 s := by
  intro s hs
  simp only [odds, List.mem_cons, List.not_mem_nil, or_false] at hs
  rcases hs with rfl | rfl | rfl | rfl | rfl | rfl | rfl | rfl | rfl | rfl | rfl | rfl | rfl | rfl | rfl | rfl
  case inr.inr.inr.inr.inr.inr.inr.inr.inr.inr.inr.inr.inr.inr.inr => exact h
  all_goals exact ⟨by decide +kernel, by decide +kernel⟩
theorem at_strs (zs : List Str) {r : Int} (h0 : 0 ≤ r) (h1 : r < (zs.length : Int)) : ∃ v, v ∈ zs ∧ L2.atI (zs.map fun s => O.fz (D.str s)) r = some (.fz (.str v)) := by
  have h2 : r.toNat < zs.length := by omega
  refine ⟨zs[r.toNat], List.getElem_mem h2, ?_⟩
  unfold L2.atI L2.ixN
  rw [if_pos h0, if_pos (by rw [List.length_map]; exact h1)]
  simp [h2]
theorem split_wt {z : Str} (h : Sm 20 z) : Wt 21 (Txt.split z "/") := by
  have h1 := PyProof.Rows.split_weight z "/" (by decide)
  exact ⟨by have := h.1; omega, fun s hs => split_ok h.2 hs⟩
theorem split_hd (z : Str) : ∃ p0 zt, Txt.split z "/" = p0 :: zt := by
  have := PyProof.Rows.split_pos z "/"
  cases e : Txt.split z "/" with
  | nil => rw [e] at this; simp at this
  | cons a l => exact ⟨a, l, rfl⟩

theorem ok__law_bent {G : Gx} (Kc : Facts G) (F__law_take : FOK G 1 "_law_take" [] S_take) (h : DefIn G "_law_bent" s__law_bent) : FOK G 2 "_law_bent" [] S_bent := by
  have B := Kc.B
  refine fok_in (N := ["_law_pen_here", "_law_text", "_law_signs", "_law_sign", "_law_at", "_law_parts", "_law_spot", "_law_odd", "_law_way"]) (ps := ["_law_pen_here", "_law_text"]) (P := [0]) h ⟨rfl, rfl, rfl, by decide +kernel, rfl, by decide +kernel, by decide +kernel⟩ (fun _ _ _ _ _ _ us hl => match us, hl with | [_, _], _ => rfl) ?_
  rintro os k Ξ ⟨cs, a, g, z, rfl, hcs, ha0, ha9, hg0, hz1, hz2, hk⟩
  refine ⟨rfl, ?_⟩
  show SV _ _ _ [some _, some _, none, none, none, none, none, none, none] _
  refine sv_cons ?_
  refine s_set (i := 2) ?_
  refine ev_str ?_
  refine sq_nx ?_
  refine sv_cons ?_
  refine s_set (i := 3) ?_
  refine ev_ix ?_
  refine ev_var (i := 2) rfl ?_
  refine ev_call (F__law_take.mono (Nat.le_of_ble_eq_true rfl)) ?_
  refine eva_borL (i := 0) ⟨_, rfl⟩ ?_
  refine eva_cons ?_
  refine ev_int ?_
  refine eva_nil ?_
  refine ⟨_, rfl, ?_⟩
  refine ⟨_, _, _, _, rfl, hcs, by omega, by omega, by omega, by omega, by omega, fun r1 a1 g1 hr1 hs1 ha1 hb1 hg1 => ?_⟩
  dsimp only [refill, List.set_cons_zero, List.set_cons_succ, List.map_cons, List.map_nil, List.cons_append, List.nil_append]
  obtain ⟨c1, hcm, ec1⟩ := at_chr "0123456789/ -+_a.\n" hr1 (by exact hs1)
  have hc1 : Sm 1 ⟨#[c1]⟩ := Sm.one (sOk (w := "0123456789/ -+_a.\n") (by decide +kernel) hcm)
  refine ⟨_, .str (c := c1) (by decide) ec1, ?_⟩
  refine sq_nx ?_
  refine sv_cons ?_
  refine s_set (i := 4) ?_
  refine ev_call (F__law_take.mono (Nat.le_of_ble_eq_true rfl)) ?_
  refine eva_borL (i := 0) ⟨_, rfl⟩ ?_
  refine eva_cons ?_
  refine ev_bin ?_
  refine ev_cb (id := "len") (B _ (by decide)) ?_
  refine evs_cons ?_
  refine ev_var (i := 1) rfl ?_
  refine evs_nil ?_
  first | refine ⟨_, .lenL, ?_⟩ | refine ⟨_, .lenT, ?_⟩ | refine ⟨_, .lenS (by first | decide | omega | exact sz (by omega)), ?_⟩
  refine ev_int ?_
  refine ⟨_, .addI, ?_⟩
  refine eva_nil ?_
  refine ⟨_, rfl, ?_⟩
  refine ⟨_, _, _, _, rfl, hcs, by omega, by omega, by omega, by omega, by omega, fun r2 a2 g2 hr2 hs2 ha2 hb2 hg2 => ?_⟩
  dsimp only [refill, List.set_cons_zero, List.set_cons_succ, List.map_cons, List.map_nil, List.cons_append, List.nil_append]
  refine sq_nx ?_
  refine sv_cons ?_
  refine s_set (i := 5) ?_
  refine ev_ms PySem.F.slot_str_split PySem.F.type_str_split ?_
  refine ev_var (i := 1) rfl ?_
  refine ⟨_, rfl, ?_⟩
  refine evs_cons ?_
  refine ev_str ?_
  refine evs_nil ?_
  refine ⟨_, .split (by decide) (sz (by omega)), ?_⟩
  refine sq_nx ?_
  refine sv_frz (i := 5) rfl ?_
  try simp only [RV.o, frz_fz, frz_fzs, frz_lst, frzL_fz, List.set_cons_zero, List.set_cons_succ]
  have hz : Sm 20 z := ⟨hz1, hz2⟩
  have hwt := split_wt hz
  obtain ⟨p0, zt, ep0⟩ := split_hd z
  have hp0 : Sm 1000 p0 := ⟨by have h1 := hwt.1; rw [ep0] at h1; simp only [List.map_cons, List.sum_cons] at h1; omega, hwt.2 p0 (by rw [ep0]; exact List.mem_cons_self)⟩
  have eat : L2.atI ((Txt.split z "/").map D.str) 0 = some (.str p0) := by rw [ep0]; simp [L2.atI, L2.ixN]
  clear ep0
  generalize Txt.split z "/" = zs at hwt eat ⊢
  have hc := fun lo hi => hz.cut lo hi
  refine sv_cons ?_
  refine s_set (i := 6) ?_
  refine ev_call (F__law_take.mono (Nat.le_of_ble_eq_true rfl)) ?_
  refine eva_borL (i := 0) ⟨_, rfl⟩ ?_
  refine eva_cons ?_
  refine ev_int ?_
  refine eva_nil ?_
  refine ⟨_, rfl, ?_⟩
  refine ⟨_, _, _, _, rfl, hcs, by omega, by omega, by omega, by omega, by omega, fun r3 a3 g3 hr3 hs3 ha3 hb3 hg3 => ?_⟩
  dsimp only [refill, List.set_cons_zero, List.set_cons_succ, List.map_cons, List.map_nil, List.cons_append, List.nil_append]
  refine sq_nx ?_
  refine sv_cons ?_
  refine s_set (i := 7) ?_
  refine ev_lst ?_
  refine evs_cons ?_
  refine ev_str ?_
  refine evs_cons ?_
  refine ev_str ?_
  refine evs_cons ?_
  refine ev_str ?_
  refine evs_cons ?_
  refine ev_str ?_
  refine evs_cons ?_
  refine ev_str ?_
  refine evs_cons ?_
  refine ev_str ?_
  refine evs_cons ?_
  refine ev_str ?_
  refine evs_cons ?_
  refine ev_str ?_
  refine evs_cons ?_
  refine ev_str ?_
  refine evs_cons ?_
  refine ev_str ?_
  refine evs_cons ?_
  refine ev_str ?_
  refine evs_cons ?_
  refine ev_str ?_
  refine evs_cons ?_
  refine ev_bin ?_
  refine ev_str ?_
  refine ev_int ?_
  refine ⟨_, .repS (by decide) (by decide) (by decide) (by decide), ?_⟩
  refine evs_cons ?_
  refine ev_bin ?_
  refine ev_str ?_
  refine ev_int ?_
  refine ⟨_, .repS (by decide) (by decide) (by decide) (by decide), ?_⟩
  refine evs_cons ?_
  refine ev_str ?_
  refine evs_nil ?_
  refine ⟨Nat.le_of_ble_eq_true rfl, ?_⟩
  refine sq_nx ?_
  refine sv_join (fun ρ' => ∃ oz : List Str, oz.length = 16 ∧ (∀ s ∈ oz, Sm 1000 s) ∧ ρ' = [some (penO cs a3 g3), some (.fz (.str z)), some (.fz (.str "0123456789/ -+_a.\n")), some (.fz (.str ⟨#[c1]⟩)), some (.fz (.int r2)), some (.fz (.lst (zs.map .str))), some (.fz (.int r3)), some (.lst (oz.map fun s => .fz (.str s))), none]) ?_ ?_
  · skip
    refine s_expr ?_
    refine ev_append (i := 7) ?_ ⟨_, rfl⟩
    refine ev_ix ?_
    refine ev_var (i := 5) rfl ?_
    refine ev_int ?_
    refine ⟨_, .lst eat, ?_⟩
    refine ⟨_, rfl, Nat.le_of_ble_eq_true rfl, ?_⟩
    refine sq_nx ⟨odds p0, rfl, odds_ok hp0, rfl⟩
  rintro _ ⟨oz, hoz, hok, rfl⟩
  refine sv_cons ?_
  refine s_set (i := 8) ?_
  refine ev_call (F__law_take.mono (Nat.le_of_ble_eq_true rfl)) ?_
  refine eva_borL (i := 0) ⟨_, rfl⟩ ?_
  refine eva_cons ?_
  refine ev_int ?_
  refine eva_nil ?_
  refine ⟨_, rfl, ?_⟩
  refine ⟨_, _, _, _, rfl, hcs, by omega, by omega, by omega, by omega, by omega, fun r4 a4 g4 hr4 hs4 ha4 hb4 hg4 => ?_⟩
  dsimp only [refill, List.set_cons_zero, List.set_cons_succ, List.map_cons, List.map_nil, List.cons_append, List.nil_append]
  refine sq_nx ?_
  refine sv_cons ?_
  refine s_if ?_
  refine et_cmp ?_
  refine ev_var (i := 8) rfl ?_
  refine ev_int ?_
  refine ⟨_, .ltI, ?_⟩
  refine ⟨fun h1 => ?_, fun h2 => ?_⟩
  · skip
    refine sv_one ?_
    refine s_ret ?_
    refine ev_bin ?_
    refine ev_bin ?_
    refine ev_sl ?_
    refine ev_var (i := 1) rfl ?_
    refine ev_var (i := 4) rfl ?_
    refine ⟨_, rfl, ?_⟩
    first | refine ⟨_, .lst, ?_⟩ | refine ⟨_, .tup, ?_⟩ | refine ⟨_, .scr, ?_⟩ | refine ⟨_, .str (by first | decide | omega | exact sz (by omega)), ?_⟩
    refine ev_var (i := 3) rfl ?_
    refine ⟨_, .addS (sm_sz (hc _ _) hc1), ?_⟩
    refine ev_sl ?_
    refine ev_var (i := 1) rfl ?_
    refine ev_bin ?_
    refine ev_var (i := 4) rfl ?_
    refine ev_var (i := 8) rfl ?_
    refine ⟨_, .addI, ?_⟩
    refine ⟨_, rfl, ?_⟩
    first | refine ⟨_, .lst, ?_⟩ | refine ⟨_, .tup, ?_⟩ | refine ⟨_, .scr, ?_⟩ | refine ⟨_, .str (by first | decide | omega | exact sz (by omega)), ?_⟩
    refine ⟨_, .addS (sm_sz ((hc _ _).app hc1) (hc _ _)), ?_⟩
    have hsm := ((hc none (some r2)).app hc1).app (hc (some (r2 + r4)) none)
    exact ret_p (Ξ := Ξ) rfl (hk _ _ _ (Nat.le_trans hsm.1 (by decide)) hsm.2 (by omega) (by omega) (by assumption))
  · skip
    refine sv_nil ?_
    refine sq_nx ?_
    refine sv_cons ?_
    refine s_if ?_
    refine et_cmp ?_
    refine ev_var (i := 8) rfl ?_
    refine ev_int ?_
    first | refine ⟨_, .eqI, ?_⟩ | refine ⟨_, .eqS, ?_⟩ | refine ⟨_, .eqB, ?_⟩ | refine ⟨_, .eqD (by first | rfl | decide | assumption | omega | exact ok_ints _) (by first | rfl | decide | assumption | omega | exact ok_ints _), ?_⟩
    refine ⟨fun h3 => ?_, fun h4 => ?_⟩
    · skip
      refine sv_one ?_
      refine s_ret ?_
      refine ev_bin ?_
      refine ev_sl ?_
      refine ev_var (i := 1) rfl ?_
      refine ev_var (i := 4) rfl ?_
      refine ⟨_, rfl, ?_⟩
      first | refine ⟨_, .lst, ?_⟩ | refine ⟨_, .tup, ?_⟩ | refine ⟨_, .scr, ?_⟩ | refine ⟨_, .str (by first | decide | omega | exact sz (by omega)), ?_⟩
      refine ev_sl ?_
      refine ev_var (i := 1) rfl ?_
      refine ev_bin ?_
      refine ev_var (i := 4) rfl ?_
      refine ev_int ?_
      refine ⟨_, .addI, ?_⟩
      refine ⟨_, rfl, ?_⟩
      first | refine ⟨_, .lst, ?_⟩ | refine ⟨_, .tup, ?_⟩ | refine ⟨_, .scr, ?_⟩ | refine ⟨_, .str (by first | decide | omega | exact sz (by omega)), ?_⟩
      refine ⟨_, .addS (sm_sz (hc _ _) (hc _ _)), ?_⟩
      have hsm := (hc none (some r2)).app (hc (some (r2 + 1)) none)
      exact ret_p (Ξ := Ξ) rfl (hk _ _ _ (Nat.le_trans hsm.1 (by decide)) hsm.2 (by omega) (by omega) (by assumption))
    · skip
      refine sv_nil ?_
      refine sq_nx ?_
      refine sv_cons ?_
      refine s_if ?_
      refine et_cmp ?_
      refine ev_var (i := 8) rfl ?_
      refine ev_int ?_
      first | refine ⟨_, .eqI, ?_⟩ | refine ⟨_, .eqS, ?_⟩ | refine ⟨_, .eqB, ?_⟩ | refine ⟨_, .eqD (by first | rfl | decide | assumption | omega | exact ok_ints _) (by first | rfl | decide | assumption | omega | exact ok_ints _), ?_⟩
      refine ⟨fun h5 => ?_, fun h6 => ?_⟩
      · skip
        refine sv_one ?_
        refine s_ret ?_
        refine ev_ms PySem.F.slot_str_join PySem.F.type_str_join ?_
        refine ev_str ?_
        refine ⟨_, rfl, ?_⟩
        refine evs_cons ?_
        refine ev_bin ?_
        refine ev_sl ?_
        refine ev_var (i := 5) rfl ?_
        refine ev_var (i := 6) rfl ?_
        refine ⟨_, rfl, ?_⟩
        first | refine ⟨_, .lst, ?_⟩ | refine ⟨_, .tup, ?_⟩ | refine ⟨_, .scr, ?_⟩ | refine ⟨_, .str (by first | decide | omega | exact sz (by omega)), ?_⟩
        refine ev_sl ?_
        refine ev_var (i := 5) rfl ?_
        refine ev_bin ?_
        refine ev_var (i := 6) rfl ?_
        refine ev_int ?_
        refine ⟨_, .addI, ?_⟩
        refine ⟨_, rfl, ?_⟩
        first | refine ⟨_, .lst, ?_⟩ | refine ⟨_, .tup, ?_⟩ | refine ⟨_, .scr, ?_⟩ | refine ⟨_, .str (by first | decide | omega | exact sz (by omega)), ?_⟩
        refine ⟨_, add_l (frz_cut _ _ _) (frz_cut _ _ _) (hwt.cut _ _) (hwt.cut _ _), ?_⟩
        refine evs_nil ?_
        refine ⟨_, ms_join' (frz_l _) ((hwt.cut _ _).app (hwt.cut _ _)), ?_⟩
        have hsm := (Wt.join ((hwt.cut none (some r3)).app (hwt.cut (some (r3 + 1)) none)))
        exact ret_p (Ξ := Ξ) rfl (hk _ _ _ (Nat.le_trans hsm.1 (by decide)) hsm.2 (by omega) (by omega) (by assumption))
      · skip
        refine sv_nil ?_
        refine sq_nx ?_
        refine sv_cons ?_
        refine s_if ?_
        refine et_cmp ?_
        refine ev_var (i := 8) rfl ?_
        refine ev_int ?_
        first | refine ⟨_, .eqI, ?_⟩ | refine ⟨_, .eqS, ?_⟩ | refine ⟨_, .eqB, ?_⟩ | refine ⟨_, .eqD (by first | rfl | decide | assumption | omega | exact ok_ints _) (by first | rfl | decide | assumption | omega | exact ok_ints _), ?_⟩
        refine ⟨fun h7 => ?_, fun h8 => ?_⟩
        · skip
          refine sv_one ?_
          refine s_ret ?_
          refine ev_ms PySem.F.slot_str_join PySem.F.type_str_join ?_
          refine ev_str ?_
          refine ⟨_, rfl, ?_⟩
          refine evs_cons ?_
          refine ev_bin ?_
          refine ev_var (i := 5) rfl ?_
          refine ev_lst ?_
          refine evs_cons ?_
          refine ev_str ?_
          refine evs_nil ?_
          refine ⟨Nat.le_of_ble_eq_true rfl, ?_⟩
          refine ⟨_, add_l (y := ["0"]) rfl rfl hwt (Wt.one (n := 1) (s := "0") ⟨by decide +kernel, by decide +kernel⟩), ?_⟩
          refine evs_nil ?_
          refine ⟨_, ms_join' (frz_l _) (hwt.app (Wt.one (n := 1) (s := "0") ⟨by decide +kernel, by decide +kernel⟩)), ?_⟩
          have hsm := (Wt.join (hwt.app (Wt.one (n := 1) (s := "0") ⟨by decide +kernel, by decide +kernel⟩)))
          exact ret_p (Ξ := Ξ) rfl (hk _ _ _ (Nat.le_trans hsm.1 (by decide)) hsm.2 (by omega) (by omega) (by assumption))
        · skip
          refine sv_nil ?_
          refine sq_nx ?_
          refine sv_one ?_
          refine s_ret ?_
          refine ev_ms PySem.F.slot_str_join PySem.F.type_str_join ?_
          refine ev_str ?_
          refine ⟨_, rfl, ?_⟩
          refine evs_cons ?_
          refine ev_bin ?_
          refine ev_bin ?_
          refine ev_sl ?_
          refine ev_var (i := 5) rfl ?_
          refine ev_var (i := 6) rfl ?_
          refine ⟨_, rfl, ?_⟩
          first | refine ⟨_, .lst, ?_⟩ | refine ⟨_, .tup, ?_⟩ | refine ⟨_, .scr, ?_⟩ | refine ⟨_, .str (by first | decide | omega | exact sz (by omega)), ?_⟩
          refine ev_lst ?_
          refine evs_cons ?_
          refine ev_ixO (i := 7) rfl ?_
          refine ev_call (F__law_take.mono (Nat.le_of_ble_eq_true rfl)) ?_
          refine eva_borL (i := 0) ⟨_, rfl⟩ ?_
          refine eva_cons ?_
          refine ev_int ?_
          refine eva_nil ?_
          refine ⟨_, rfl, ?_⟩
          refine ⟨_, _, _, _, rfl, hcs, by omega, by omega, by omega, by omega, by omega, fun r5 a5 g5 hr5 hs5 ha5 hb5 hg5 => ?_⟩
          dsimp only [refill, List.set_cons_zero, List.set_cons_succ, List.map_cons, List.map_nil, List.cons_append, List.nil_append]
          obtain ⟨s5, hs5m, es5⟩ := at_strs oz hr5 (by rw [hoz]; exact hs5)
          have hs5 := hok s5 hs5m
          refine ⟨rfl, _, _, rfl, es5, ?_⟩
          refine evs_nil ?_
          refine ⟨Nat.le_of_ble_eq_true rfl, ?_⟩
          refine ⟨_, add_l (y := [s5]) (frz_cut _ _ _) rfl (hwt.cut _ _) (Wt.one hs5), ?_⟩
          refine ev_sl ?_
          refine ev_var (i := 5) rfl ?_
          refine ev_bin ?_
          refine ev_var (i := 6) rfl ?_
          refine ev_int ?_
          refine ⟨_, .addI, ?_⟩
          refine ⟨_, rfl, ?_⟩
          first | refine ⟨_, .lst, ?_⟩ | refine ⟨_, .tup, ?_⟩ | refine ⟨_, .scr, ?_⟩ | refine ⟨_, .str (by first | decide | omega | exact sz (by omega)), ?_⟩
          refine ⟨_, add_l (frz_l _) (frz_cut _ _ _) ((hwt.cut _ _).app (Wt.one hs5)) (hwt.cut _ _), ?_⟩
          refine evs_nil ?_
          refine ⟨_, ms_join' (frz_l _) (((hwt.cut _ _).app (Wt.one hs5)).app (hwt.cut _ _)), ?_⟩
          have hsm := (Wt.join (((hwt.cut none (some r3)).app (Wt.one hs5)).app (hwt.cut (some (r3 + 1)) none)))
          exact ret_p (Ξ := Ξ) rfl (hk _ _ _ (Nat.le_trans hsm.1 (by decide)) hsm.2 (by omega) (by omega) (by assumption))
end K76

set_option Elab.async false
set_option linter.all false
set_option maxRecDepth 100000
set_option maxHeartbeats 2000000
/-! K76d: the law's judge, the law. -/
namespace K76
open PySem PySem.Spec PyProof.Rows L2 Fr
theorem isRobe_len {ns : List Int} (h : isRobe ns = true) : ns.length ≤ 1000 := by
  match ns, h with
  | [_, _, _], _ => exact Nat.le_of_ble_eq_true rfl
theorem read_len {d : D} {ns : List Int} (h : readRobe d = some ns) : ns.length ≤ 1000 := by
  unfold readRobe at h
  split at h
  · split at h
    · split at h
      · rename_i e
        cases h
        exact isRobe_len e
      · cases h
    · cases h
  · cases h

theorem ok__law_right {G : Gx} (Kc : Facts G) (F_read_robe : FOK G 3 "read_robe" [] S_read_robe) (F__law_same : FOK G 2 "_law_same" [] S_same) (h : DefIn G "_law_right" s__law_right) : FOK G 4 "_law_right" [] S_right := by
  have B := Kc.B
  refine fok_in (N := ["_law_thing", "_law_due", "_law_found", "_law_caught", "e"]) (ps := ["_law_thing", "_law_due"]) (P := []) h ⟨rfl, rfl, rfl, by decide +kernel, rfl, by decide +kernel, by decide +kernel⟩ (fun _ _ _ _ _ _ us hl => match us, hl with | [_, _], _ => rfl) ?_
  rintro os k Ξ ⟨d, o, rfl, hex, hl, hk⟩
  refine ⟨rfl, ?_⟩
  show SV _ _ _ [some _, some _, none, none, none] _
  refine sv_cons ?_
  refine s_set (i := 2) ?_
  refine ev_non ?_
  refine sq_nx ?_
  refine sv_cons ?_
  refine s_set (i := 3) ?_
  refine ev_non ?_
  refine sq_nx ?_
  simp only [List.set_cons_zero, List.set_cons_succ]
  refine sv_cons ?_
  have hx0 : ∃ cx, G.mg "NoText" = some (.ref cx) := by obtain ⟨a, cx, _, g2, _⟩ := Kc.handled; exact ⟨cx, g2⟩
  refine s_try_as (i := 4) ?_ (hx0 := hx0)
  refine sv_one ?_
  refine s_set (i := 2) ?_
  refine ev_call (F_read_robe.mono (Nat.le_of_ble_eq_true rfl)) ?_
  refine eva_cons ?_
  refine ev_var (i := 0) rfl ?_
  refine eva_nil ?_
  refine ⟨_, rfl, hex, hl, fun ns hns => ?ok, fun hn => ?bad⟩
  case ok =>
    show SV _ _ _ _ _
    try simp only [refill, List.set_cons_zero, List.set_cons_succ]
    rcases o with _ | ms <;> simp only [optT] <;> (
      have hns : readRobe d = some ns := hns
      refine sv_cons ?_
      refine s_if ?_
      refine et_cmp ?_
      refine ev_var (i := 1) rfl ?_
      refine ev_non ?_
      first | refine ⟨_, .isN, ?_⟩ | refine ⟨_, .isB, ?_⟩ | refine ⟨_, .isNB, ?_⟩
      refine ⟨fun h1 => ?_, fun h2 => ?_⟩
      · (try (simp at h1; done)) <;> (
        skip
        refine sv_one ?_
        refine s_ret ?_
        refine ev_cmp ?_
        refine ev_var (i := 3) rfl ?_
        refine ev_bl ?_
        first | refine ⟨_, .isN, ?_⟩ | refine ⟨_, .isB, ?_⟩ | refine ⟨_, .isNB, ?_⟩
        exact ret_f (Ξ := Ξ) (by first | exact hk | (rw [hns] at hk; rw [show decide (some ns = some ms) = decide (ns = ms) from by simp] at hk; exact hk) | (rw [hns] at hk; simpa using hk) | (rw [hn] at hk; simpa using hk) | (rw [hn] at hk; exact hk) | (rw [hns] at hk; exact hk))
        )
      · (try (simp at h2; done)) <;> (
        skip
        refine sv_nil ?_
        refine sq_nx ?_
        refine sv_one ?_
        refine s_ret ?_
        refine ev_and ?_
        refine ev_cmp ?_
        refine ev_var (i := 3) rfl ?_
        refine ev_non ?_
        first | refine ⟨_, .isN, ?_⟩ | refine ⟨_, .isB, ?_⟩ | refine ⟨_, .isNB, ?_⟩
        refine ⟨_, rfl, fun h3 => ?_, fun h4 => ?_⟩
        · (try (simp at h3; done)) <;> (
          skip
          refine ev_one ?_
          refine ev_call (F__law_same.mono (Nat.le_of_ble_eq_true rfl)) ?_
          refine eva_cons ?_
          refine ev_var (i := 2) rfl ?_
          refine eva_cons ?_
          refine ev_var (i := 1) rfl ?_
          refine eva_nil ?_
          refine ⟨_, _, rfl, read_len hns, ?_⟩
          exact ret_f (Ξ := Ξ) (by first | exact hk | (rw [hns] at hk; rw [show decide (some ns = some ms) = decide (ns = ms) from by simp] at hk; exact hk) | (rw [hns] at hk; simpa using hk) | (rw [hn] at hk; simpa using hk) | (rw [hn] at hk; exact hk) | (rw [hns] at hk; exact hk))
          )
        · (try (simp at h4; done)) <;> (
          skip
          exact ret_f (Ξ := Ξ) (by first | exact hk | (rw [hns] at hk; rw [show decide (some ns = some ms) = decide (ns = ms) from by simp] at hk; exact hk) | (rw [hns] at hk; simpa using hk) | (rw [hn] at hk; simpa using hk) | (rw [hn] at hk; exact hk) | (rw [hns] at hk; exact hk))
          )
        )
      )
  case bad =>
    refine .inl ⟨Kc.handled, fun ad => ?_⟩
    try simp only [refill, List.set_cons_zero, List.set_cons_succ]
    refine sv_one ?_
    refine s_set (i := 3) ?_
    refine ev_isE (i := 4) (c := noText) (b := true) Kc.is_RobeError (B _ (by decide)) rfl rfl ?_
    show SV _ _ _ _ _
    try simp only [List.set_cons_zero, List.set_cons_succ]
    rcases o with _ | ms <;> simp only [optT] <;> (
      have hn : readRobe d = none := hn
      refine sv_cons ?_
      refine s_if ?_
      refine et_cmp ?_
      refine ev_var (i := 1) rfl ?_
      refine ev_non ?_
      first | refine ⟨_, .isN, ?_⟩ | refine ⟨_, .isB, ?_⟩ | refine ⟨_, .isNB, ?_⟩
      refine ⟨fun h5 => ?_, fun h6 => ?_⟩
      · (try (simp at h5; done)) <;> (
        skip
        refine sv_one ?_
        refine s_ret ?_
        refine ev_cmp ?_
        refine ev_var (i := 3) rfl ?_
        refine ev_bl ?_
        first | refine ⟨_, .isN, ?_⟩ | refine ⟨_, .isB, ?_⟩ | refine ⟨_, .isNB, ?_⟩
        exact ret_f (Ξ := Ξ) (by first | exact hk | (rw [hns] at hk; rw [show decide (some ns = some ms) = decide (ns = ms) from by simp] at hk; exact hk) | (rw [hns] at hk; simpa using hk) | (rw [hn] at hk; simpa using hk) | (rw [hn] at hk; exact hk) | (rw [hns] at hk; exact hk))
        )
      · (try (simp at h6; done)) <;> (
        skip
        refine sv_nil ?_
        refine sq_nx ?_
        refine sv_one ?_
        refine s_ret ?_
        refine ev_and ?_
        refine ev_cmp ?_
        refine ev_var (i := 3) rfl ?_
        refine ev_non ?_
        first | refine ⟨_, .isN, ?_⟩ | refine ⟨_, .isB, ?_⟩ | refine ⟨_, .isNB, ?_⟩
        refine ⟨_, rfl, fun h7 => ?_, fun h8 => ?_⟩
        · (try (simp at h7; done)) <;> (
          skip
          refine ev_one ?_
          refine ev_call (F__law_same.mono (Nat.le_of_ble_eq_true rfl)) ?_
          refine eva_cons ?_
          refine ev_var (i := 2) rfl ?_
          refine eva_cons ?_
          refine ev_var (i := 1) rfl ?_
          refine eva_nil ?_
          refine ⟨_, _, rfl, read_len hns, ?_⟩
          exact ret_f (Ξ := Ξ) (by first | exact hk | (rw [hns] at hk; rw [show decide (some ns = some ms) = decide (ns = ms) from by simp] at hk; exact hk) | (rw [hns] at hk; simpa using hk) | (rw [hn] at hk; simpa using hk) | (rw [hn] at hk; exact hk) | (rw [hns] at hk; exact hk))
          )
        · (try (simp at h8; done)) <;> (
          skip
          exact ret_f (Ξ := Ξ) (by first | exact hk | (rw [hns] at hk; rw [show decide (some ns = some ms) = decide (ns = ms) from by simp] at hk; exact hk) | (rw [hns] at hk; simpa using hk) | (rw [hn] at hk; simpa using hk) | (rw [hn] at hk; exact hk) | (rw [hns] at hk; exact hk))
          )
        )
      )
end K76

set_option Elab.async false
set_option linter.all false
set_option maxRecDepth 100000
set_option maxHeartbeats 2000000
/-! K76e: the law. -/
namespace K76
open PySem PySem.Spec PyProof.Rows L2 Fr
def S_law : FSpec := fun os k Ξ => ∃ ns : List Int, os = [.fz (.scr ns)] ∧ k (.fz (.bl true)) os
def txt (s t o : Int) : Str := (toString s : Str) ++ "/" ++ (toString t : Str) ++ "/" ++ (toString o : Str)
theorem three (n : Int) (h0 : 0 ≤ n) (h1 : n ≤ 999) : Sm 3 (toString n : Str) ∧ numIn (toString n : Str) 0 999 = some n ∧ (47 ∈ TL.tl (toString n : Str)) = False := by
  have : ∀ m : Fin 1000, ((toString ((m.val : Nat) : Int) : String) : Str).length ≤ 3 ∧ PyData.strOk ((toString ((m.val : Nat) : Int) : String) : Str) = true ∧ numIn ((toString ((m.val : Nat) : Int) : String) : Str) 0 999 = some ((m.val : Nat) : Int) ∧ ¬ 47 ∈ TL.tl ((toString ((m.val : Nat) : Int) : String) : Str) := by decide +kernel
  have h := this ⟨n.toNat, by omega⟩
  have e : ((n.toNat : Nat) : Int) = n := Int.toNat_of_nonneg h0
  simp only [e] at h
  exact ⟨⟨h.1, h.2.1⟩, h.2.2.1, eq_false h.2.2.2⟩
theorem str_ext {a b : Str} (h : a.cps.toList = b.cps.toList) : a = b := by
  obtain ⟨a⟩ := a
  obtain ⟨b⟩ := b
  have : a = b := by simpa using h
  rw [this]
theorem show_txt (s t o : Int) : Txt.join "/" ([s, t, o].map fun n => (toString n : Str)) = txt s t o := by
  have e : Txt.join "/" ([s, t, o].map fun n => (toString n : Str)) = Str.join "/" ([s, t, o].map fun n => (toString n : Str)) := StrLaws.glued_eq_join "/" _
  rw [e]
  show ((toString s : Str) ++ "/") ++ (((toString t : Str) ++ "/") ++ (toString o : Str)) = _
  apply str_ext
  unfold txt
  simp only [app_cps, List.append_assoc]
theorem txt_ok {s t o : Int} (h : Sm 3 (toString s : Str)) (h' : Sm 3 (toString t : Str)) (h'' : Sm 3 (toString o : Str)) : Sm 20 (txt s t o) := by
  have hs : Sm 1 ("/" : Str) := ⟨by decide, by decide +kernel⟩
  have := (((h.app hs).app h').app hs).app h''
  exact ⟨Nat.le_trans this.1 (by decide), this.2⟩
theorem read_txt {s t o : Int} (hs1 : 1 ≤ s) (hs2 : s ≤ 999) (ht1 : 0 ≤ t) (ht2 : t ≤ 99) (hts : t < s) (ho1 : 0 ≤ o) (ho2 : o ≤ 99) : readRobe (.str (txt s t o)) = some [s, t, o] := by
  obtain ⟨_, a1, a2⟩ := three s (by omega) hs2
  obtain ⟨_, b1, b2⟩ := three t ht1 (by omega)
  obtain ⟨_, c1, c2⟩ := three o ho1 (by omega)
  have hsp : Txt.split (txt s t o) "/" = [(toString s : Str), (toString t : Str), (toString o : Str)] := by
    rw [← show_txt]
    refine TL.split_join (s := 47) (S := []) (by decide +kernel) (by decide +kernel) (by simp) fun p hp => ?_
    simp only [List.map_cons, List.map_nil, List.mem_cons, List.not_mem_nil, or_false] at hp
    rcases hp with rfl | rfl | rfl
    · exact fun z => of_eq_false a2 z
    · exact fun z => of_eq_false b2 z
    · exact fun z => of_eq_false c2 z
  rw [readRobe_3 hsp, a1, b1, c1]
  unfold inRobe
  dsimp only
  rw [if_neg]
  simp
  omega
theorem rng_at {lo : Int} {n : Nat} {j : Nat} {d : D} (h : (rngD lo n)[j]? = some d) : j < n ∧ d = .int (lo + j) := by
  unfold rngD at h
  rw [List.getElem?_map] at h
  by_cases hj : j < n
  · rw [List.getElem?_range hj] at h
    exact ⟨hj, (Option.some.inj h).symm⟩
  · rw [List.getElem?_eq_none (by simpa using hj)] at h
    cases h
theorem at_D (xs : List D) {r : Int} (h0 : 0 ≤ r) (h1 : r < (xs.length : Int)) : ∃ d, d ∈ xs ∧ L2.atI xs r = some d := by
  have h2 : r.toNat < xs.length := by omega
  refine ⟨xs[r.toNat], List.getElem_mem h2, ?_⟩
  unfold L2.atI L2.ixN
  rw [if_pos h0, if_pos h1]
  simp [h2]
theorem things {s t o : Int} {z : Str} {d : D} (h : d ∈ ([.non, .int 7, .bl true, .tup [.int s, .int t, .int o], .lst [.str z], .dic [] [], .str ""] : List D)) : d.ex = false ∧ readRobe d = none ∧ ∀ w, d = .str w → w.length ≤ 50000 := by
  simp only [List.mem_cons, List.not_mem_nil, or_false] at h
  rcases h with rfl | rfl | rfl | rfl | rfl | rfl | rfl
  case inr.inr.inr.inr.inr.inr => exact ⟨rfl, by decide +kernel, fun w e => by cases e; decide⟩
  all_goals exact ⟨rfl, rfl, fun w e => by cases e⟩

theorem ok_law {G : Gx} (Kc : Facts G) (F_show_robe : FOK G 1 "show_robe" [] S_show_robe) (F__law_pen : FOK G 1 "_law_pen" [] S_pen) (F__law_take : FOK G 1 "_law_take" [] S_take) (F__law_robe : FOK G 2 "_law_robe" [] S_robe) (F__law_robe_in : FOK G 2 "_law_robe_in" [] S_robe_in) (F__law_bent : FOK G 2 "_law_bent" [] S_bent) (F__law_right : FOK G 4 "_law_right" [] S_right) {f : Addr} {fd : FuncData} (h : FunD G.K "law" "law" (defArgs s_law) (defBody s_law) (defScope s_law) [] [] f fd) : FnOk G.P G.w G.K G.mg G.base (L2.CX G.P G.w) 5 f fd ["_law_script"] (spOf G S_law) := by
  have B := Kc.B
  refine fn_def (lv := 4) (N := ["_law_script", "_law_pen_here", "_law_k", "_law_one", "_law_text", "_law_j", "_law_sample", "_law_thing"]) (ps := ["_law_script"]) (P := []) h ⟨rfl, rfl, rfl, by decide +kernel, rfl, by decide +kernel, by decide +kernel⟩ ?_
  rintro os k Ξ ⟨ns, rfl, hk⟩
  refine ⟨rfl, ?_⟩
  show SV _ _ _ [some _, none, none, none, none, none, none, none] _
  refine sv_cons ?_
  refine s_set (i := 1) ?_
  refine ev_call (F__law_pen.mono (Nat.le_of_ble_eq_true rfl)) ?_
  refine eva_cons ?_
  refine ev_var (i := 0) rfl ?_
  refine eva_nil ?_
  refine ⟨ns, rfl, fun cs hcs => ?_⟩
  refine sq_nx ?_
  refine sv_cons ?_
  refine s_for (sl := [2]) [2, 3, 4, 5, 6, 7] ?_
  refine ei_rng1 (B _ (by decide)) ?_
  refine ev_int ?_
  refine ⟨_, rfl, by first | rfl | decide | assumption | omega | exact ok_ints _, ?_⟩
  refine ⟨fun j ρ' => ∃ a g : Int, 0 ≤ a ∧ a ≤ 1000 * (j : Int) ∧ 0 ≤ g ∧ ρ' = [some (.fz (.scr ns)), some (penO cs a g), none, none, none, none, none, none], ⟨0, 0, by decide, by decide, by decide, rfl⟩, ?_, ?_⟩
  · intro j d ρ' hd hj
    obtain ⟨a, g, ha0, ha9, hg0, rfl⟩ := hj
    obtain ⟨hj8, rfl⟩ := rng_at hd
    have hj8 : j < 8 := hj8
    refine tg_name (i := 2) ?_
    refine sv_cons ?_
    refine s_set (i := 3) ?_
    refine ev_call (F__law_robe.mono (Nat.le_of_ble_eq_true rfl)) ?_
    refine eva_borL (i := 1) ⟨_, rfl⟩ ?_
    refine eva_nil ?_
    refine ⟨_, rfl, ?_⟩
    refine ⟨_, _, _, rfl, hcs, by omega, by omega, by omega, fun s t o a1 g1 q1 q2 q3 q4 q5 q6 q7 q8 q9 q10 => ?_⟩
    dsimp only [refill, List.set_cons_zero, List.set_cons_succ, List.map_cons, List.map_nil, List.cons_append, List.nil_append]
    refine sq_nx ?_
    have sl : Sm 1 ("/" : Str) := ⟨by decide, by decide +kernel⟩
    have b3 := (three s (by omega) (by omega)).1
    have c3 := (three t (by omega) (by omega)).1
    have d3 := (three o (by omega) (by omega)).1
    refine sv_join (fun ρ' => ∃ z : Str, z = txt s t o ∧ ρ' = [some (.fz (.scr ns)), some (penO cs a1 g1), some (.fz (.int (0 + (j : Int)))), some (.fz (.tup [.int s, .int t, .int o])), some (.fz (.str z)), none, none, none]) ?_ ?_
    · skip
      refine s_set (i := 4) ?_
      refine ev_bin ?_
      refine ev_bin ?_
      refine ev_bin ?_
      refine ev_bin ?_
      refine ev_ct (id := "str") (B _ (by decide)) ?_
      refine evs_cons ?_
      refine ev_ix ?_
      refine ev_var (i := 3) rfl ?_
      refine ev_int ?_
      first | refine ⟨_, .tup rfl, ?_⟩ | refine ⟨_, .lst rfl, ?_⟩ | refine ⟨_, .str (by first | decide | omega | exact sz (by omega)) (by first | rfl | decide | assumption | omega | exact ok_ints _), ?_⟩ | refine ⟨_, .lst (by first | rfl | decide | assumption | omega | exact ok_ints _), ?_⟩
      refine evs_nil ?_
      first | refine ⟨_, .strS, ?_⟩ | refine ⟨_, .strI (lg_ok (by omega) (by omega)), ?_⟩
      refine ev_str ?_
      refine ⟨_, .addS (sm_sz b3 sl), ?_⟩
      refine ev_ct (id := "str") (B _ (by decide)) ?_
      refine evs_cons ?_
      refine ev_ix ?_
      refine ev_var (i := 3) rfl ?_
      refine ev_int ?_
      first | refine ⟨_, .tup rfl, ?_⟩ | refine ⟨_, .lst rfl, ?_⟩ | refine ⟨_, .str (by first | decide | omega | exact sz (by omega)) (by first | rfl | decide | assumption | omega | exact ok_ints _), ?_⟩ | refine ⟨_, .lst (by first | rfl | decide | assumption | omega | exact ok_ints _), ?_⟩
      refine evs_nil ?_
      first | refine ⟨_, .strS, ?_⟩ | refine ⟨_, .strI (lg_ok (by omega) (by omega)), ?_⟩
      refine ⟨_, .addS (sm_sz (b3.app sl) c3), ?_⟩
      refine ev_str ?_
      refine ⟨_, .addS (sm_sz ((b3.app sl).app c3) sl), ?_⟩
      refine ev_ct (id := "str") (B _ (by decide)) ?_
      refine evs_cons ?_
      refine ev_ix ?_
      refine ev_var (i := 3) rfl ?_
      refine ev_int ?_
      first | refine ⟨_, .tup rfl, ?_⟩ | refine ⟨_, .lst rfl, ?_⟩ | refine ⟨_, .str (by first | decide | omega | exact sz (by omega)) (by first | rfl | decide | assumption | omega | exact ok_ints _), ?_⟩ | refine ⟨_, .lst (by first | rfl | decide | assumption | omega | exact ok_ints _), ?_⟩
      refine evs_nil ?_
      first | refine ⟨_, .strS, ?_⟩ | refine ⟨_, .strI (lg_ok (by omega) (by omega)), ?_⟩
      refine ⟨_, .addS (sm_sz (((b3.app sl).app c3).app sl) d3), ?_⟩
      refine sq_nx ⟨_, rfl, rfl⟩
    rintro _ ⟨z, ez, rfl⟩
    have hz : Sm 20 z := by rw [ez]; exact txt_ok b3 c3 d3
    have hrd : readRobe (.str z) = some [s, t, o] := by rw [ez]; exact read_txt (by omega) (by omega) (by omega) (by omega) (by omega) (by omega) (by omega)
    have hsh : Txt.join "/" ([s, t, o].map fun n => (toString n : Str)) = z := by rw [ez]; exact show_txt s t o
    have hn3 : ∀ n ∈ [s, t, o], 0 ≤ n ∧ n ≤ 999 := by simp; omega
    refine sv_cons ?_
    refine s_if ?_
    refine ET.cut (v := false) ?_ ?_
    · skip
      refine EW.t ?_
      refine ew_or ?_
      refine et_cmp ?_
      refine ev_call (F_show_robe.mono (Nat.le_of_ble_eq_true rfl)) ?_
      refine eva_cons ?_
      refine ev_var (i := 3) rfl ?_
      refine eva_nil ?_
      refine ⟨[s, t, o], rfl, Nat.le_of_ble_eq_true rfl, hn3, ?_⟩
      refine ev_var (i := 4) rfl ?_
      first | refine ⟨_, .neI, ?_⟩ | refine ⟨_, .neS, ?_⟩ | refine ⟨_, .neB, ?_⟩ | refine ⟨_, .neD (by first | rfl | decide | assumption | omega | exact ok_ints _) (by first | rfl | decide | assumption | omega | exact ok_ints _), ?_⟩
      refine ⟨fun h1 => ?_, fun h2 => ?_⟩
      · exact absurd h1 (by rw [hsh]; simp)
      · (try (simp at h2; done)) <;> (
        skip
        refine ew_or1 ?_
        refine et_not ?_
        refine et_val ?_
        refine ev_call (F__law_right.mono (Nat.le_of_ble_eq_true rfl)) ?_
        refine eva_cons ?_
        refine ev_var (i := 4) rfl ?_
        refine eva_cons ?_
        refine ev_var (i := 3) rfl ?_
        refine eva_nil ?_
        refine ⟨.str z, some [s, t, o], rfl, rfl, fun w hw => by cases hw; have := hz.1; omega, ?_⟩
        first | refine ⟨_, .bl, ?_⟩ | refine ⟨_, .int, ?_⟩ | refine ⟨_, .lst, ?_⟩ | refine ⟨_, .str (by first | decide | omega | exact sz (by omega)), ?_⟩
        exact ⟨by rw [hrd, decide_eq_true rfl]; rfl, rfl⟩
        )
    refine ⟨fun h3 => ?_, fun h4 => ?_⟩
    · (try (simp at h3; done)) <;> (
      skip
      refine sv_one ?_
      refine s_ret ?_
      refine ev_bl ?_
      exact ret_f (Ξ := Ξ) hk
      )
    · (try (simp at h4; done)) <;> (
      skip
      refine sv_nil ?_
      refine sq_nx ?_
      refine sv_cons ?_
      refine s_for (sl := [5]) [5, 6] ?_
      refine ei_rng1 (B _ (by decide)) ?_
      refine ev_int ?_
      refine ⟨_, rfl, by first | rfl | decide | assumption | omega | exact ok_ints _, ?_⟩
      refine ⟨fun i ρ' => ∃ a' g' : Int, a1 ≤ a' ∧ a' ≤ a1 + 100 * (i : Int) ∧ 0 ≤ g' ∧ ρ' = [some (.fz (.scr ns)), some (penO cs a' g'), some (.fz (.int (0 + (j : Int)))), some (.fz (.tup [.int s, .int t, .int o])), some (.fz (.str z)), none, none, none], ⟨a1, g1, by omega, by omega, by assumption, rfl⟩, ?_, ?_⟩
      · intro i d ρ' hd hi
        obtain ⟨a', g', hb0, hb9, hbg, rfl⟩ := hi
        obtain ⟨hi4, rfl⟩ := rng_at hd
        have hi4 : i < 4 := hi4
        refine tg_name (i := 5) ?_
        refine sv_cons ?_
        refine s_set (i := 6) ?_
        refine ev_call (F__law_bent.mono (Nat.le_of_ble_eq_true rfl)) ?_
        refine eva_borL (i := 1) ⟨_, rfl⟩ ?_
        refine eva_cons ?_
        refine ev_var (i := 4) rfl ?_
        refine eva_nil ?_
        refine ⟨_, rfl, ?_⟩
        refine ⟨_, _, _, z, rfl, hcs, by omega, by omega, by omega, hz.1, hz.2, fun y a2 g2 y1 y2 y3 y4 y5 => ?_⟩
        dsimp only [refill, List.set_cons_zero, List.set_cons_succ, List.map_cons, List.map_nil, List.cons_append, List.nil_append]
        refine sq_nx ?_
        refine sv_one ?_
        refine s_if ?_
        refine et_not ?_
        refine et_val ?_
        refine ev_call (F__law_right.mono (Nat.le_of_ble_eq_true rfl)) ?_
        refine eva_cons ?_
        refine ev_var (i := 6) rfl ?_
        refine eva_cons ?_
        refine ev_call (F__law_robe_in.mono (Nat.le_of_ble_eq_true rfl)) ?_
        refine eva_cons ?_
        refine ev_var (i := 6) rfl ?_
        refine eva_nil ?_
        refine ⟨y, rfl, y1, y2, ?_⟩
        refine eva_nil ?_
        refine ⟨.str y, readRobe (.str y), rfl, rfl, fun w hw => by cases hw; exact y1, ?_⟩
        first | refine ⟨_, .bl, ?_⟩ | refine ⟨_, .int, ?_⟩ | refine ⟨_, .lst, ?_⟩ | refine ⟨_, .str (by first | decide | omega | exact sz (by omega)), ?_⟩
        refine ⟨fun h5 => ?_, fun h6 => ?_⟩
        · (try (simp at h5; done)) <;> (
          skip
          refine sv_one ?_
          refine s_ret ?_
          refine ev_bl ?_
          exact ret_f (Ξ := Ξ) hk
          )
        · (try (simp at h6; done)) <;> (
          skip
          refine sv_nil ?_
          exact ⟨_, _, by omega, by omega, by assumption, rfl⟩
          )
      · intro ρ' hi
        obtain ⟨a', g', hb0, hb9, hbg, rfl⟩ := hi
        have hb9 : a' ≤ a1 + 100 * 4 := hb9
        refine sq_nx ?_
        refine sv_cons ?_
        refine s_set (i := 7) ?_
        refine ev_ix ?_
        refine ev_lst ?_
        refine evs_cons ?_
        refine ev_non ?_
        refine evs_cons ?_
        refine ev_int ?_
        refine evs_cons ?_
        refine ev_bl ?_
        refine evs_cons ?_
        refine ev_var (i := 3) rfl ?_
        refine evs_cons ?_
        refine ev_lst ?_
        refine evs_cons ?_
        refine ev_var (i := 4) rfl ?_
        refine evs_nil ?_
        refine ⟨Nat.le_of_ble_eq_true rfl, ?_⟩
        refine evs_cons ?_
        refine ev_dic ?_
        refine evs_cons ?_
        refine ev_str ?_
        refine evs_nil ?_
        refine ⟨Nat.le_of_ble_eq_true rfl, ?_⟩
        refine ev_call (F__law_take.mono (Nat.le_of_ble_eq_true rfl)) ?_
        refine eva_borL (i := 1) ⟨_, rfl⟩ ?_
        refine eva_cons ?_
        refine ev_int ?_
        refine eva_nil ?_
        refine ⟨_, rfl, ?_⟩
        refine ⟨_, _, _, _, rfl, hcs, by omega, by omega, by omega, by omega, by omega, fun r1 a1 g1 hr1 hs1 ha1 hb1 hg1 => ?_⟩
        dsimp only [refill, List.set_cons_zero, List.set_cons_succ, List.map_cons, List.map_nil, List.cons_append, List.nil_append]
        obtain ⟨d, hdm, hde⟩ := at_D [.non, .int 7, .bl true, .tup [.int s, .int t, .int o], .lst [.str z], .dic [] [], .str ""] hr1 hs1
        refine ⟨_, .lst hde, ?_⟩
        obtain ⟨hde, hdn, hdl⟩ := things hdm
        refine sq_nx ?_
        refine sv_one ?_
        refine s_if ?_
        refine ET.cut (v := false) ?_ ?_
        · skip
          refine EW.t ?_
          refine ew_or ?_
          refine et_not ?_
          refine et_val ?_
          refine ev_call (F__law_right.mono (Nat.le_of_ble_eq_true rfl)) ?_
          refine eva_cons ?_
          refine ev_var (i := 7) rfl ?_
          refine eva_cons ?_
          refine ev_non ?_
          refine eva_nil ?_
          refine ⟨d, none, rfl, hde, hdl, ?_⟩
          first | refine ⟨_, .bl, ?_⟩ | refine ⟨_, .int, ?_⟩ | refine ⟨_, .lst, ?_⟩ | refine ⟨_, .str (by first | decide | omega | exact sz (by omega)), ?_⟩
          refine ⟨fun h7 => ?_, fun h8 => ?_⟩
          · exact absurd h7 (by rw [hdn]; simp)
          · (try (simp at h8; done)) <;> (
            skip
            refine ew_or1 ?_
            refine et_not ?_
            refine et_val ?_
            refine ev_call (F__law_right.mono (Nat.le_of_ble_eq_true rfl)) ?_
            refine eva_cons ?_
            refine ev_var (i := 4) rfl ?_
            refine eva_cons ?_
            refine ev_var (i := 3) rfl ?_
            refine eva_nil ?_
            refine ⟨.str z, some [s, t, o], rfl, rfl, fun w hw => by cases hw; have := hz.1; omega, ?_⟩
            first | refine ⟨_, .bl, ?_⟩ | refine ⟨_, .int, ?_⟩ | refine ⟨_, .lst, ?_⟩ | refine ⟨_, .str (by first | decide | omega | exact sz (by omega)), ?_⟩
            exact ⟨by rw [hrd, decide_eq_true rfl]; rfl, rfl⟩
            )
        refine ⟨fun h9 => ?_, fun h10 => ?_⟩
        · (try (simp at h9; done)) <;> (
          skip
          refine sv_one ?_
          refine s_ret ?_
          refine ev_bl ?_
          exact ret_f (Ξ := Ξ) hk
          )
        · (try (simp at h10; done)) <;> (
          skip
          refine sv_nil ?_
          exact ⟨_, _, by omega, by omega, by assumption, rfl⟩
          )
      )
  · intro ρ' hj
    obtain ⟨a, g, _, _, _, rfl⟩ := hj
    refine sq_nx ?_
    refine sv_one ?_
    refine s_ret ?_
    refine ev_bl ?_
    exact ret_f (Ξ := Ξ) hk
end K76

set_option Elab.async false
set_option linter.all false
set_option maxRecDepth 100000
set_option maxHeartbeats 0
/-! K76f: the head, the end. -/
namespace Fr
open PySem PySem.Spec PyProof.Rows L2
/-- a law's end, what may be let out by the world -/
theorem walk_ofW {l : PySem.W.OpenLaw} {n k : Nat} {q : Program} {loose : List Str} {XP : (Str → Option Value) → Heap → Prop} {YP : World → Heap → Prop} {d : DefRec} {CX : World → CXT} {x : Str}
    (hn : l.most = some n) (hn2 : n ≤ sizeLine) (hdf : d.params.defaults = []) (hr : Room k callerA)
    (F : ∀ (w : World) (mg : Str → Option Value) (fa : Addr) (h : Heap), YP w h → h.Ns mainGlobals mg → mg d.name = some (.ref fa) →
      ∃ (K : PySem.W.Frag) (fd : FuncData) (sp : Sp), K.In h ∧ (∀ (s : Shared) (u : Value), BindsTo s fd ⟨[u], []⟩ [(x, u)]) ∧
        (∀ (H : Hp) (a : Addr) (ns : List Int), ns.length ≤ n → Only H → SqL K H a (ns.map V.int) → sp [.ref a] H (fun v _ => v = .bl true) fun _ _ _ => False) ∧
        ∀ base : Heap, K.In base → base.Ns mainGlobals mg → FnOk l.prog w K mg base (CX w) k fa fd [x] sp)
    (hCX : ∀ (w : World) (H : Hp) (s : Shared) (e : Value) (s' : Shared), CX w [] H s (fun _ _ _ => False) e s' → False) :
    PySem.W.WalkO q loose XP YP l.row.toRowW d [] (fun f vs => PySem.call f vs) := by
  refine Att.attach_call hn hdf fun w s₀ s₁ mg mb fa o pm cd doc a vs ns G Y ho hd hcd hmg hobj hints hlen hg => ?_
  obtain ⟨K, fd, sp, KX, hb, hsp, hF⟩ := F w mg fa _ Y G.T.g hmg
  exact law_call KX G.T.g G.T.b G.T.builtins G.T.nolimit hg hobj hints (Nat.le_trans hlen hn2) hr hF hb (fun H hO hS => hsp H a ns hlen hO hS) fun H e s' => hCX w H s₁ e s'
end Fr
namespace K76
open PySem PySem.Spec PyProof.Rows L2 Fr
def dd (x : Str) (st : Stmt) : He.DefD := ⟨(x, none), x, x, defArgs st, defBody st, defScope st, [], []⟩
def fn : List He.DefD := [dd "is_whole" s_is_whole, dd "is_robe" s_is_robe, dd "show_robe" s_show_robe, dd "need_text" s_need_text, dd "number_of" s_number_of, dd "read_robe" s_read_robe, dd "_law_pen" s__law_pen, dd "_law_take" s__law_take, dd "_law_robe" s__law_robe, dd "_law_same" s__law_same, dd "_law_number_in" s__law_number_in, dd "_law_robe_in" s__law_robe_in, dd "_law_bent" s__law_bent, dd "_law_right" s__law_right, dd "law" s_law]
def fa : List He.Fa := [.glo "is_whole", .glo "is_robe", .glo "show_robe", .glo "need_text", .glo "number_of", .glo "read_robe", .glo "_law_pen", .glo "_law_take", .glo "_law_robe", .glo "_law_same", .glo "_law_number_in", .glo "_law_robe_in", .glo "_law_bent", .glo "_law_right", .glo "law", .glo "NoText", .glo "RobeError", .int "MOST_SIZE" 999, .int "MOST_SEAM" 99, .int "MOST_FIGURES" 60, .str "FIGURES" "0123456789", .exc "NoText", .exm "NoText" "NoText" true, .free "isinstance", .free "int", .free "bool", .free "len", .free "tuple", .free "str", .free "list", .free "all", .free "abs", .free "min", .free "range", .free "zip"]
def exB (K : PySem.W.Frag) : Bool := He.eqO (PySem.W.findIn K (.ref (He.ga K "NoText")) "__getattribute__") (some (some (.builtin "BaseException.__getattribute__"))) && (He.eqO (PySem.W.findIn K (.ref (He.ga K "NoText")) "__getattr__") (some none) &&
  (PySem.W.hasDictIn K (He.ga K "NoText") && (He.eqO (PySem.W.findIn K (.ref (He.ga K "NoText")) "__class__") (some (some (.builtin "object.__class__"))) && (He.eqO (PySem.W.specialIn K (.builtin "object.__class__") "__get__") (some (some (.builtin "getset_descriptor.__get__"))) &&
  (decide (PySem.W.takesIn K (.builtin "object.__class__") = some true) && (decide (PySem.W.mroIn K (He.ga K "NoText") (.type "object") = some true) && decide (PySem.W.kitOne K (.ref (He.ga K "NoText")) (.ref (He.ga K "RobeError")) = some true)))))))
abbrev R : PySem.W.OpenRow := PySem.W.OpenLaw.row PySem.Challenge.rw_feastrobes_k76_robes_written_and_read
abbrev hk : PySem.W.Hook := He.hookX 5 fa fn [] [] exB
def ob (s : PySem.W.SharedT) : He.AlX := He.obsX 5 fa fn [] [] exB (HandSHeadRun.getT s)
theorem ob_eq (s : PySem.W.SharedT) : ob s = hk.obs s.abs := He.obsX_eq (HandSHeadRun.getT_eq s)
def loose : List Str := ["MOST_SIZE", "MOST_SEAM", "is_whole", "is_robe", "RobeError", "NoText", "show_robe", "FIGURES", "MOST_FIGURES", "need_text", "number_of", "read_robe", "_law_pen", "_law_take", "_law_robe", "_law_same", "_law_number_in", "_law_robe_in", "_law_bent", "_law_right"]
theorem run (w : World) : HandSHeadRun.RunEq R (PySem.W.view R.prog [25]) hk ob 3000 loose w := by
  intro os
  kernel_rfl
section
variable {P : Program} {w : World} {K : PySem.W.Frag} {h base : Heap} {mg : Str → Option Value}
theorem def_in (X : K.In h) (G : h.Ns mainGlobals mg) (c : He.SaysD fa fn K) (i j : Nat) {x : Str} {st : Stmt} (h1 : fn[i]? = some (dd x st)) (h2 : fa[j]? = some (.glo x)) : DefIn ⟨P, w, K, mg, base⟩ x st := by
  obtain ⟨fd, F⟩ := c.def_ i h1
  exact ⟨_, fd, F, He.glo_ok X G (c.fact j h2)⟩
theorem facts (X : K.In h) (G : h.Ns mainGlobals mg) (c : He.SaysD fa fn K) (ex : exB K = true) : Facts ⟨P, w, K, mg, base⟩ := by
  have gN := He.glo_ok X G (c.fact 15 (f := .glo "NoText") rfl)
  have gR := He.glo_ok X G (c.fact 16 (f := .glo "RobeError") rfl)
  obtain ⟨e1, e2, e3, e4⟩ := He.exc_ok (c.fact 21 (f := .exc "NoText") rfl)
  refine ⟨?_, ?_, ?_, ?_, ?_, ⟨_, gN, e1, e2, e3, e4⟩, ⟨_, _, gN, gN, He.exm_ok (c.fact 22 (f := .exm "NoText" "NoText" true) rfl)⟩, ?_⟩
  · intro x hx
    simp only [List.mem_cons, List.not_mem_nil, or_false] at hx
    rcases hx with rfl | rfl | rfl | rfl | rfl | rfl | rfl | rfl | rfl | rfl | rfl | rfl

    · exact He.free_ok X G (c.fact 23 (f := .free "isinstance") rfl)
    · exact He.free_ok X G (c.fact 24 (f := .free "int") rfl)
    · exact He.free_ok X G (c.fact 25 (f := .free "bool") rfl)
    · exact He.free_ok X G (c.fact 26 (f := .free "len") rfl)
    · exact He.free_ok X G (c.fact 27 (f := .free "tuple") rfl)
    · exact He.free_ok X G (c.fact 28 (f := .free "str") rfl)
    · exact He.free_ok X G (c.fact 29 (f := .free "list") rfl)
    · exact He.free_ok X G (c.fact 30 (f := .free "all") rfl)
    · exact He.free_ok X G (c.fact 31 (f := .free "abs") rfl)
    · exact He.free_ok X G (c.fact 32 (f := .free "min") rfl)
    · exact He.free_ok X G (c.fact 33 (f := .free "range") rfl)
    · exact He.free_ok X G (c.fact 34 (f := .free "zip") rfl)
  · obtain ⟨t, e⟩ := He.int_ok X G (c.fact 17 (f := .int "MOST_SIZE" 999) rfl)
    exact ⟨_, .int 999, e, ⟨t, rfl⟩, fun _ => .int _⟩
  · obtain ⟨t, e⟩ := He.int_ok X G (c.fact 18 (f := .int "MOST_SEAM" 99) rfl)
    exact ⟨_, .int 99, e, ⟨t, rfl⟩, fun _ => .int _⟩
  · obtain ⟨t, e⟩ := He.int_ok X G (c.fact 19 (f := .int "MOST_FIGURES" 60) rfl)
    exact ⟨_, .int 60, e, ⟨t, rfl⟩, fun _ => .int _⟩
  · obtain ⟨t, e⟩ := He.str_ok X G (c.fact 20 (f := .str "FIGURES" "0123456789") rfl)
    exact ⟨_, .str "0123456789", e, ⟨t, rfl⟩, fun _ => .str _⟩
  · unfold exB at ex
    simp only [Bool.and_eq_true, decide_eq_true_eq] at ex
    obtain ⟨x1, x2, x3, x4, x5, x6, x7, x8⟩ := ex
    exact ⟨_, _, gN, gR, ⟨He.eqO_ok x1, He.eqO_ok x2, e3, x3, He.eqO_ok x4, He.eqO_ok x5, x6, x7⟩, x8⟩
theorem law_fn (X : K.In h) (G : h.Ns mainGlobals mg) (c : He.SaysD fa fn K) (ex : exB K = true) {f : Addr} {fd : FuncData} (F : FunD K "law" "law" (defArgs s_law) (defBody s_law) (defScope s_law) [] [] f fd) : FnOk P w K mg base (L2.CX P w) 5 f fd ["_law_script"] (spOf ⟨P, w, K, mg, base⟩ S_law) := by
  have Kc : Facts ⟨P, w, K, mg, base⟩ := facts X G c ex
  have i1 := ok_is_whole Kc (def_in X G c 0 0 rfl rfl)
  have i2 := ok_is_robe Kc i1 (def_in X G c 1 1 rfl rfl)
  have i3 := ok_show_robe Kc (def_in X G c 2 2 rfl rfl)
  have i4 := ok_need_text Kc (def_in X G c 3 3 rfl rfl)
  have i5 := ok_number_of Kc (def_in X G c 4 4 rfl rfl)
  have i6 := ok_read_robe Kc i4 i5 i2 (def_in X G c 5 5 rfl rfl)
  have l1 := ok__law_pen Kc (def_in X G c 6 6 rfl rfl)
  have l2 := ok__law_take Kc (def_in X G c 7 7 rfl rfl)
  have l3 := ok__law_robe Kc l2 (def_in X G c 8 8 rfl rfl)
  have l4 := ok__law_same Kc (ok__law_same0 Kc (def_in X G c 9 9 rfl rfl)) (def_in X G c 9 9 rfl rfl)
  have l5 := ok__law_number_in Kc (def_in X G c 10 10 rfl rfl)
  have l6 := ok__law_robe_in Kc l5 (def_in X G c 11 11 rfl rfl)
  have l7 := ok__law_bent Kc l2 (def_in X G c 12 12 rfl rfl)
  have l8 := ok__law_right Kc i6 l4 (def_in X G c 13 13 rfl rfl)
  exact ok_law Kc i3 l1 l2 l3 l6 l7 l8 F
end
theorem law_sp {G : Gx} {H : Hp} {a : Addr} {ns : List Int} (hS : SqL G.K H a (ns.map V.int)) : spOf G S_law [.ref a] H (fun v _ => v = .bl true) fun _ _ _ => False := by
  refine ⟨[.fz (.scr ns)], H, [], fun o _ => o = .fz (.bl true), fun _ _ => False, Ex.refl H, Reps.cons (S := []) (T := []) (.fz (.scr hS)) .nil (fun _ z => by cases z), ⟨ns, rfl, rfl⟩, fun o os' v F' H' A' T e x r t d m => ?_, fun c os' cls d F' H' A' z => z.elim⟩
  subst e
  have a := t.at_fz
  cases a
  rfl
end K76
open PySem PySem.W PySem.Calls PyProof.Rows
theorem PySem.Challenge.cw_feastrobes_k76_robes_written_and_read_holds : PySem.Challenge.rw_feastrobes_k76_robes_written_and_read.Holds := by
  w_on; o_law
  refine HandSHeadRun.head_any (r := OpenLaw.row PySem.Challenge.rw_feastrobes_k76_robes_written_and_read) (q := view (OpenLaw.row PySem.Challenge.rw_feastrobes_k76_robes_written_and_read).prog [25]) (H := K76.hk) (ob := K76.ob) (M := 3000) (loose := K76.loose) (d := HandSHeadRun.topDef (OpenLaw.row PySem.Challenge.rw_feastrobes_k76_robes_written_and_read).prog 25) (kwd := []) K76.ob_eq
    (by kernel_rfl) (fun s => by kernel_rfl) K76.run (by kernel_rfl) (by kernel_rfl) (by kernel_rfl) (by rfl) (by first | assumption | decide +kernel) (by decide +kernel) ⟨rfl, rfl, rfl, rfl, rfl, by decide +kernel⟩ ?hw ?hc
  case hw => w_witness2
  case hc =>
    refine Fr.walk_ofW (l := PySem.Challenge.rw_feastrobes_k76_robes_written_and_read) (n := 63) (k := 5) (x := "_law_script") (CX := L2.CX (PySem.Challenge.rw_feastrobes_k76_robes_written_and_read).prog) rfl (by decide) (by kernel_rfl) ⟨rfl, by decide, by decide⟩ ?F (fun w H s e s' z => ?X)
    case F =>
      intro w mg fa h Y G hmg0
      obtain ⟨K, KX, c⟩ := Y
      have hmg : mg ("law" : PySem.Str) = some (.ref fa) := by
        have e : (HandSHeadRun.topDef (OpenLaw.row PySem.Challenge.rw_feastrobes_k76_robes_written_and_read).prog 25).name = ("law" : PySem.Str) := by kernel_rfl
        rw [← e]
        exact hmg0
      obtain ⟨fd, F⟩ := c.t.d.def_ 14 (d := K76.dd "law" K76.s_law) rfl
      have e := hmg.symm.trans (He.glo_ok KX G (c.t.d.fact 14 (f := .glo "law") rfl))
      cases e
      have b := L2.FunD.bindsA (ps := ["_law_script"]) F fun _ _ _ _ _ _ us hl => match us, hl with | [_], _ => rfl
      exact ⟨K, fd, Fr.spOf ⟨(PySem.Challenge.rw_feastrobes_k76_robes_written_and_read).prog, w, K, mg, h⟩ K76.S_law, KX, fun s v => b s [v] rfl, fun H a ns _ _ hS => K76.law_sp hS, fun base _ _ => K76.law_fn (base := base) KX G c.t.d c.more F⟩
    case X =>
      obtain ⟨_, _, _, _, _, _, _, _, _, _, _, _, z⟩ := z
      exact z.elim

