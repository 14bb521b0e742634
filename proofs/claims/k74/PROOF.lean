import PyProof.Rows.All
import Wide.All
import OpenK.AllK
import Wide.FinOn
import HandS.ForMost
import HandS.ForExc
import KE.GoesComp
import KE.GoesRaise
import HandS.IsInst
import HandS.TupAny
import HandS.StrMore
import HandS.Codes
import HandS.RaiseMore
import HandS.TupLe
import HandS.CallSlots
import HandS.HeadEnd
import HandS.HeadHook2
import HandS.WordsExc
import HandS.ExcOwn
import HandS.TryOnly
import HandS.ExcIs
import HandS.Zip
import HandS.More
import KE.GoesZip
import KE.GoesEnumKw
import PySem.Challenge.RW_feastrobes_k74_deeds_written_and_read
import HandS.Head0
import HandS.Head1
import HandS.Head2
import HandS.HeadHook3
import HandS.HeadHook4
import KE.KStateDown
import Wide.Once
set_option Elab.async false
set_option linter.all false
set_option maxRecDepth 100000
set_option maxHeartbeats 2000000
/-! Fr1: semantic forms of the hand layer's judgements; a comprehension whose element may raise. -/
namespace Fr
open PySem PySem.Spec PyProof.Rows L2

/-! ### semantic forms -/
section
variable (X : Cx)
def wE (e : Expr) : TE := fun σ H Q => ∀ pins s, Inv X pins σ H s → wpAny (model X.prog X.w) X.A (eval e X.env) (EP X pins σ Q) X.xe s
def wT (e : Expr) : TT := fun σ H Q => ∀ pins s, Inv X pins σ H s → wpAny (model X.prog X.w) X.A (isTrue e X.env (eval e X.env)) (TP X pins σ Q) X.xe s
def wTs (ifs : List Expr) : TT := fun σ H Q => ∀ pins s, Inv X pins σ H s → wpAny (model X.prog X.w) X.A (forIn ifs true fun c r => if r = true then do let ok ← isTrue c X.env (eval c X.env); pure (ForInStep.yield ok) else pure (ForInStep.yield r)) (TP X pins σ Q) X.xe s
def wA (es : List Expr) : TA := fun σ H Q => ∀ pos pins s, Inv X pins σ H s → wpAny (model X.prog X.w) X.A (spliced (backTo pos (starEach es X.env))) (AP X pins σ Q) X.xe s
def wS (st : Stmt) : TS := fun D σ H => ∀ pins s, Inv X pins σ H s → wpAny (model X.prog X.w) X.A (exec st X.env) (SP X pins D) X.xe s
def wSs (st : List Stmt) : TS := fun D σ H => ∀ pins s, Inv X pins σ H s → wpAny (model X.prog X.w) X.A (execs st X.env) (SP X pins D) X.xe s
def wG (tg : Expr) : TG := fun v σ H Q => ∀ pins s u, Inv X pins σ H s → RelV v u → wpAny (model X.prog X.w) X.A (assign tg X.env u) (fun _ s' => ∃ σ' H', Inv X pins σ' H' s' ∧ Q σ' H') X.xe s
def wI (tg iter : Expr) : TI := fun σ H R => ∀ pins s, Inv X pins σ H s → wpAny (model X.prog X.w) X.A (eval iter X.env) (fun v s1 => wpAny (model X.prog X.w) X.A (pyIter v) (PIE X pins σ tg R) X.xe s1) X.xe s
end
section
variable {X : Cx} {e tg iter : Expr} {es ifs : List Expr} {st : Stmt} {sts : List Stmt}
theorem pe_w : PE X e (wE X e) := ⟨fun pins s _ _ _ I h => h pins s I⟩
theorem pt_w : PT X e (wT X e) := ⟨fun pins s _ _ _ I h => h pins s I⟩
theorem pts_w : PTs X ifs (wTs X ifs) := ⟨fun pins s _ _ _ I h => h pins s I⟩
theorem pa_w : PA X es (wA X es) := ⟨fun pos pins s _ _ _ I h => h pos pins s I⟩
theorem ps_w : PS X st (wS X st) := ⟨fun pins s _ _ _ I h => h pins s I⟩
theorem pss_w : PSs X sts (wSs X sts) := ⟨fun pins s _ _ _ I h => h pins s I⟩
theorem pg_w : PG X tg (wG X tg) := ⟨fun pins s _ _ _ u _ I r h => h pins s u I r⟩
theorem pi_w : PI X tg iter (wI X tg iter) := ⟨fun pins s _ _ _ I h => h pins s I⟩
theorem w_e {t : TE} (p : PE X e t) {σ H Q} (h : t σ H Q) : wE X e σ H Q := fun pins s I => p.run pins s σ H Q I h
theorem w_t {t : TT} (p : PT X e t) {σ H Q} (h : t σ H Q) : wT X e σ H Q := fun pins s I => p.run pins s σ H Q I h
theorem w_ts {t : TT} (p : PTs X ifs t) {σ H Q} (h : t σ H Q) : wTs X ifs σ H Q := fun pins s I => p.run pins s σ H Q I h
theorem w_a {t : TA} (p : PA X es t) {σ H Q} (h : t σ H Q) : wA X es σ H Q := fun pos pins s I => p.run pos pins s σ H Q I h
theorem w_s {t : TS} (p : PS X st t) {D σ H} (h : t D σ H) : wS X st D σ H := fun pins s I => p.run pins s σ H D I h
theorem w_ss {t : TS} (p : PSs X sts t) {D σ H} (h : t D σ H) : wSs X sts D σ H := fun pins s I => p.run pins s σ H D I h
theorem w_g {t : TG} (p : PG X tg t) {v σ H Q} (h : t v σ H Q) : wG X tg v σ H Q := fun pins s u I r => p.run pins s σ H v u Q I r h
theorem w_i {t : TI} (p : PI X tg iter t) {σ H R} (h : t σ H R) : wI X tg iter σ H R := fun pins s I => p.run pins s σ H R I h
theorem wE.mono {σ H} {Q Q' : VK} (h : wE X e σ H Q) (k : ∀ v H', Q v H' → Q' v H') : wE X e σ H Q' := fun pins s I =>
  thn (h pins s I) fun _ _ ⟨v, H', I', r, q⟩ => ⟨v, H', I', r, k _ _ q⟩
end

/-! ### an exception noted by a block's frame that is not the holder's -/
section
open HandSPX
variable {M : Model} {A : Around} {E : Value → Shared → Prop} {s : Shared} {Z : Obj → Prop} {base : Heap} {env : Env} {outer l : List Env} {L L' e : Addr}
theorem looks_overZ {Q : Unit → Shared → Prop} (hZ : Steady Z) (hfr : A.frames = some (env :: outer)) (hf : env.frame = some L) (hne : L' ≠ L) (hfl : HeldZ base (env :: outer) e Z L' s.heap)
    (hQ : ∀ h', HeldZ base (env :: outer) e Z L h' → s.heap.UpToSlots h' → Q () { s with heap := h' }) : wpAny M A (noteFrame (.ref e) env) Q E s := by
  obtain ⟨hkb, hen, hl, oe, vs, T, oT, ts, he, hz, hd, h1, hnT, hTe, hT, hdT, h3⟩ := hfl
  unfold noteFrame
  simp only [hf]
  refine wpAny_bind (wpAny_field he hd h1 ?_)
  rw [if_pos (show (Value.ref T != Value.none) = true from by simp)]
  refine wpAny_bind (wpAny_field hT hdT h3 ?_)
  have hne' : ((L' : Nat) : Int) ≠ ((L : Nat) : Int) := fun z => hne (Int.ofNat.inj z)
  rw [if_neg (show ¬ ((rawInt L' == rawInt L) = true) from by simp [rawInt, hne'])]
  refine wpAny_bind (wpAny_setField hT hdT (Array.getElem?_eq_some_iff.mp h3).1 ?_)
  have other : ∀ b, b ≠ T → (s.heap.update T (Obj.mapFields (·.setIfInBounds 3 Value.none))).get? b = s.heap.get? b := fun b hb => Heap.get?_update_other _ _ (Ne.symm hb)
  have noRecord : ∀ b o, s.heap.get? b = some o → (∀ vs, o.data ≠ .fields vs) → b ≠ T := fun b o hb hnf q => by
    rw [q, hT] at hb; injection hb with hb; subst hb; exact hnf ts hdT
  refine wpAny_entryZ hZ hfr (hl.of_keeps fun b o hb hnf => ⟨o, (other b (noRecord b o hb hnf)).trans hb, rfl⟩) hf ((other e (Ne.symm hTe)).trans he)
    (fun b o hbo => (other b fun q => by rw [q, hnT] at hbo; cases hbo).trans (hkb b o hbo)) hen hd (Array.getElem?_eq_some_iff.mp h1).1 hz fun h' hN => ?_
  obtain ⟨x1, x2, x3, x4⟩ := hN
  exact hQ h' ⟨x1, hen, x2, x3⟩ fun b o hb hnf => x4 b o ((other b (noRecord b o hb hnf)).trans hb) hnf
end

/-! ### out of a comprehension's block -/
abbrev Blk (X : Cx) (s : Shared) (H : Hp) (scope : Scope) (cenv : Env) (fp : List Addr) (xe : Value → Shared → Prop) : Cx := (X.blk s H scope cenv fp).wish xe
def BlkIs (X : Cx) (scope : Scope) (B : Cx) : Prop := ∃ s H cl C fp xe, B = Blk X s H scope (compEnvC scope cl C X.env) fp xe
section
variable {X : Cx}
theorem out_of_block {pins : List (Addr × Obj)} {σ : L2.St} {H3 : Hp} {s3 s' : Shared} {scope : Scope} {ce : Env} {fp : List Addr} {xe : Value → Shared → Prop} {W : WX} {u : Value} {use : Option (Value → Sem Unit)} {Qf : Value → Shared → Prop} {acc : Value}
    (tk : Takes X W) (hs : X.stack = X.env :: X.outer) (hf : X.env.frame = some X.env.locals) (hcf : ce.frame = X.env.frame) (I3 : Inv X pins σ H3 s3) (f3 : ∀ b ∈ fp, FpOk X pins H3 b ∧ b < s3.heap.objs.size) (cL : s3.heap.objs.size = ce.locals)
    (x : XE (Blk X s3 H3 scope ce fp xe) (fun cls d _ H' => W cls d σ H') u s') :
    notedBy (model X.prog X.w) X.A ce (fun e s'' => compEnds (model X.prog X.w) X.A X.xe use Qf acc ce (.error e) s'') u s' := by
  obtain ⟨a, B, sI, pinsb, σb, H, cls, d, rfl, Ib', nb, up, sky, na, os, ag, w⟩ := x
  have Ib : Inv (X.blk s3 H3 scope ce fp) pinsb σb H sI := Ib'.unwish
  have I7 : Inv X pins σ H sI := I3.call' (ch := fp) Ib.os Ib.base Ib.hok Ib.bare fun b hb => ⟨(f3 b hb).1.2.2.2.1, (f3 b hb).1.2.1, (f3 b hb).1.2.2.2.2.1, (f3 b hb).1.2.2.2.2.2⟩
  have hfr : X.A.frames = some (X.env :: X.outer) := by rw [I7.ok.frames, hs]
  have nC : H ce.locals = none := Ib.free
  obtain ⟨m, hn, _⟩ := Ib.loc
  have hn : sI.heap.Ns ce.locals m := hn
  have hn' : s'.heap.Ns ce.locals m := up.ns hn
  have nst : (Blk X s3 H3 scope ce fp xe).stack = X.env :: X.outer := hs
  rw [nst] at sky
  have nb : ∀ b o, sI.heap.get? b = some o → b ∉ frs X.stack → B.get? b = some o := nb
  have hcn : ce.locals ∉ frs X.stack := fun hm => by
    have z := I3.stkSub _ hm
    rw [← cL] at z
    rcases List.mem_cons.mp z with z | z
    · exact absurd I3.lt (by rw [← z]; exact Nat.lt_irrefl _)
    · exact I3.nofs (Nat.le_refl _) z
  have hLC : X.env.locals ≠ ce.locals := fun z => hcn (by
    rw [← z, hs]
    unfold frs
    rw [List.filterMap_cons, hf]
    exact List.mem_cons_self)
  show wpAny _ _ (noteFrame (.ref a) ce) _ _ s'
  rw [noteFrame_env _ hcf]
  have fin : ∀ h1, HandSPX.HeldZ B (X.env :: X.outer) a (Zc cls d) X.env.locals h1 → s'.heap.UpToSlots h1 →
      compEnds (model X.prog X.w) X.A X.xe use Qf acc ce (.error (.ref a)) { s' with heap := h1 } := fun h1 hh up1 => by
    have key : CompFails (model X.prog X.w) X.A X.xe ce (.ref a) { s' with heap := h1 } := by
      refine ⟨m, up1.ns hn', fun h' m' hn2 sb => ?_⟩
      obtain ⟨b1, b0, fr1, oe, vs, T, oT, ts, he, hz, hd, h1v, hnT, hTe, hT, hdT, h3v⟩ := hh
      have hn1 : h1.Ns ce.locals m := up1.ns hn'
      have aC : a ≠ ce.locals := fun z => by
        obtain ⟨o, es, ep, ho, hdd, _⟩ := hn1
        rw [← z] at ho
        rw [he] at ho
        cases ho
        rw [hd] at hdd
        cases hdd
      have TC : T ≠ ce.locals := fun z => by
        obtain ⟨o, es, ep, ho, hdd, _⟩ := hn1
        rw [← z] at ho
        rw [hT] at ho
        cases ho
        rw [hdT] at hdd
        cases hdd
      have kp : ∀ b, b ≠ ce.locals → h'.get? b = h1.get? b := fun b hb => sb.2 b hb
      have gB : ∀ b o, (PySem.W.hideAll B [ce.locals]).get? b = some o → B.get? b = some o ∧ b ≠ ce.locals := fun b o e => by
        refine ⟨PySem.W.of_hideAll _ e, fun z => ?_⟩
        rw [z, PySem.W.hideAll_none _ (List.mem_singleton.mpr rfl)] at e
        cases e
      have hn0 : ∀ b, B.get? b = none → (PySem.W.hideAll B [ce.locals]).get? b = none := fun b e => by
        cases q : (PySem.W.hideAll B [ce.locals]).get? b with
        | none => rfl
        | some o =>
          rw [(gB b o q).1] at e
          cases e
      have fB : ∀ L ∈ frs (X.env :: X.outer), B.get? L = none := by
        have gen : ∀ l : List Env, h1.FunFrames B l → ∀ L ∈ frs l, B.get? L = none := by
          intro l
          induction l with
          | nil => intro _ L hL; cases hL
          | cons e r ih =>
            rintro ⟨_, ⟨L', _, q1, q2, _⟩, q3⟩ L hL
            unfold frs at hL
            rw [List.filterMap_cons, q1] at hL
            rcases List.mem_cons.mp hL with z | z
            · rw [z]; exact q2
            · exact ih q3 L z
        exact gen _ fr1
      have held : HandSPX.HeldZ (PySem.W.hideAll B [ce.locals]) (X.env :: X.outer) a (Zc cls d) X.env.locals h' :=
        ⟨fun b o e => by
          obtain ⟨e1, e2⟩ := gB b o e
          rw [kp b e2]
          exact b1 b o e1, hn0 a b0, funFrames_none (Heap.FunFrames.sameBut sb hn2 fr1) fun L hL => hn0 L (fB L hL), oe, vs, T, oT, ts, by rw [kp a aC]; exact he, hz, hd, h1v, hn0 T hnT, hTe, by rw [kp T TC]; exact hT, hdT, h3v⟩
      unfold PySem.passOn
      refine wpAny_bind (wpAny_field (by rw [kp a aC]; exact he) hd h1v ?_)
      rw [if_neg (show ¬ ((Value.ref T == Value.none) = true) from by simp)]
      rw [hcf, hf]
      refine wpAny_bind (HandSPX.setFlight_onZ held fun h2 held2 up2 => wpAny_throw ?_)
      refine tk _ _ ⟨a, PySem.W.hideAll B [ce.locals], { sI with heap := PySem.W.hideAll sI.heap [ce.locals] }, pins, σ, H, cls, d, rfl, ?_, fun b o e hb => ?_, fun b o e hnf => ?_, .inr (.inr (by rw [hs]; exact held2)), na, os, ag, w⟩
      · have fC : FpOk X pins H ce.locals := by
          rw [← cL]
          exact I3.fpOk (Nat.le_refl _) (by rw [cL]; exact nC)
        obtain ⟨g0, g1, g2, g3, g4, g5⟩ := fC
        exact I7.turned (t' := sI.toks) (fun b o hb e => PySem.W.hideAll_get _ e fun z => hb (List.mem_singleton.mp z)) g0 g1 g3 g4 g5
      · have e' : (PySem.W.hideAll sI.heap [ce.locals]).get? b = some o := e
        have e1 := PySem.W.of_hideAll _ e'
        have e2 : b ≠ ce.locals := fun z => by
          rw [z, PySem.W.hideAll_none _ (List.mem_singleton.mpr rfl)] at e'
          cases e'
        exact PySem.W.hideAll_get _ (nb b o e1 hb) fun z => e2 (List.mem_singleton.mp z)
      · have e' : (PySem.W.hideAll sI.heap [ce.locals]).get? b = some o := e
        have e1 := PySem.W.of_hideAll _ e'
        have e2 : b ≠ ce.locals := fun z => by
          rw [z, PySem.W.hideAll_none _ (List.mem_singleton.mpr rfl)] at e'
          cases e'
        obtain ⟨sl1, q1⟩ := up b o e1 hnf
        obtain ⟨sl2, q2⟩ := up1 b _ q1 hnf
        have q3 : h'.get? b = some _ := (kp b e2).trans q2
        obtain ⟨sl3, q4⟩ := up2 b _ q3 hnf
        exact ⟨sl3, q4⟩
    cases use <;> exact key
  rcases sky with ⟨hB, hn0, hl, oe, vs, he, hz, hd, h1⟩ | fl | hh
  · exact HandSPX.look_newZ Zc.steady hfr hl hf he hB hn0 hd h1 hz fin
  · exact HandSPX.looks_onZ Zc.steady hfr hf fl fin
  · exact looks_overZ Zc.steady hfr hf (Ne.symm hLC) hh fin

/-! ### a list comprehension over semantic forms; the element may raise -/
theorem Blk.start {pins : List (Addr × Obj)} {σ σ' : L2.St} {H H' : Hp} {s s' : Shared} {scope : Scope} {ce : Env} {fp : List Addr} {xe : Value → Shared → Prop} (I : Inv (X.blk s H scope ce fp) pins σ' H' s') : Inv (Blk X s H scope ce fp xe) pins σ' H' s' := I.wish xe
theorem lc_coreX {W : WX} {pins : List (Addr × Obj)} {s : Shared} {σ : L2.St} {H : Hp} {Q : VK} {elt tg iter : Expr} {ifs : List Expr} {scope : Scope} {own : List (Str × Nat)} {pos pos' : Pos} {use : Option (Value → Sem Unit)} {Qf : Value → Shared → Prop}
    (htk : (Takes X W ∧ X.stack = X.env :: X.outer ∧ X.env.frame = some X.env.locals) ∨ ∀ cls d σ H, ¬ W cls d σ H) (hc : X.calm = true) (hN : X.N.Nodup) (I : Inv X pins σ H s) (ok : BlkOk X.N X.env.scope scope own)
    (hs : ∀ x, foldedSetIterable iter X.env x = pure x)
    (h : wI X tg iter σ H fun J H1 => ∀ D, H1 D = none → ∃ Wv : Nat → Nat → Hp → Prop, (∃ m, Wv 0 m (upd H1 D (.lst []))) ∧ ∀ i m H, Wv i m H →
      (J.stop i H ∧ Q (.ref D) H) ∨ (J.go i H ∧ ∃ Nx : Hp → Prop, (∀ H', Nx H' → ∃ m', m' < m ∧ Wv (i + 1) m' H') ∧ ∀ B, BlkIs X scope B → Takes B (fun cls d _ H' => W cls d σ H') → ∀ x H', J.yld i H x H' →
        wG B tg x (wipe σ (own.map (·.2))) H' fun σ2 H2 => wipe σ2 (own.map (·.2)) = wipe σ (own.map (·.2)) ∧ wTs B ifs σ2 H2 fun b H3 =>
          if b = true then wE B elt σ2 H3 fun y H4 => ∃ acc, H4 D = some (.lst acc) ∧ acc.length < sizeLine ∧ Nx (upd H4 D (.lst (acc ++ [y]))) else Nx H3))
    (hRR : ∀ D C s' m H', Inv X pins σ H' s' → Q (.ref D) H' → s'.heap.Ns C m → FpOk X pins H' C → compPost (model X.prog X.w) X.A X.xe use Qf (.ref D) C (.ok .next) s') :
    wpAny (model X.prog X.w) X.A (comprehension (.ListComp elt [⟨tg, iter, ifs, 0⟩] scope pos) scope X.env pos' (newList []) false (eval iter X.env) use) Qf X.xe s := by
  have hfree : ∀ y ∈ scope.names, y.2 = .free → ∃ c, X.env.cells.lookup y.1 = some c := fun y hy e => by
    rcases ok.free y hy e with k | k
    · exact I.ok.has _ (.inl k)
    · exact I.ok.has _ (.inr k)
  refine comprehension_at (use := use) rfl hs (closure_ok hfree) ok.kind (fun y hy e => by rw [ok.uniq y hy, e])
    (thn (h pins s I) fun xv s1 hx => thn hx fun itv s2 h2 => ?_)
  obtain ⟨it, fp, tn, J, H2, e, I2, T, st2, f2, q⟩ := h2
  subst e
  refine wpAny_newObj_type (newEnv_comp ?_) (by show 0 ≤ sizeLine; decide)
  generalize hD : s2.heap.objs.size = D
  have hDn : H2 D = none := I2.hok.fresh (Nat.le_of_eq hD)
  obtain ⟨Wv, ⟨m0, w0⟩, turn⟩ := q D hDn
  generalize hs3 : ({ s2 with heap := s2.heap.push { cls := .type "list", data := .seq ([] : List Value).toArray } } : Shared) = s3
  have I3 : Inv X pins σ (upd H2 D (.lst [])) s3 := by
    rw [← hs3]
    refine I2.laid (t' := s2.toks) (fun b o e => Heap.get?_push_of_some _ e) (Nat.le_of_eq hD) ⟨Nat.zero_le _, [], 0, .nil, ?_⟩
    rw [← hD]
    exact Heap.get?_push_size _ rfl
  have h3 : s3.heap = s2.heap.push { cls := .type "list", data := .seq ([] : List Value).toArray } := by rw [← hs3]
  have sz : ∀ b ∈ fp, b < s2.heap.objs.size := fun b hb => by
    obtain ⟨o, e, _⟩ := T.obj _ _ st2 b hb
    exact Heap.lt_size e
  have f3 : ∀ b ∈ fp, FpOk X pins (upd H2 D (.lst [])) b ∧ b < s3.heap.objs.size := fun b hb => by
    have hlt := sz b hb
    refine ⟨⟨?_, (f2 b hb).2⟩, by rw [h3, Heap.size_push]; exact Nat.lt_succ_of_lt hlt⟩
    rw [upd_ne (by rw [← hD]; exact Nat.ne_of_lt hlt)]
    exact (f2 b hb).1
  have st3 : tn 0 s3.heap := T.keep _ _ _ st2 fun b _ o e => by rw [h3]; exact Heap.get?_push_of_some _ e
  have I4 := block_start I3 ok hN f3
  show codeAny _ _ (.compStart (.ListComp elt [⟨tg, iter, ifs, 0⟩] scope pos) 0 (.ref it) (.ref D) (compEnvC scope (cellsFrom (s3.heap.objs.size + 1) scope.names (cloFrom X.env.cells scope.names [])) s3.heap.objs.size X.env))
    (compEnds (model X.prog X.w) X.A X.xe use Qf (.ref D) (compEnvC scope (cellsFrom (s3.heap.objs.size + 1) scope.names (cloFrom X.env.cells scope.names [])) s3.heap.objs.size X.env)) { s3 with heap := pushCells (s3.heap.push { cls := .type "dict", data := .dict #[] }) scope.names }
  have nfp : ∀ b ∈ fp, (upd H2 D (.lst [])) b = none := fun b hb => (f3 b hb).1.1
  have bis : ∀ xe, BlkIs X scope (Blk X s3 (upd H2 D (.lst [])) scope (compEnvC scope (cellsFrom (s3.heap.objs.size + 1) scope.names (cloFrom X.env.cells scope.names [])) s3.heap.objs.size X.env) fp xe) := fun xe => ⟨_, _, _, _, _, _, rfl⟩
  have hcf : (compEnvC scope (cellsFrom (s3.heap.objs.size + 1) scope.names (cloFrom X.env.cells scope.names [])) s3.heap.objs.size X.env).frame = X.env.frame := rfl
  have hcl : s3.heap.objs.size = (compEnvC scope (cellsFrom (s3.heap.objs.size + 1) scope.names (cloFrom X.env.cells scope.names [])) s3.heap.objs.size X.env).locals := rfl
  generalize hce : compEnvC scope (cellsFrom (s3.heap.objs.size + 1) scope.names (cloFrom X.env.cells scope.names [])) s3.heap.objs.size X.env = ce at I4 bis hcf hcl ⊢
  generalize hH3 : upd H2 D (.lst []) = H3 at I3 I4 bis w0 nfp f3
  have tkB : Takes (Blk X s3 H3 scope ce fp (notedBy (model X.prog X.w) X.A ce fun e s'' => compEnds (model X.prog X.w) X.A X.xe use Qf (.ref D) ce (.error e) s'')) (fun cls d _ H' => W cls d σ H') :=
    fun u s' x => by
      rcases htk with ⟨tk, hst, hfr⟩ | hno
      · exact out_of_block (use := use) (Qf := Qf) (acc := .ref D) tk hst hfr hcf I3 f3 hcl x
      · obtain ⟨_, _, _, _, _, _, _, _, _, _, _, _, _, _, _, _, w⟩ := x
        exact absurd w (hno _ _ _ _)
  generalize hxe : (notedBy (model X.prog X.w) X.A ce fun e s'' => compEnds (model X.prog X.w) X.A X.xe use Qf (.ref D) ce (.error e) s'') = xe at tkB
  have I4 : Inv (Blk X s3 H3 scope ce fp xe) [] (wipe σ (own.map (·.2))) H3 { s3 with heap := pushCells (s3.heap.push { cls := .type "dict", data := .dict #[] }) scope.names } := I4.wish xe
  generalize hs4 : ({ s3 with heap := pushCells (s3.heap.push { cls := .type "dict", data := .dict #[] }) scope.names } : Shared) = s4 at I4 ⊢
  have st4 : tn 0 s4.heap := T.keep _ _ _ st3 fun b _ o e => by rw [← hs4]; exact pushCells_keeps _ _ _ _ (Heap.get?_push_of_some _ e)
  have stat : ∀ {σ' : L2.St} {H' : Hp} {s' : Shared}, Inv (Blk X s3 H3 scope ce fp xe) [] σ' H' s' → (∀ b ∈ fp, H' b = none) → ∀ b ∈ fp, FpOk (Blk X s3 H3 scope ce fp xe) [] H' b := fun {σ' H' s'} I' hn b hb =>
    ⟨hn b hb, (I'.ok.exf b hb).1, I'.ok.exfs b hb, .inl hb, fun x c e => (I'.ok.exf b hb).2 x c e, fun p hp => absurd (show p ∈ ([] : List (Addr × Obj)) ++ [] from hp) (by simp)⟩
  have loop : codeAny (model X.prog X.w) X.A (.compLoop (.ListComp elt [⟨tg, iter, ifs, 0⟩] scope pos) 0 (.ref it) (.ref D) ce) (compEnds (model X.prog X.w) X.A X.xe use Qf (.ref D) ce) s4 := by
    refine compLoop_any (fun n s' => ∃ i H', Inv (Blk X s3 H3 scope ce fp xe) [] (wipe σ (own.map (·.2))) H' s' ∧ tn i s'.heap ∧ (∀ b ∈ fp, H' b = none) ∧ Wv i n H') ?_ m0 ⟨0, H3, I4, st4, nfp, w0⟩
    rintro n s5 ⟨i, H5, I5, st5, n5, w5⟩
    rw [hxe]
    rcases turn i n H5 w5 with ⟨stop, qq⟩ | ⟨go, Nx, hNx, step⟩
    · have td := T.done (Blk X s3 H3 scope ce fp xe) rfl rfl rfl hc i [] s5 _ H5 (fun _ _ => False) I5 (stat I5 n5) st5 stop
      refine thnF td fun r s6 ⟨hr, I6'⟩ => ?_
      subst hr
      have I6 : Inv (X.blk s3 H3 scope ce fp) [] (wipe σ (own.map (·.2))) H5 s6 := I6'.unwish
      have I7 : Inv X pins σ H5 s6 := I3.call' (ch := fp) I6.os I6.base I6.hok I6.bare fun b hb => ⟨(f3 b hb).1.2.2.2.1, (f3 b hb).1.2.1, (f3 b hb).1.2.2.2.2.1, (f3 b hb).1.2.2.2.2.2⟩
      have nC : H5 ce.locals = none := I6.free
      obtain ⟨m, hn, _⟩ := I6.loc
      have hn : s6.heap.Ns ce.locals m := hn
      have z := hRR D ce.locals s6 m H5 I7 qq hn (I3.fpOk (by rw [hcl]; exact Nat.le_refl _) nC)
      cases use <;> exact z
    · have ti := T.item (Blk X s3 H3 scope ce fp xe) rfl rfl rfl hc i [] s5 _ H5 (fun _ _ => False) I5 (stat I5 n5) st5 go
      refine thnF ti fun r s6 ⟨u, hr, h6⟩ => ?_
      subst hr
      refine thnF h6 fun _ s7 ⟨x, H7, I7, r7, y7, st7, n7⟩ => ?_
      have I7' := I7.pinned (stat I7 n7) (T.obj _ _ st7)
      refine thn (step _ (bis xe) tkB x H7 y7 _ s7 u I7' r7) fun _ s8 ⟨σ8, H8, I8, hw8, q8⟩ => ?_
      refine thn (q8 _ s8 I8) fun b s9 ⟨H9, I9, q9⟩ => ?_
      have fin : ∀ {s' : Shared} {H' : Hp}, Inv (Blk X s3 H3 scope ce fp xe) ([] ++ pinsAt fp s7.heap) σ8 H' s' → Nx H' → ∃ m, m < n ∧ ∃ i H', Inv (Blk X s3 H3 scope ce fp xe) [] (wipe σ (own.map (·.2))) H' s' ∧ tn i s'.heap ∧ (∀ b ∈ fp, H' b = none) ∧ Wv i m H' := fun {s' H'} I' nx => by
        obtain ⟨m', hm, w'⟩ := hNx H' nx
        have pin' : ∀ b ∈ fp, ∀ o, s7.heap.get? b = some o → s'.heap.get? b = some o ∧ H' b = none := fun b hb o e =>
          let z := I'.pin (b, o) (List.mem_append_right _ (List.mem_append_right _ (mem_pinsAt hb e)))
          ⟨z.1, z.2.1⟩
        have hl : (wipe σ (own.map (·.2))).length = σ8.length := by rw [← hw8, wipe_length]
        refine ⟨m', hm, i + 1, H', (I'.unpinned (pins := [])).weak hl (fun j v e => ?_), T.keep _ _ _ st7 fun b hb o e => (pin' b hb o e).1, fun b hb => ?_, w'⟩
        · rw [← hw8] at e
          exact (wipe_some e).1
        · obtain ⟨o, e, _⟩ := T.obj _ _ st7 b hb
          exact (pin' b hb o e).2
      cases b with
      | false =>
        simp only [Bool.false_eq_true, if_false] at q9 ⊢
        exact fin I9 q9
      | true =>
        simp only [if_true] at q9 ⊢
        refine thn (q9 _ s9 I9) fun z s10 ⟨yv, H10, I10, r10, acc, hD10, hz10, nx⟩ => ?_
        exact app_ok (X := Blk X s3 H3 scope ce fp xe) I10 hD10 hz10 r10 fun s11 I11 => fin I11 nx
  exact codeAny_compStart_list loop (T.self X.A 0 _ _ _ st4 loop)
end

end Fr

set_option Elab.async false
set_option linter.all false
set_option maxRecDepth 100000
set_option maxHeartbeats 2000000
/-! Fr2: frozen data, owned values, states by slots. -/
namespace Fr
open PySem PySem.Spec PyProof.Rows L2

/-- frozen data -/
inductive D where
  | non | bl (b : Bool) | int (i : Int) | str (s : Str) | tup (xs : List D) | lst (xs : List D) | dic (ks : List Key) (xs : List D) | scr (ns : List Int) | exn (a : Addr)
/-- a value: frozen, or a list or a dict that one slot alone holds -/
inductive O where
  | fz (d : D) | lst (os : List O) | dic (ks : List Key) (os : List O)
mutual
def O.frz : O → D
  | .fz d => d
  | .lst os => .lst (frzL os)
  | .dic ks os => .dic ks (frzL os)
def frzL : List O → List D
  | [] => []
  | o :: os => o.frz :: frzL os
end
@[simp] theorem frz_fz (d : D) : (O.fz d).frz = d := by unfold O.frz; rfl
@[simp] theorem frz_lst (os : List O) : (O.lst os).frz = .lst (frzL os) := by rw [O.frz]
@[simp] theorem frz_dic (ks : List Key) (os : List O) : (O.dic ks os).frz = .dic ks (frzL os) := by rw [O.frz]
@[simp] theorem frzL_nil : frzL [] = [] := by rw [frzL]
@[simp] theorem frzL_cons (o : O) (os : List O) : frzL (o :: os) = o.frz :: frzL os := by rw [frzL]
theorem frzL_map (os : List O) : frzL os = os.map O.frz := by
  induction os with
  | nil => simp
  | cons o os ih => simp [ih]
@[simp] theorem frzL_fz (ds : List D) : frzL (ds.map .fz) = ds := by
  induction ds with
  | nil => simp
  | cons d ds ih => simp [ih]
@[simp] theorem frzL_append (a b : List O) : frzL (a ++ b) = frzL a ++ frzL b := by simp [frzL_map]
theorem frzL_length (os : List O) : (frzL os).length = os.length := by simp [frzL_map]

mutual
inductive At (K : PySem.W.Frag) (F : Hp) : V → D → Prop
  | non : At K F .non .non
  | bl (b : Bool) : At K F (.bl b) (.bl b)
  | int (i : Int) : At K F (.int i) (.int i)
  | str (s : Str) : At K F (.str s) (.str s)
  | tup {a : Addr} {vs : List V} {ds : List D} : SqT K F a vs → AtL K F vs ds → At K F (.ref a) (.tup ds)
  | lst {a : Addr} {vs : List V} {ds : List D} : F a = some (.lst vs) → AtL K F vs ds → At K F (.ref a) (.lst ds)
  | scr {a : Addr} {ns : List Int} : SqL K F a (ns.map .int) → At K F (.ref a) (.scr ns)
  | exn {a : Addr} : At K F (.ref a) (.exn a)
  | dic {a : Addr} {kvs : List (Key × V)} {ks : List Key} {ds : List D} : F a = some (.dK kvs) → kvs.map (·.1) = ks → AtL K F (kvs.map (·.2)) ds → At K F (.ref a) (.dic ks ds)
inductive AtL (K : PySem.W.Frag) (F : Hp) : List V → List D → Prop
  | nil : AtL K F [] []
  | cons {v : V} {vs : List V} {d : D} {ds : List D} : At K F v d → AtL K F vs ds → AtL K F (v :: vs) (d :: ds)
end
def Ex (F H : Hp) : Prop := ∀ a o, F a = some o → H a = some o
theorem Ex.refl (H : Hp) : Ex H H := fun _ _ h => h
theorem Ex.trans {F H G : Hp} (a : Ex F H) (b : Ex H G) : Ex F G := fun x o h => b x o (a x o h)
theorem Ex.new {H : Hp} {p : Addr} {o : HO} (h : H p = none) : Ex H (upd H p o) := fun a u e => by
  rw [upd_ne (ne_of_none e h)]
  exact e
theorem Ex.l {K : PySem.W.Frag} {F H : Hp} {a : Addr} {xs : List V} (e : Ex F H) (h : SqL K F a xs) : SqL K H a xs := by
  rcases h with (h | ⟨o, h⟩) | h
  · exact .inl (.inl (e _ _ h))
  · exact .inl (.inr ⟨o, e _ _ h⟩)
  · exact .inr h
theorem Ex.t {K : PySem.W.Frag} {F H : Hp} {a : Addr} {xs : List V} (e : Ex F H) (h : SqT K F a xs) : SqT K H a xs := by
  rcases h with (h | ⟨o, h⟩) | h
  · exact .inl (.inl (e _ _ h))
  · exact .inl (.inr ⟨o, e _ _ h⟩)
  · exact .inr h
theorem Ex.free {F H : Hp} (e : Ex F H) {p : Addr} (h : H p = none) : F p = none := by
  cases q : F p with
  | none => rfl
  | some o =>
    rw [e p o q] at h
    cases h
section
variable {K : PySem.W.Frag} {F H F' H' : Hp}
mutual
theorem At.mono (e : Ex F F') : ∀ {v : V} {d : D}, At K F v d → At K F' v d
  | _, _, .non => .non
  | _, _, .bl b => .bl b
  | _, _, .int i => .int i
  | _, _, .str s => .str s
  | _, _, .tup h t => .tup (e.t h) (AtL.mono e t)
  | _, _, .lst h t => .lst (e _ _ h) (AtL.mono e t)
  | _, _, .scr h => .scr (e.l h)
  | _, _, .exn => .exn
  | _, _, .dic h k t => .dic (e _ _ h) k (AtL.mono e t)
theorem AtL.mono (e : Ex F F') : ∀ {vs : List V} {ds : List D}, AtL K F vs ds → AtL K F' vs ds
  | _, _, .nil => .nil
  | _, _, .cons h t => .cons (At.mono e h) (AtL.mono e t)
end
theorem AtL.length : ∀ {vs : List V} {ds : List D}, AtL K F vs ds → vs.length = ds.length
  | _, _, .nil => rfl
  | _, _, .cons _ t => by rw [List.length_cons, List.length_cons, AtL.length t]
theorem AtL.append : ∀ {vs ws : List V} {ds es : List D}, AtL K F vs ds → AtL K F ws es → AtL K F (vs ++ ws) (ds ++ es)
  | _, _, _, _, .nil, b => b
  | _, _, _, _, .cons h t, b => .cons h (AtL.append t b)
theorem AtL.get : ∀ {vs : List V} {ds : List D} {i : Nat} {d : D}, AtL K F vs ds → ds[i]? = some d → ∃ v, vs[i]? = some v ∧ At K F v d
  | _, _, _, _, .nil, e => by simp at e
  | _, _, 0, _, .cons h _, e => by simp at e; subst e; exact ⟨_, rfl, h⟩
  | _, _, i + 1, _, .cons _ t, e => by
    obtain ⟨v, e1, h⟩ := AtL.get (i := i) t (by simpa using e)
    exact ⟨v, by simpa using e1, h⟩
theorem AtL.get' : ∀ {vs : List V} {ds : List D} {i : Nat} {v : V}, AtL K F vs ds → vs[i]? = some v → ∃ d, ds[i]? = some d ∧ At K F v d
  | _, _, _, _, .nil, e => by simp at e
  | _, _, 0, _, .cons h _, e => by simp at e; subst e; exact ⟨_, rfl, h⟩
  | _, _, i + 1, _, .cons _ t, e => by
    obtain ⟨v, e1, h⟩ := AtL.get' (i := i) t (by simpa using e)
    exact ⟨v, by simpa using e1, h⟩
theorem AtL.take : ∀ {vs : List V} {ds : List D} (n : Nat), AtL K F vs ds → AtL K F (vs.take n) (ds.take n)
  | _, _, 0, _ => by simp; exact .nil
  | _, _, n + 1, .nil => by simp; exact .nil
  | _, _, n + 1, .cons h t => by simp; exact .cons h (AtL.take n t)
theorem AtL.drop : ∀ {vs : List V} {ds : List D} (n : Nat), AtL K F vs ds → AtL K F (vs.drop n) (ds.drop n)
  | _, _, 0, h => by simpa using h
  | _, _, n + 1, .nil => by simp; exact .nil
  | _, _, n + 1, .cons h t => by simp; exact AtL.drop n t
theorem AtL.strs : ∀ {vs : List V} {zs : List Str}, AtL K F vs (zs.map .str) → vs = zs.map .str
  | _, [], .nil => rfl
  | _, z :: zs, .cons h t => by
    cases h
    rw [AtL.strs t]
    rfl
theorem AtL.ints : ∀ {vs : List V} {zs : List Int}, AtL K F vs (zs.map .int) → vs = zs.map .int
  | _, [], .nil => rfl
  | _, z :: zs, .cons h t => by
    cases h
    rw [AtL.ints t]
    rfl
theorem AtL.of_strs : ∀ (zs : List Str), AtL K F (zs.map .str) (zs.map .str)
  | [] => .nil
  | z :: zs => .cons (.str z) (AtL.of_strs zs)
theorem AtL.of_ints : ∀ (zs : List Int), AtL K F (zs.map .int) (zs.map .int)
  | [] => .nil
  | z :: zs => .cons (.int z) (AtL.of_ints zs)

mutual
/-- a value and what it is, S the objects that it alone holds -/
inductive Rep (K : PySem.W.Frag) (F H : Hp) : V → O → List Addr → Prop
  | fz {v : V} {d : D} : At K F v d → Rep K F H v (.fz d) []
  | lst {p : Addr} {vs : List V} {os : List O} {S : List Addr} : H p = some (.lst vs) → F p = none → p ∉ S → Reps K F H vs os S → Rep K F H (.ref p) (.lst os) (p :: S)
  | dic {p : Addr} {kvs : List (Key × V)} {ks : List Key} {os : List O} {S : List Addr} : H p = some (.dK kvs) → F p = none → p ∉ S → kvs.map (·.1) = ks → Reps K F H (kvs.map (·.2)) os S → Rep K F H (.ref p) (.dic ks os) (p :: S)
inductive Reps (K : PySem.W.Frag) (F H : Hp) : List V → List O → List Addr → Prop
  | nil : Reps K F H [] [] []
  | cons {v : V} {vs : List V} {o : O} {os : List O} {S T : List Addr} : Rep K F H v o S → Reps K F H vs os T → (∀ q ∈ S, q ∉ T) → Reps K F H (v :: vs) (o :: os) (S ++ T)
end
mutual
theorem Rep.mono (e : Ex F F') : ∀ {v : V} {o : O} {S : List Addr}, (∀ q ∈ S, F' q = none) → (∀ q ∈ S, H' q = H q) → Rep K F H v o S → Rep K F' H' v o S
  | _, _, _, _, _, .fz h => .fz (h.mono e)
  | _, _, _, hf, hh, .lst h1 h2 h3 t => .lst (by rw [hh _ (List.mem_cons_self ..)]; exact h1) (hf _ (List.mem_cons_self ..)) h3 (Reps.mono e (fun q hq => hf q (List.mem_cons_of_mem _ hq)) (fun q hq => hh q (List.mem_cons_of_mem _ hq)) t)
  | _, _, _, hf, hh, .dic h1 h2 h3 hk t => .dic (by rw [hh _ (List.mem_cons_self ..)]; exact h1) (hf _ (List.mem_cons_self ..)) h3 hk (Reps.mono e (fun q hq => hf q (List.mem_cons_of_mem _ hq)) (fun q hq => hh q (List.mem_cons_of_mem _ hq)) t)
theorem Reps.mono (e : Ex F F') : ∀ {vs : List V} {os : List O} {S : List Addr}, (∀ q ∈ S, F' q = none) → (∀ q ∈ S, H' q = H q) → Reps K F H vs os S → Reps K F' H' vs os S
  | _, _, _, _, _, .nil => .nil
  | _, _, _, hf, hh, .cons h t d => .cons (Rep.mono e (fun q hq => hf q (List.mem_append_left _ hq)) (fun q hq => hh q (List.mem_append_left _ hq)) h) (Reps.mono e (fun q hq => hf q (List.mem_append_right _ hq)) (fun q hq => hh q (List.mem_append_right _ hq)) t) d
end
mutual
theorem Rep.none : ∀ {v : V} {o : O} {S : List Addr}, Rep K F H v o S → ∀ q ∈ S, F q = none ∧ ∃ u, H q = some u
  | _, _, _, .fz _, q, hq => by cases hq
  | _, _, _, .lst h1 h2 _ t, q, hq => by
    rcases List.mem_cons.mp hq with e | hq
    · rw [e]; exact ⟨h2, _, h1⟩
    · exact Reps.none t q hq
  | _, _, _, .dic h1 h2 _ _ t, q, hq => by
    rcases List.mem_cons.mp hq with e | hq
    · rw [e]; exact ⟨h2, _, h1⟩
    · exact Reps.none t q hq
theorem Reps.none : ∀ {vs : List V} {os : List O} {S : List Addr}, Reps K F H vs os S → ∀ q ∈ S, F q = none ∧ ∃ u, H q = some u
  | _, _, _, .nil, q, hq => by cases hq
  | _, _, _, .cons h t _, q, hq => by
    rcases List.mem_append.mp hq with hq | hq
    · exact Rep.none h q hq
    · exact Reps.none t q hq
end
mutual
/-- frozen where it stands -/
theorem Rep.freeze : ∀ {F : Hp} {v : V} {o : O} {S : List Addr}, Ex F H → Rep K F H v o S → ∃ F', Ex F F' ∧ Ex F' H ∧ At K F' v o.frz ∧ ∀ q, q ∉ S → F' q = F q
  | F, _, _, _, e, .fz h => ⟨F, Ex.refl F, e, by simpa using h, fun _ _ => rfl⟩
  | F, _, _, _, e, @Rep.lst _ _ _ p vs os S h1 h2 h3 t => by
    obtain ⟨F', e1, e2, a, k⟩ := Reps.freeze e t
    have hp : F' p = Option.none := by rw [k p h3]; exact h2
    refine ⟨upd F' p (.lst vs), e1.trans (Ex.new hp), fun a o ha => ?_, ?_, fun q hq => ?_⟩
    · by_cases hb : a = p
      · subst hb
        rw [upd_same] at ha
        cases ha
        exact h1
      · rw [upd_ne hb] at ha
        exact e2 a o ha
    · rw [frz_lst]
      exact .lst upd_same (a.mono (Ex.new hp))
    · simp only [List.mem_cons, not_or] at hq
      rw [upd_ne hq.1]
      exact k q hq.2
  | F, _, _, _, e, @Rep.dic _ _ _ p kvs ks os S h1 h2 h3 hk t => by
    obtain ⟨F', e1, e2, a, k⟩ := Reps.freeze e t
    have hp : F' p = Option.none := by rw [k p h3]; exact h2
    refine ⟨upd F' p (.dK kvs), e1.trans (Ex.new hp), fun a o ha => ?_, ?_, fun q hq => ?_⟩
    · by_cases hb : a = p
      · subst hb
        rw [upd_same] at ha
        cases ha
        exact h1
      · rw [upd_ne hb] at ha
        exact e2 a o ha
    · rw [frz_dic]
      exact .dic upd_same hk (a.mono (Ex.new hp))
    · simp only [List.mem_cons, not_or] at hq
      rw [upd_ne hq.1]
      exact k q hq.2
theorem Reps.freeze : ∀ {F : Hp} {vs : List V} {os : List O} {S : List Addr}, Ex F H → Reps K F H vs os S → ∃ F', Ex F F' ∧ Ex F' H ∧ AtL K F' vs (frzL os) ∧ ∀ q, q ∉ S → F' q = F q
  | F, _, _, _, e, .nil => ⟨F, Ex.refl F, e, by simp; exact .nil, fun _ _ => rfl⟩
  | F, _, _, _, e, @Reps.cons _ _ _ v vs o os S T h t d => by
    obtain ⟨F1, e1, e2, a, k⟩ := Rep.freeze e h
    have t' : Reps K F1 H vs os T := Reps.mono e1 (fun q hq => by
      rw [k q fun z => d q z hq]
      exact (Reps.none t q hq).1) (fun _ _ => rfl) t
    obtain ⟨F2, e3, e4, a2, k2⟩ := Reps.freeze e2 t'
    refine ⟨F2, e1.trans e3, e4, ?_, fun q hq => ?_⟩
    · rw [frzL_cons]
      exact .cons (a.mono e3) a2
    · simp only [List.mem_append, not_or] at hq
      rw [k2 q hq.2, k q hq.1]
end
theorem Reps.length : ∀ {vs : List V} {os : List O} {S : List Addr}, Reps K F H vs os S → vs.length = os.length
  | _, _, _, .nil => rfl
  | _, _, _, .cons _ t _ => by rw [List.length_cons, List.length_cons, Reps.length t]
theorem Reps.of_at : ∀ {vs : List V} {ds : List D}, AtL K F vs ds → Reps K F H vs (ds.map .fz) []
  | _, _, .nil => .nil
  | _, _, .cons h t => Reps.cons (S := []) (T := []) (.fz h) (Reps.of_at t) (fun _ z => by cases z)
theorem Reps.append : ∀ {vs ws : List V} {os ps : List O} {S T : List Addr}, Reps K F H vs os S → Reps K F H ws ps T → (∀ q ∈ S, q ∉ T) → Reps K F H (vs ++ ws) (os ++ ps) (S ++ T)
  | _, _, _, _, _, _, .nil, b, _ => b
  | _, _, _, _, _, T, @Reps.cons _ _ _ v vs o os S1 S2 h t d, b, x => by
    rw [List.append_assoc]
    refine .cons h (Reps.append t b fun q hq => x q (List.mem_append_right _ hq)) fun q hq hm => ?_
    rcases List.mem_append.mp hm with z | z
    · exact d q hq z
    · exact x q (List.mem_append_left _ hq) z
end

/-! ### states -/
abbrev Rho := List (Option O)
def own (fp : Nat → List Addr) (q : Addr) : Prop := ∃ i, q ∈ fp i
structure SR (K : PySem.W.Frag) (F H : Hp) (σ : L2.St) (ρ : Rho) (fp : Nat → List Addr) : Prop where
  len : ρ.length = σ.length
  ex : Ex F H
  slot : ∀ i o, ρ[i]? = some (some o) → ∃ v, σ[i]? = some (some v) ∧ Rep K F H v o (fp i)
  nil : ∀ i, (∀ o, ρ[i]? ≠ some (some o)) → fp i = []
  dis : ∀ i j, i ≠ j → ∀ q ∈ fp i, q ∉ fp j
/-- what may have changed between two states: what A holds, and what is new; B holds then -/
structure Mv (A : Addr → Prop) (F H : Hp) (B : Addr → Prop) (F' H' : Hp) : Prop where
  ef : Ex F F'
  keep : ∀ q o, H q = some o → ¬ A q → H' q = some o ∧ F' q = F q
  new : ∀ q, B q → A q ∨ H q = none
theorem Mv.refl {A : Addr → Prop} {F H : Hp} : Mv A F H A F H := ⟨Ex.refl F, fun _ _ h _ => ⟨h, rfl⟩, fun _ h => .inl h⟩
theorem Mv.trans {A A1 A2 : Addr → Prop} {F H F1 H1 F2 H2 : Hp} (a : Mv A F H A1 F1 H1) (b : Mv A1 F1 H1 A2 F2 H2) : Mv A F H A2 F2 H2 := by
  have key : ∀ q o, H q = some o → ¬ A q → ¬ A1 q := fun q o h hn h1 => by
    rcases a.new q h1 with z | z
    · exact hn z
    · rw [h] at z; cases z
  refine ⟨a.ef.trans b.ef, fun q o h hn => ?_, fun q h => ?_⟩
  · obtain ⟨h1, f1⟩ := a.keep q o h hn
    obtain ⟨h2, f2⟩ := b.keep q o h1 (key q o h hn)
    exact ⟨h2, f2.trans f1⟩
  · rcases b.new q h with z | z
    · exact a.new q z
    · by_cases hq : A q
      · exact .inl hq
      · refine .inr ?_
        cases e : H q with
        | none => rfl
        | some o =>
          rw [(a.keep q o e hq).1] at z
          cases z
theorem Mv.less {A B B' : Addr → Prop} {F H F' H' : Hp} (m : Mv A F H B F' H') (h : ∀ q, B' q → B q) : Mv A F H B' F' H' := ⟨m.ef, m.keep, fun q hq => m.new q (h q hq)⟩
theorem Mv.more {A A' B : Addr → Prop} {F H F' H' : Hp} (m : Mv A F H B F' H') (h : ∀ q, A q → A' q) : Mv A' F H B F' H' := ⟨m.ef, fun q o e n => m.keep q o e fun z => n (h q z), fun q hq => (m.new q hq).imp (h q) id⟩
section
variable {K : PySem.W.Frag} {F H F' H' : Hp} {σ : L2.St} {ρ : Rho} {fp fp' : Nat → List Addr} {A B : Addr → Prop}
theorem SR.owned (s : SR K F H σ ρ fp) {q : Addr} (h : own fp q) : F q = none ∧ ∃ u, H q = some u := by
  obtain ⟨i, hi⟩ := h
  by_cases e : ∃ o, ρ[i]? = some (some o)
  · obtain ⟨o, e⟩ := e
    obtain ⟨v, _, r⟩ := s.slot i o e
    exact r.none q hi
  · rw [s.nil i fun o z => e ⟨o, z⟩] at hi
    cases hi
/-- the heaps change off what is held -/
theorem SR.mono (s : SR K F H σ ρ fp) (e : Ex F F') (x : Ex F' H') (hf : ∀ q, own fp q → F' q = none) (hh : ∀ q, own fp q → H' q = H q) : SR K F' H' σ ρ fp :=
  ⟨s.len, x, fun i o h => by
    obtain ⟨v, e1, r⟩ := s.slot i o h
    exact ⟨v, e1, r.mono e (fun q hq => hf q ⟨i, hq⟩) (fun q hq => hh q ⟨i, hq⟩)⟩, s.nil, s.dis⟩
theorem Rep.along {v : V} {o : O} {S : List Addr} (r : Rep K F H v o S) (m : Mv A F H B F' H') (d : ∀ q ∈ S, ¬ A q) : Rep K F' H' v o S :=
  r.mono m.ef (fun q hq => by
    obtain ⟨h1, u, h2⟩ := r.none q hq
    rw [(m.keep q u h2 (d q hq)).2]
    exact h1) (fun q hq => by
    obtain ⟨h1, u, h2⟩ := r.none q hq
    rw [h2]
    exact (m.keep q u h2 (d q hq)).1)
theorem Reps.along {vs : List V} {os : List O} {S : List Addr} (r : Reps K F H vs os S) (m : Mv A F H B F' H') (d : ∀ q ∈ S, ¬ A q) : Reps K F' H' vs os S :=
  r.mono m.ef (fun q hq => by
    obtain ⟨h1, u, h2⟩ := r.none q hq
    rw [(m.keep q u h2 (d q hq)).2]
    exact h1) (fun q hq => by
    obtain ⟨h1, u, h2⟩ := r.none q hq
    rw [h2]
    exact (m.keep q u h2 (d q hq)).1)
/-- what stays off the held things of the state behind -/
theorem Mv.off {S : List Addr} (m : Mv A F H B F' H') (d : ∀ q ∈ S, ¬ A q) (hs : ∀ q ∈ S, ∃ u, H q = some u) : ∀ q ∈ S, ¬ B q := fun q hq h => by
  rcases m.new q h with z | z
  · exact d q hq z
  · obtain ⟨u, e⟩ := hs q hq
    rw [e] at z
    cases z
/-- a value is frozen: the state stays -/
theorem SR.freeze (s : SR K F H σ ρ fp) {v : V} {o : O} {S : List Addr} (r : Rep K F H v o S) (d : ∀ q ∈ S, ¬ own fp q) : ∃ F', SR K F' H σ ρ fp ∧ At K F' v o.frz ∧ Ex F F' ∧ ∀ q, q ∉ S → F' q = F q := by
  obtain ⟨F', e1, e2, a, k⟩ := r.freeze s.ex
  refine ⟨F', s.mono e1 e2 (fun q hq => ?_) (fun _ _ => rfl), a, e1, k⟩
  rw [k q fun z => d q z hq]
  exact (s.owned hq).1
end
end Fr

set_option Elab.async false
set_option linter.all false
set_option maxRecDepth 100000
set_option maxHeartbeats 2000000
/-! Fr3: contexts, the judgements EV (expressions), ET (tests), EVs (argument lists), names, constants, operators. -/
namespace Fr
open PySem PySem.Spec PyProof.Rows L2

structure Exc where
  name : Str
  fld : Option (Str × D) := none
structure Gx where
  P : Program
  w : World
  K : PySem.W.Frag
  mg : Str → Option Value
  base : Heap
structure Ctx where
  G : Gx
  lv : Nat
  N : List Str
  sc : Scope
  top : Bool
  su : Option (Addr × Exc) := none
abbrev Ctx.K (C : Ctx) := C.G.K
structure XIs (C : Ctx) (X : Cx) : Prop where
  P : X.prog = C.G.P
  w : X.w = C.G.w
  K : X.K = C.G.K
  mg : X.mg = C.G.mg
  base : X.base = C.G.base
  N : X.N = C.N
  nd : X.N.Nodup
  sc : X.env.scope = C.sc
  rm : C.su = none → Room C.lv X.A
  calm : C.su = none → X.calm = true
  un : X.A.units + 64 < cLine
  exn : ∀ a c, C.su = some (a, c) → ∃ (X0 : Cx) (oe : Obj) (pn : List (Addr × Obj)) (cls : Value) (d : Option Addr), X = X0.suite a ((a, oe) :: pn) ∧ Zc cls d oe ∧ (∃ vs, oe.data = .fields vs) ∧ ∃ ca, C.G.mg c.name = some (.ref ca) ∧ cls = .ref ca ∧ (match c.fld with
    | none => d = none
    | some (f, dv) => ∃ dd, d = some dd)
  top : C.top = true → X.stack = X.env :: X.outer ∧ X.env.frame = some X.env.locals
  fn : C.top = true → ∀ x, X.fn x = true
/-- an exception of the text's own classes, as it lies -/
def XR (G : Gx) (c : Exc) (cls : Value) (d : Option Addr) (F H : Hp) : Prop :=
  ∃ a, G.mg c.name = some (.ref a) ∧ cls = .ref a ∧ (match c.fld with
    | none => d = none
    | some (f, dv) => ∃ dd v, d = some dd ∧ H dd = some (.xd [(f, v)]) ∧ At G.K F v dv)

/-- the ends of an expression: a value, a frozen value, an exception -/
def VP (K : PySem.W.Frag) (σ : L2.St) (A : Addr → Prop) (F H : Hp) (k : O → Rho → Prop) : VK := fun v H' => ∃ o ρ' F' fp' S, k o ρ' ∧ SR K F' H' σ ρ' fp' ∧ Rep K F' H' v o S ∧ (∀ q ∈ S, ¬ own fp' q) ∧ Mv A F H (fun q => own fp' q ∨ q ∈ S) F' H'
def DP (K : PySem.W.Frag) (σ : L2.St) (A : Addr → Prop) (F H : Hp) (k : D → Rho → Prop) : VK := fun v H' => ∃ d ρ' F' fp', k d ρ' ∧ SR K F' H' σ ρ' fp' ∧ At K F' v d ∧ Mv A F H (own fp') F' H'
def BP (K : PySem.W.Frag) (σ : L2.St) (A : Addr → Prop) (F H : Hp) (k : Bool → Rho → Prop) : Bool → Hp → Prop := fun b H' => ∃ ρ' F' fp', k b ρ' ∧ SR K F' H' σ ρ' fp' ∧ Mv A F H (own fp') F' H'
def LP (K : PySem.W.Frag) (σ : L2.St) (A : Addr → Prop) (F H : Hp) (k : List D → Rho → Prop) : List V → Hp → Prop := fun vs H' => ∃ ds ρ' F' fp', k ds ρ' ∧ SR K F' H' σ ρ' fp' ∧ AtL K F' vs ds ∧ Mv A F H (own fp') F' H'
def XP (G : Gx) (W : WX) (σ : L2.St) (A : Addr → Prop) (F H : Hp) (Ξ : Exc → Rho → Prop) : Prop := ∀ c ρ' F' H' fp' cls d, Ξ c ρ' → SR G.K F' H' σ ρ' fp' → XR G c cls d F' H' → Mv A F H (own fp') F' H' → W cls d σ H'
theorem XP.along {G : Gx} {W : WX} {σ : L2.St} {A B : Addr → Prop} {F H F1 H1 : Hp} {Ξ : Exc → Rho → Prop} (x : XP G W σ A F H Ξ) (m : Mv A F H B F1 H1) : XP G W σ B F1 H1 Ξ :=
  fun c ρ' F' H' fp' cls d h s r m' => x c ρ' F' H' fp' cls d h s r (m.trans m')
theorem VP.along {K : PySem.W.Frag} {σ : L2.St} {A B : Addr → Prop} {F H F1 H1 : Hp} {k : O → Rho → Prop} {v : V} {H' : Hp} (m : Mv A F H B F1 H1) (h : VP K σ B F1 H1 k v H') : VP K σ A F H k v H' := by
  obtain ⟨o, ρ', F', fp', S, h1, h2, h3, h4, h5⟩ := h
  exact ⟨o, ρ', F', fp', S, h1, h2, h3, h4, m.trans h5⟩
theorem BP.along {K : PySem.W.Frag} {σ : L2.St} {A B : Addr → Prop} {F H F1 H1 : Hp} {k : Bool → Rho → Prop} {v : Bool} {H' : Hp} (m : Mv A F H B F1 H1) (h : BP K σ B F1 H1 k v H') : BP K σ A F H k v H' := by
  obtain ⟨ρ', F', fp', h1, h2, h3⟩ := h
  exact ⟨ρ', F', fp', h1, h2, m.trans h3⟩
theorem LP.along {K : PySem.W.Frag} {σ : L2.St} {A B : Addr → Prop} {F H F1 H1 : Hp} {k : List D → Rho → Prop} {v : List V} {H' : Hp} (m : Mv A F H B F1 H1) (h : LP K σ B F1 H1 k v H') : LP K σ A F H k v H' := by
  obtain ⟨ds, ρ', F', fp', h1, h2, h3, h4⟩ := h
  exact ⟨ds, ρ', F', fp', h1, h2, h3, m.trans h4⟩
theorem VP.d {K : PySem.W.Frag} {σ : L2.St} {A : Addr → Prop} {F H : Hp} {k : D → Rho → Prop} {v : V} {H' : Hp} (h : VP K σ A F H (fun o ρ => k o.frz ρ) v H') : DP K σ A F H k v H' := by
  obtain ⟨o, ρ', F', fp', S, h1, h2, h3, h4, h5⟩ := h
  obtain ⟨F2, s2, a2, e2, k2⟩ := h2.freeze h3 h4
  refine ⟨_, ρ', F2, fp', h1, s2, a2, ⟨h5.ef.trans e2, fun q u hq hn => ?_, fun q hq => h5.new q (.inl hq)⟩⟩
  obtain ⟨z1, z2⟩ := h5.keep q u hq hn
  refine ⟨z1, ?_⟩
  rw [← z2]
  refine k2 q fun hm => ?_
  rcases h5.new q (.inr hm) with z | z
  · exact hn z
  · rw [hq] at z; cases z
theorem VP.mono {K : PySem.W.Frag} {σ : L2.St} {A : Addr → Prop} {F H : Hp} {k k' : O → Rho → Prop} {v : V} {H' : Hp} (h : VP K σ A F H k v H') (hk : ∀ o ρ, k o ρ → k' o ρ) : VP K σ A F H k' v H' := by
  obtain ⟨o, ρ', F', fp', S, h1, h2⟩ := h
  exact ⟨o, ρ', F', fp', S, hk _ _ h1, h2⟩

def EV (C : Ctx) (e : Expr) (ρ : Rho) (k : O → Rho → Prop) (Ξ : Exc → Rho → Prop) : Prop :=
  ∀ X, XIs C X → ∀ W, Takes X W → ∀ σ F H fp, SR C.G.K F H σ ρ fp → XP C.G W σ (own fp) F H Ξ → wE X e σ H (VP C.G.K σ (own fp) F H k)
def ET (C : Ctx) (e : Expr) (ρ : Rho) (k : Bool → Rho → Prop) (Ξ : Exc → Rho → Prop) : Prop :=
  ∀ X, XIs C X → ∀ W, Takes X W → ∀ σ F H fp, SR C.G.K F H σ ρ fp → XP C.G W σ (own fp) F H Ξ → wT X e σ H (BP C.G.K σ (own fp) F H k)
def EVs (C : Ctx) (es : List Expr) (ρ : Rho) (k : List D → Rho → Prop) (Ξ : Exc → Rho → Prop) : Prop :=
  ∀ X, XIs C X → ∀ W, Takes X W → ∀ σ F H fp, SR C.G.K F H σ ρ fp → XP C.G W σ (own fp) F H Ξ → wA X es σ H (LP C.G.K σ (own fp) F H k)

theorem wT.mono {X : Cx} {e : Expr} {σ H} {Q Q' : Bool → Hp → Prop} (h : wT X e σ H Q) (k : ∀ v H', Q v H' → Q' v H') : wT X e σ H Q' := fun pins s I =>
  thn (h pins s I) fun _ _ ⟨H', I', q⟩ => ⟨H', I', k _ _ q⟩
theorem wA.mono {X : Cx} {es : List Expr} {σ H} {Q Q' : List V → Hp → Prop} (h : wA X es σ H Q) (k : ∀ v H', Q v H' → Q' v H') : wA X es σ H Q' := fun pos pins s I =>
  thn (h pos pins s I) fun _ _ ⟨vs, H', I', r, q⟩ => ⟨vs, H', I', r, k _ _ q⟩
section
variable {C : Ctx} {e : Expr} {ρ : Rho} {Ξ : Exc → Rho → Prop} {X : Cx} {W : WX} {σ : L2.St} {F H : Hp} {fp : Nat → List Addr}
theorem EV.d {k : D → Rho → Prop} (h : EV C e ρ (fun o ρ => k o.frz ρ) Ξ) (hx : XIs C X) (tk : Takes X W) (s : SR C.G.K F H σ ρ fp) (x : XP C.G W σ (own fp) F H Ξ) : wE X e σ H (DP C.G.K σ (own fp) F H k) :=
  (h X hx W tk σ F H fp s x).mono fun _ _ q => q.d
theorem EV.mono {k k' : O → Rho → Prop} (h : EV C e ρ k Ξ) (hk : ∀ o ρ, k o ρ → k' o ρ) : EV C e ρ k' Ξ := fun X hx W tk σ F H fp s x => (h X hx W tk σ F H fp s x).mono fun _ _ q => q.mono hk
end

/-! ### results -/
theorem Rep.at_fz {K : PySem.W.Frag} {F H : Hp} {v : V} {d : D} {S : List Addr} (r : Rep K F H v (.fz d) S) : At K F v d := by
  generalize ho : O.fz d = o at r
  cases r with
  | fz a => cases ho; exact a
  | lst _ _ _ _ => cases ho
  | dic _ _ _ _ _ => cases ho
section
variable {K : PySem.W.Frag} {σ : L2.St} {F H : Hp} {ρ : Rho} {fp : Nat → List Addr} {k : O → Rho → Prop} {v : V} {d : D} {p : Addr} {vs : List V} {ds : List D}
theorem fin_d (s : SR K F H σ ρ fp) (a : At K F v d) (q : k (.fz d) ρ) : VP K σ (own fp) F H k v H :=
  ⟨_, ρ, F, fp, [], q, s, .fz a, fun _ z => (by cases z), Mv.refl.less fun q hq => hq.elim id fun z => (by cases z)⟩
theorem own_ne (s : SR K F H σ ρ fp) (hp : H p = none) {q : Addr} (h : own fp q) : q ≠ p := fun e => by
  obtain ⟨_, u, z⟩ := s.owned h
  rw [e, hp] at z
  cases z
theorem SR.newF (s : SR K F H σ ρ fp) (hp : H p = none) (o : HO) : SR K (upd F p o) (upd H p o) σ ρ fp := by
  have fpn : F p = none := s.ex.free hp
  refine s.mono (Ex.new fpn) (fun a u h => ?_) (fun q hq => ?_) (fun q hq => upd_ne (own_ne s hp hq))
  · by_cases e : a = p
    · subst e
      rw [upd_same] at h ⊢
      exact h
    · rw [upd_ne e] at h ⊢
      exact s.ex a u h
  · rw [upd_ne (own_ne s hp hq)]
    exact (s.owned hq).1
theorem SR.newO (s : SR K F H σ ρ fp) (hp : H p = none) (o : HO) : SR K F (upd H p o) σ ρ fp := by
  have fpn : F p = none := s.ex.free hp
  refine s.mono (Ex.refl F) (fun a u h => ?_) (fun q hq => (s.owned hq).1) (fun q hq => upd_ne (own_ne s hp hq))
  by_cases e : a = p
  · subst e
    rw [fpn] at h
    cases h
  · rw [upd_ne e]
    exact s.ex a u h
theorem Mv.newF {A : Addr → Prop} (hp : H p = none) (fpn : F p = none) (o : HO) : Mv A F H A (upd F p o) (upd H p o) :=
  ⟨Ex.new fpn, fun q u h _ => ⟨by rw [upd_ne (ne_of_none h hp)]; exact h, upd_ne (ne_of_none h hp)⟩, fun _ h => .inl h⟩
theorem Mv.newO {A : Addr → Prop} (hp : H p = none) (o : HO) : Mv A F H (fun q => A q ∨ q = p) F (upd H p o) :=
  ⟨Ex.refl F, fun q u h _ => ⟨by rw [upd_ne (ne_of_none h hp)]; exact h, rfl⟩, fun q h => h.imp id fun e => by rw [e]; exact hp⟩
/-- a new tuple | a new list of frozen things -/
theorem fin_tup (s : SR K F H σ ρ fp) (a : AtL K F vs ds) (hp : H p = none) (q : k (.fz (.tup ds)) ρ) : VP K σ (own fp) F H k (.ref p) (upd H p (.tup vs)) := by
  have fpn : F p = none := s.ex.free hp
  exact VP.along (Mv.newF hp fpn (.tup vs)) (fin_d (s.newF hp _) (.tup (.inl (.inl upd_same)) (a.mono (Ex.new fpn))) q)
theorem fin_lst (s : SR K F H σ ρ fp) (a : AtL K F vs ds) (hp : H p = none) (q : k (.lst (ds.map .fz)) ρ) : VP K σ (own fp) F H k (.ref p) (upd H p (.lst vs)) := by
  have fpn : F p = none := s.ex.free hp
  refine ⟨_, ρ, F, fp, [p], q, s.newO hp _, .lst upd_same fpn (by simp) (Reps.of_at a), fun r hr => ?_, (Mv.newO hp _).less fun r hr => hr.imp id fun z => by simpa using z⟩
  have e : r = p := by simpa using hr
  subst e
  exact fun z => own_ne s hp z rfl
end
inductive RV where
  | d (d : D) | l (ds : List D)
def RV.o : RV → O
  | .d x => .fz x
  | .l ds => .lst (ds.map .fz)

/-! ### names, constants -/
section
variable {C : Ctx} {ρ : Rho} {k : O → Rho → Prop} {Ξ : Exc → Rho → Prop}
theorem XIs.vis {X : Cx} (hx : XIs C X) {x : Str} (hv : Vis C.sc x) : Vis X.env.scope x := by rw [hx.sc]; exact hv
theorem XIs.gl {X : Cx} (hx : XIs C X) {x : Str} (hv : C.sc.names.lookup x = some .globalImplicit) : Gl X x := by
  show X.env.scope.names.lookup x = _
  rw [hx.sc]; exact hv
/-- a slot that is frozen | one that holds alone: frozen now | moved out -/
theorem ev_var {i : Nat} {x : Str} {pos : Pos} {d : D} (hr : ρ[i]? = some (some (.fz d))) (q : k (.fz d) ρ) (hN : C.N[i]? = some x := by rfl) (hv : Vis C.sc x := by first | exact .inl rfl | exact .inr (.inl rfl) | exact .inr (.inr rfl))
    (hd : (x == ("__debug__" : Str)) = false := by decide) (hcd : (x == ("__classdict__" : Str)) = false := by decide) : EV C (.Name x pos) ρ k Ξ := by
  intro X hx W tk σ F H fp s _
  obtain ⟨v, e, r⟩ := s.slot i _ hr
  refine w_e (pe_var (i := i) (by rw [hx.N]; exact hN) (hx.vis hv) hd hcd) ⟨v, e, ?_⟩
  exact fin_d s r.at_fz q
def wo (fp : Nat → List Addr) (i : Nat) : Nat → List Addr := fun j => if j = i then [] else fp j
theorem own_wo {fp : Nat → List Addr} {i : Nat} {q : Addr} (h : own (wo fp i) q) : own fp q := by
  obtain ⟨j, hj⟩ := h
  unfold wo at hj
  by_cases e : j = i
  · rw [if_pos e] at hj; cases hj
  · rw [if_neg e] at hj; exact ⟨j, hj⟩
theorem set_get {α : Type} {l : List α} {i j : Nat} {a b : α} (h : (l.set i a)[j]? = some b) : (i = j ∧ b = a) ∨ (i ≠ j ∧ l[j]? = some b) := by
  by_cases e : i = j
  · subst e
    by_cases hi : i < l.length
    · rw [List.getElem?_set_self hi] at h
      exact .inl ⟨rfl, (Option.some.inj h).symm⟩
    · rw [List.getElem?_eq_none (by simpa using hi)] at h
      cases h
  · rw [List.getElem?_set_ne e] at h
    exact .inr ⟨e, h⟩
/-- a slot let go -/
theorem SR.drop {K : PySem.W.Frag} {F H : Hp} {σ : L2.St} {fp : Nat → List Addr} (s : SR K F H σ ρ fp) (i : Nat) : SR K F H σ (ρ.set i none) (wo fp i) := by
  refine ⟨by rw [List.length_set]; exact s.len, s.ex, fun j o h => ?_, fun j h => ?_, fun a b hab q hq hq' => ?_⟩
  · rcases set_get h with ⟨_, z⟩ | ⟨hn, z⟩
    · cases z
    · obtain ⟨v, e, r⟩ := s.slot j o z
      refine ⟨v, e, ?_⟩
      unfold wo
      rw [if_neg (Ne.symm hn)]
      exact r
  · unfold wo
    by_cases e : j = i
    · rw [if_pos e]
    · rw [if_neg e]
      refine s.nil j fun o z => h o ?_
      rw [List.getElem?_set_ne (Ne.symm e)]
      exact z
  · unfold wo at hq hq'
    by_cases e : a = i
    · rw [if_pos e] at hq; cases hq
    · rw [if_neg e] at hq
      by_cases e' : b = i
      · rw [if_pos e'] at hq'; cases hq'
      · rw [if_neg e'] at hq'
        exact s.dis a b hab q hq hq'
theorem not_wo {K : PySem.W.Frag} {F H : Hp} {σ : L2.St} {fp : Nat → List Addr} (s : SR K F H σ ρ fp) {i : Nat} {q : Addr} (h : q ∈ fp i) : ¬ own (wo fp i) q := fun z => by
  obtain ⟨j, hj⟩ := z
  unfold wo at hj
  by_cases e : j = i
  · rw [if_pos e] at hj; cases hj
  · rw [if_neg e] at hj
    exact s.dis j i e q hj h
/-- a slot is given a value -/
def wi (fp : Nat → List Addr) (i : Nat) (S : List Addr) : Nat → List Addr := fun j => if j = i then S else fp j
theorem own_wi {fp : Nat → List Addr} {i : Nat} {S : List Addr} {q : Addr} (h : own (wi fp i S) q) : own fp q ∨ q ∈ S := by
  obtain ⟨j, hj⟩ := h
  unfold wi at hj
  by_cases e : j = i
  · rw [if_pos e] at hj; exact .inr hj
  · rw [if_neg e] at hj; exact .inl ⟨j, hj⟩
theorem SR.put {K : PySem.W.Frag} {F H : Hp} {σ σ' : L2.St} {fp : Nat → List Addr} {v : V} {o : O} {S : List Addr} {i : Nat} (s : SR K F H σ ρ fp) (r : Rep K F H v o S) (d : ∀ q ∈ S, ¬ own fp q) (hi : i < ρ.length)
    (hσ : σ'.length = σ.length) (he : σ'[i]? = some (some v)) (hn : ∀ j, j ≠ i → σ'[j]? = σ[j]?) : SR K F H σ' (ρ.set i (some o)) (wi fp i S) := by
  refine ⟨by rw [List.length_set, hσ]; exact s.len, s.ex, fun j o' h => ?_, fun j h => ?_, fun a b hab q hq hq' => ?_⟩
  · rcases set_get h with ⟨e, z⟩ | ⟨e, z⟩
    · subst e
      cases z
      refine ⟨v, he, ?_⟩
      unfold wi
      rw [if_pos rfl]
      exact r
    · obtain ⟨v', e', r'⟩ := s.slot j o' z
      refine ⟨v', by rw [hn j (Ne.symm e)]; exact e', ?_⟩
      unfold wi
      rw [if_neg (Ne.symm e)]
      exact r'
  · unfold wi
    by_cases e : j = i
    · subst e
      exact absurd (by rw [List.getElem?_set_self hi]) (h o)
    · rw [if_neg e]
      refine s.nil j fun o' z => h o' ?_
      rw [List.getElem?_set_ne (Ne.symm e)]
      exact z
  · unfold wi at hq hq'
    by_cases e : a = i
    · rw [if_pos e] at hq
      by_cases e' : b = i
      · exact hab (e.trans e'.symm)
      · rw [if_neg e'] at hq'
        exact d q hq ⟨b, hq'⟩
    · rw [if_neg e] at hq
      by_cases e' : b = i
      · rw [if_pos e'] at hq'
        exact d q hq' ⟨a, hq⟩
      · rw [if_neg e'] at hq'
        exact s.dis a b hab q hq hq'
theorem ev_mov {i : Nat} {x : Str} {pos : Pos} {o : O} (hr : ρ[i]? = some (some o)) (q : k o (ρ.set i none)) (hN : C.N[i]? = some x := by rfl) (hv : Vis C.sc x := by first | exact .inl rfl | exact .inr (.inl rfl) | exact .inr (.inr rfl))
    (hd : (x == ("__debug__" : Str)) = false := by decide) (hcd : (x == ("__classdict__" : Str)) = false := by decide) : EV C (.Name x pos) ρ k Ξ := by
  intro X hx W tk σ F H fp s _
  obtain ⟨v, e, r⟩ := s.slot i _ hr
  refine w_e (pe_var (i := i) (by rw [hx.N]; exact hN) (hx.vis hv) hd hcd) ⟨v, e, ?_⟩
  exact ⟨o, _, F, wo fp i, fp i, q, s.drop i, r, fun q hq => not_wo s hq, Mv.refl.less fun q hq => hq.elim own_wo fun z => ⟨i, z⟩⟩
theorem ev_frz {i : Nat} {x : Str} {pos : Pos} {o : O} (hr : ρ[i]? = some (some o)) (q : k (.fz o.frz) (ρ.set i (some (.fz o.frz)))) (hN : C.N[i]? = some x := by rfl) (hv : Vis C.sc x := by first | exact .inl rfl | exact .inr (.inl rfl) | exact .inr (.inr rfl))
    (hd : (x == ("__debug__" : Str)) = false := by decide) (hcd : (x == ("__classdict__" : Str)) = false := by decide) : EV C (.Name x pos) ρ k Ξ := by
  intro X hx W tk σ F H fp s _
  obtain ⟨v, e, r⟩ := s.slot i _ hr
  refine w_e (pe_var (i := i) (by rw [hx.N]; exact hN) (hx.vis hv) hd hcd) ⟨v, e, ?_⟩
  obtain ⟨F2, s2, a2, e2, k2⟩ := (s.drop i).freeze r fun q hq => not_wo s hq
  have hi : i < ρ.length := (List.getElem?_eq_some_iff.mp hr).1
  have s3 := s2.put (i := i) (σ' := σ) (.fz a2) (fun _ z => by cases z) (by rw [List.length_set]; exact hi) rfl e fun _ _ => rfl
  rw [List.set_set] at s3
  refine ⟨_, _, F2, _, [], q, s3, .fz a2, fun _ z => (by cases z), ⟨e2, fun p u h hn => ⟨h, k2 p fun z => hn ⟨i, z⟩⟩, fun p hp => ?_⟩⟩
  rcases hp with hp | hp
  · rcases own_wi hp with z | z
    · exact .inl (own_wo z)
    · cases z
  · cases hp
theorem ev_int {i j pos} (q : k (.fz (.int i)) ρ) : EV C (.Constant (.int i) j pos) ρ k Ξ := fun _ _ _ _ _ _ _ _ s _ => w_e pe_int (fin_d s (.int i) q)
theorem ev_bl {b j pos} (q : k (.fz (.bl b)) ρ) : EV C (.Constant (.bool b) j pos) ρ k Ξ := fun _ _ _ _ _ _ _ _ s _ => w_e pe_bl (fin_d s (.bl b) q)
theorem ev_non {j pos} (q : k (.fz .non) ρ) : EV C (.Constant .none j pos) ρ k Ξ := fun _ _ _ _ _ _ _ _ s _ => w_e pe_non (fin_d s .non q)
theorem ev_str {x j pos} (q : k (.fz (.str x)) ρ) : EV C (.Constant (.str x) j pos) ρ k Ξ := fun _ _ _ _ _ _ _ _ s _ => w_e pe_str (fin_d s (.str x) q)
/-- a constant of the module, frozen data of the written part: an int, a text, a tuple -/
structure GConst (G : Gx) (x : Str) (d : D) : Prop where
  ex : ∃ u v, G.mg x = some u ∧ RelV v u ∧ ∀ F, At G.K F v d
theorem ev_glob {x : Str} {pos : Pos} {d : D} (g : GConst C.G x d) (q : k (.fz d) ρ) (hg : C.sc.names.lookup x = some .globalImplicit := by rfl) (hd : (x == ("__debug__" : Str)) = false := by decide) : EV C (.Name x pos) ρ k Ξ := by
  intro X hx W tk σ F H fp s _
  obtain ⟨u, v, e, r, a⟩ := g.ex
  exact w_e (pe_glob (hx.gl hg) (by rw [hx.mg]; exact e) r hd) (fin_d s (a F) q)
end

/-! ### argument lists, displays -/
section
variable {C : Ctx} {ρ : Rho} {Ξ : Exc → Rho → Prop} {e : Expr} {es : List Expr}
theorem evs_nil {k : List D → Rho → Prop} (q : k [] ρ) : EVs C [] ρ k Ξ := fun _ _ _ _ _ F _ fp s _ => w_a pa_nil ⟨[], ρ, F, fp, q, s, .nil, Mv.refl⟩
theorem evs_cons {k : List D → Rho → Prop} (h : EV C e ρ (fun x ρ1 => EVs C es ρ1 (fun ds ρ2 => k (x.frz :: ds) ρ2) Ξ) Ξ) (hs : ∀ env, starEach (e :: es) env = (false, eval e env) :: starEach es env := by intro _; rfl) : EVs C (e :: es) ρ k Ξ := by
  intro X hx W tk σ F H fp s x
  refine w_a (pa_cons pe_w pa_w (hs _)) ((EV.d (k := fun d ρ1 => EVs C es ρ1 (fun ds ρ2 => k (d :: ds) ρ2) Ξ) h hx tk s x).mono fun v H1 ⟨d, ρ1, F1, fp1, h1, s1, a1, m1⟩ => ?_)
  refine (h1 X hx W tk σ F1 H1 fp1 s1 (x.along m1)).mono fun vs H2 ⟨ds, ρ2, F2, fp2, h2, s2, a2, m2⟩ => ?_
  exact ⟨d :: ds, ρ2, F2, fp2, h2, s2, .cons (a1.mono m2.ef) a2, m1.trans m2⟩
theorem ev_tup {k : O → Rho → Prop} {x1 pos} (h : EVs C es ρ (fun ds ρ' => ds.length ≤ sizeLine ∧ k (.fz (.tup ds)) ρ') Ξ) : EV C (.Tuple es x1 pos) ρ k Ξ := by
  intro X hx W tk σ F H fp s x
  refine w_e (pe_tup pa_w) ((h X hx W tk σ F H fp s x).mono fun vs H1 ⟨ds, ρ1, F1, fp1, ⟨hz, h1⟩, s1, a1, m1⟩ => ?_)
  exact ⟨by rw [a1.length]; exact hz, fun p hp => VP.along m1 (fin_tup s1 a1 hp h1)⟩
theorem ev_lst {k : O → Rho → Prop} {pos} (h : EVs C es ρ (fun ds ρ' => ds.length ≤ sizeLine ∧ k (.lst (ds.map .fz)) ρ') Ξ) : EV C (.List es pos) ρ k Ξ := by
  intro X hx W tk σ F H fp s x
  refine w_e (pe_lst pa_w) ((h X hx W tk σ F H fp s x).mono fun vs H1 ⟨ds, ρ1, F1, fp1, ⟨hz, h1⟩, s1, a1, m1⟩ => ?_)
  exact ⟨by rw [a1.length]; exact hz, fun p hp => VP.along m1 (fin_lst s1 a1 hp h1)⟩
theorem ev_dic {k : O → Rho → Prop} {pos} (h : k (.dic [] []) ρ) : EV C (.Dict [] [] pos) ρ k Ξ := by
  intro X hx W tk σ F H fp s x
  refine w_e pe_dnewK fun p hp => ?_
  have fpn : F p = none := s.ex.free hp
  refine ⟨_, ρ, F, fp, [p], h, s.newO hp _, .dic upd_same fpn (by simp) rfl .nil, fun r hr => ?_, (Mv.newO hp _).less fun r hr => hr.imp id fun z => by simpa using z⟩
  have e : r = p := by simpa using hr
  subst e
  exact fun z => own_ne s hp z rfl
end

/-! ### operators by values: universal readings -/
def uOp (X : Cx) (f : Value → Value → Sem Value) : R2 := fun x y H Q => ∃ r, OpR X f r ∧ r x y H Q
theorem op_u {X : Cx} {f : Value → Value → Sem Value} : OpR X f (uOp X f) := fun pins s σ H x y v u Q I rx ry ⟨r, hr, h⟩ => hr pins s σ H x y v u Q I rx ry h
def uUn (X : Cx) (f : Value → Sem Value) : V → Hp → VK → Prop := fun x H Q => ∃ r, UnR X f r ∧ r x H Q
theorem un_u {X : Cx} {f : Value → Sem Value} : UnR X f (uUn X f) := fun pins s σ H x v Q I rx ⟨r, hr, h⟩ => hr pins s σ H x v Q I rx h
def uIx (X : Cx) : R2 := fun x y H Q => ∃ r, IxR X r ∧ r x y H Q
theorem ix_u {X : Cx} : IxR X (uIx X) := fun a b pins s σ H x y v u Q I rx ry ⟨r, hr, h⟩ hs => hr a b pins s σ H x y v u Q I rx ry h hs
def uSl (X : Cx) : V → Option Int → Option Int → Hp → VK → Prop := fun x lo hi H Q => ∃ r, SlR X r ∧ r x lo hi H Q
theorem sl_u {X : Cx} : SlR X (uSl X) := fun pins s σ H x v vl vu lo hi sl Q I rx hs pl pu ⟨r, hr, h⟩ => hr pins s σ H x v vl vu lo hi sl Q I rx hs pl pu h
def uCall (X : Cx) (f : Value) : List V → Hp → VK → Prop := fun xs H Q => ∃ r, CallR X f r ∧ r xs H Q
theorem call_u {X : Cx} {f : Value} : CallR X f (uCall X f) := fun pins s σ H xs us Q I rx ⟨r, hr, h⟩ => hr pins s σ H xs us Q I rx h
def uMt (X : Cx) (id : String) : V → List V → Hp → VK → Prop := fun x xs H Q => ∃ r, MtR X id r ∧ r x xs H Q
theorem mt_u {X : Cx} {id : String} : MtR X id (uMt X id) := fun pins s σ H x xs v us Q I rx r0 ⟨r, hr, h⟩ => hr pins s σ H x xs v us Q I rx r0 h
end Fr

set_option Elab.async false
set_option linter.all false
set_option maxRecDepth 100000
set_option maxHeartbeats 2000000
/-! Fr4: operators, comparisons, tests, subscripts, slices. -/
namespace Fr
open PySem PySem.Spec PyProof.Rows L2

/-! ### as the library's data -/
mutual
def D.py : D → PyData
  | .non => .none
  | .bl b => .bool b
  | .int i => .int i
  | .str s => .str s
  | .tup xs => .tuple (pyL xs)
  | .lst xs => .list (pyL xs)
  | .dic _ _ => .dict []
  | .scr ns => .list (ns.map .int)
  | .exn _ => .dict []
def pyL : List D → List PyData
  | [] => []
  | x :: xs => x.py :: pyL xs
end
theorem dpAll_ints {K : PySem.W.Frag} {H : Hp} : ∀ ns : List Int, DpAll K H (ns.map V.int) (ns.map PyData.int)
  | [] => .nil
  | n :: ns => .cons (.int n) (dpAll_ints ns)
section
variable {K : PySem.W.Frag} {F H : Hp}
mutual
theorem At.dp (e : Ex F H) : ∀ {v : V} {d : D}, At K F v d → d.py.canLay0 = true → Dp K H v d.py
  | _, _, .non, _ => by rw [D.py]; exact .non
  | _, _, .bl b, _ => by rw [D.py]; exact .bl b
  | _, _, .int i, _ => by rw [D.py]; exact .int i
  | _, _, .str s, _ => by rw [D.py]; exact .str s
  | _, _, .tup h t, c => by
    rw [D.py] at c ⊢
    exact .tup (e.t h) (AtL.dp e t (by simpa [PyData.canLay0] using c))
  | _, _, .lst h t, c => by
    rw [D.py] at c ⊢
    exact .lst (.inl (.inl (e _ _ h))) (AtL.dp e t (by simpa [PyData.canLay0] using c))
  | _, _, .dic _ _ _, c => by
    rw [D.py] at c
    exact nomatch c
  | _, _, .scr h, _ => by rw [D.py]; exact .lst (e.l h) (dpAll_ints _)
  | _, _, .exn, c => by
    rw [D.py] at c
    exact nomatch c
theorem AtL.dp (e : Ex F H) : ∀ {vs : List V} {ds : List D}, AtL K F vs ds → PyData.canLayAll0 (pyL ds) = true → DpAll K H vs (pyL ds)
  | _, _, .nil, _ => by rw [pyL]; exact .nil
  | _, _, .cons h t, c => by
    rw [pyL] at c ⊢
    have c' := c
    simp only [PyData.canLayAll0, Bool.and_eq_true] at c'
    exact .cons (At.dp e h c'.1) (AtL.dp e t c'.2)
end
end
def D.eq (x y : D) : Bool := PyData.eqv x.py y.py
def D.ok (x : D) : Bool := SeqAt.shaped x.py

/-! ### types -/
def D.ty : D → String
  | .non => "NoneType"
  | .bl _ => "bool"
  | .int _ => "int"
  | .str _ => "str"
  | .tup _ => "tuple"
  | .lst _ => "list"
  | .dic _ _ => "dict"
  | .scr _ => "list"
  | .exn _ => "?"
def D.ex : D → Bool
  | .exn _ => true
  | _ => false
theorem At.ty {K : PySem.W.Frag} {F H : Hp} {v : V} {d : D} (e : Ex F H) (a : At K F v d) (hx : d.ex = false) : TyX K H v (.type d.ty) := by
  cases a with
  | non => exact .base .non
  | bl b => exact .base (.bl b)
  | int i => exact .base (.int i)
  | str s => exact .base (.str s)
  | tup h _ =>
    rcases e.t h with (h | ⟨o, h⟩) | ⟨o, its, n, h, c, _⟩
    · exact .base (.tup h)
    · exact .fTuple h
    · exact .kTuple h c
  | lst h _ => exact .base (.lst (e _ _ h))
  | dic h _ _ => exact .base (.dK (e _ _ h))
  | scr h =>
    rcases e.l h with (h | ⟨o, h⟩) | ⟨o, its, n, h, c, _⟩
    · exact .base (.lst h)
    · exact .base (.frz h)
    · exact .kList h c
  | exn => cases hx
def isiS (t T : String) : Bool := t == T || (t == "bool" && T == "int")
def isiD (d : D) (T : String) : Bool := isiS d.ty T
def tys : List String := ["int", "bool", "str", "tuple", "list", "dict"]
theorem kit_all : ∀ t ∈ "NoneType" :: tys, ∀ T ∈ tys, kitB t T = some (isiS t T) := by decide +kernel
theorem D.ty_mem (d : D) (hx : d.ex = false) : d.ty ∈ "NoneType" :: tys := by
  cases d <;> first | (cases hx; done) | (unfold D.ty tys; simp)
theorem kit_isi {K : PySem.W.Frag} (d : D) {T : String} (hx : d.ex = false) (h : T ∈ tys) : PySem.W.kitOne K (.type d.ty) (.type T) = some (isiD d T) := kit_ty (kit_all d.ty (d.ty_mem hx) T h)

/-! ### flat data -/
def D.flat : D → Bool
  | .non => true | .bl _ => true | .int _ => true | .str _ => true
  | _ => false
def eqF : D → D → Bool
  | .non, .non => true
  | .bl a, .bl b => a == b
  | .bl a, .int b => (if a then 1 else 0) == b
  | .int a, .bl b => a == (if b then 1 else 0)
  | .int a, .int b => a == b
  | .str a, .str b => a == b
  | _, _ => false
section
variable {K : PySem.W.Frag} {F : Hp}
theorem At.flat {v : V} {d : D} (a : At K F v d) : d.flat = true → flatV v = true := by
  cases a <;> first | (intro _; rfl) | (intro h; cases h)
theorem At.eqF {v w : V} {d e : D} (a : At K F v d) (b : At K F w e) : eqV v w = eqF d e := by
  cases a <;> cases b <;> rfl
theorem AtL.flat : ∀ {vs : List V} {ds : List D}, AtL K F vs ds → ds.all D.flat = true → vs.all flatV = true
  | _, _, .nil, _ => rfl
  | _, _, .cons h t, c => by
    simp only [List.all_cons, Bool.and_eq_true] at c ⊢
    exact ⟨h.flat c.1, AtL.flat t c.2⟩
theorem AtL.inF {w : V} {e : D} (b : At K F w e) : ∀ {vs : List V} {ds : List D}, AtL K F vs ds → inV w vs = ds.any fun d => Fr.eqF d e
  | _, _, .nil => rfl
  | _, _, .cons h t => by
    have ih := AtL.inF b t
    unfold inV at ih ⊢
    rw [List.any_cons, List.any_cons, h.eqF b, ih]
end

/-! ### binary operators -/
def repZ (a : Str) (n : Nat) : Str := ⟨(List.replicate n a.cps).foldl (· ++ ·) #[]⟩
theorem foldl_app (n : Nat) (c : Array Nat) : ∀ acc : Array Nat, ((List.replicate n c).foldl (· ++ ·) acc).size = acc.size + n * c.size := by
  induction n with
  | zero => intro acc; simp
  | succ n ih =>
    intro acc
    rw [List.replicate_succ, List.foldl_cons, ih, Array.size_append, Nat.succ_mul]
    omega
theorem repZ_length (a : Str) (n : Nat) : (repZ a n).length = n * a.length := by
  show ((List.replicate n a.cps).foldl (· ++ ·) #[]).size = _
  rw [foldl_app]
  simp [Str.length]
theorem op_repS {X : Cx} : OpR X (binaryOp .Mult) (fun x y H Q => ∃ (a : Str) (k : Int), x = .str a ∧ y = .int k ∧ 2 ≤ k ∧ k < 2 ^ 62 ∧ 0 < a.length ∧ a.length * k.toNat ≤ 16000000 ∧ Q (.str (repZ a k.toNat)) H) := by
  intro pins s σ H x y v u Q I rx ry h
  obtain ⟨a, k, rfl, rfl, h1, h2, h3, h4, q⟩ := h
  obtain ⟨t, rfl⟩ := rx
  obtain ⟨t', rfl⟩ := ry
  have e1 : (k == 1) = false := beq_eq_false_iff_ne.mpr (by omega)
  have e2 : (a.length == 0) = false := beq_eq_false_iff_ne.mpr (by omega)
  have hp : (a.length : Int) * k ≤ 16000000 := by
    have : ((a.length * k.toNat : Nat) : Int) ≤ ((16000000 : Nat) : Int) := Int.ofNat_le.mpr h4
    rw [Int.natCast_mul, Int.toNat_of_nonneg (by omega)] at this
    exact this
  refine PySem.P.mul_str (by
    rw [decide_eq_false (show ¬ k < -(2 ^ 63 : Int) by omega), decide_eq_false (show ¬ k ≥ 2 ^ 63 by omega)]; rfl) (fun _ _ => ?_) (fun _ _ => ?_) ?_
  · have : (a.length : Int) ≤ (2 ^ 63 - 1) / k := by
      rw [Int.le_ediv_iff_mul_le (by omega)]
      omega
    omega
  · show decide (a.length * k.toNat > sizeLine) = false
    have : (16000000 : Nat) ≤ sizeLine := by decide
    exact decide_eq_false (by omega)

  · rw [if_neg (by omega), e1, e2]
    refine ⟨?_, ?_⟩
    · show (repZ a k.toNat).length ≤ sizeLine
      rw [repZ_length, Nat.mul_comm]
      have : (16000000 : Nat) ≤ sizeLine := by decide
      omega
    · exact ⟨.str (repZ a k.toNat), H, I.tok _, ⟨_, rfl⟩, q⟩
inductive Bop : Operator → D → D → RV → Prop where
  | addI {i j : Int} : Bop .Add (.int i) (.int j) (.d (.int (i + j)))
  | subI {i j : Int} : Bop .Sub (.int i) (.int j) (.d (.int (i - j)))
  | mulI {i j : Int} : CMul i j → Bop .Mult (.int i) (.int j) (.d (.int (i * j)))
  | fdivI {i j : Int} : CDiv i j → Bop .FloorDiv (.int i) (.int j) (.d (.int (i / j)))
  | modI {i j : Int} : 0 < j → Bop .Mod (.int i) (.int j) (.d (.int (i % j)))
  | powI {i j : Int} : CPow i j → Bop .Pow (.int i) (.int j) (.d (.int (i ^ j.toNat)))
  | addS {a b : Str} : a.length + b.length ≤ sizeLine → Bop .Add (.str a) (.str b) (.d (.str (a ++ b)))
  | addT {xs ys : List D} : xs.length + ys.length ≤ sizeLine → Bop .Add (.tup xs) (.tup ys) (.d (.tup (xs ++ ys)))
  | addL {xs ys : List D} : xs.length + ys.length ≤ sizeLine → Bop .Add (.lst xs) (.lst ys) (.l (xs ++ ys))
  | repL {xs : List D} {k : Int} : -(2 ^ 63) ≤ k → k < 2 ^ 63 → xs.length * k.toNat ≤ sizeLine → Bop .Mult (.lst xs) (.int k) (.l (List.replicate k.toNat xs).flatten)
  | repS {a : Str} {k : Int} : 2 ≤ k → k < 2 ^ 62 → 0 < a.length → a.length * k.toNat ≤ 16000000 → Bop .Mult (.str a) (.int k) (.d (.str (repZ a k.toNat)))
section
variable {C : Ctx} {X : Cx} {σ : L2.St} {F H : Hp} {ρ : Rho} {fp : Nat → List Addr} {k : O → Rho → Prop} {x y : V} {dx dy : D} {A0 : Addr → Prop} {F0 H0 : Hp}
theorem fdm {K : PySem.W.Frag} {v : V} {d : D} (m : Mv A0 F0 H0 (own fp) F H) (s : SR K F H σ ρ fp) (a : At K F v d) (q : k (.fz d) ρ) : VP K σ A0 F0 H0 k v H := VP.along m (fin_d s a q)
theorem ftm {K : PySem.W.Frag} {p : Addr} {vs : List V} {ds : List D} (m : Mv A0 F0 H0 (own fp) F H) (s : SR K F H σ ρ fp) (a : AtL K F vs ds) (hp : H p = none) (q : k (.fz (.tup ds)) ρ) : VP K σ A0 F0 H0 k (.ref p) (upd H p (.tup vs)) := VP.along m (fin_tup s a hp q)
theorem flm {K : PySem.W.Frag} {p : Addr} {vs : List V} {ds : List D} (m : Mv A0 F0 H0 (own fp) F H) (s : SR K F H σ ρ fp) (a : AtL K F vs ds) (hp : H p = none) (q : k (.lst (ds.map .fz)) ρ) : VP K σ A0 F0 H0 k (.ref p) (upd H p (.lst vs)) := VP.along m (fin_lst s a hp q)
theorem AtL.nil_iff {K : PySem.W.Frag} {vs : List V} {ds : List D} (h : AtL K F vs ds) : vs = [] ↔ ds = [] := by
  cases h <;> simp
theorem AtL.rep {K : PySem.W.Frag} {vs : List V} {ds : List D} (h : AtL K F vs ds) : ∀ n : Nat, AtL K F (List.replicate n vs).flatten (List.replicate n ds).flatten
  | 0 => .nil
  | n + 1 => by
    rw [List.replicate_succ, List.replicate_succ, List.flatten_cons, List.flatten_cons]
    exact h.append (AtL.rep h n)
theorem Bop.sound {op : Operator} {z : RV} (h : Bop op dx dy z) (hx : XIs C X) (m : Mv A0 F0 H0 (own fp) F H) (s : SR C.G.K F H σ ρ fp) (ax : At C.G.K F x dx) (ay : At C.G.K F y dy) (q : k z.o ρ) : uOp X (binaryOp op) x y H (VP C.G.K σ A0 F0 H0 k) := by
  cases h with
  | addI => cases ax; cases ay; exact ⟨_, op_add, _, _, rfl, rfl, fdm m s (.int _) q⟩
  | subI => cases ax; cases ay; exact ⟨_, op_sub, _, _, rfl, rfl, fdm m s (.int _) q⟩
  | mulI c => cases ax; cases ay; exact ⟨_, op_mul, _, _, rfl, rfl, c, fdm m s (.int _) q⟩
  | fdivI c => cases ax; cases ay; exact ⟨_, op_fdiv, _, _, rfl, rfl, c, fdm m s (.int _) q⟩
  | modI c => cases ax; cases ay; exact ⟨_, op_mod, _, _, rfl, rfl, c, fdm m s (.int _) q⟩
  | powI c => cases ax; cases ay; exact ⟨_, op_pow, _, _, rfl, rfl, c, fdm m s (.int _) q⟩
  | addS c => cases ax; cases ay; exact ⟨_, op_add_str, _, _, rfl, rfl, c, fdm m s (.str _) q⟩
  | repS c1 c2 c3 c4 => cases ax; cases ay; exact ⟨_, op_repS, _, _, rfl, rfl, c1, c2, c3, c4, fdm m s (.str _) q⟩
  | addT c =>
    cases ax with
    | tup hx1 tx =>
      cases ay with
      | tup hy1 ty =>
        refine ⟨_, op_catA, _, _, _, _, rfl, rfl, (by rw [hx.K]; exact s.ex.t hx1), (by rw [hx.K]; exact s.ex.t hy1), by rw [tx.length, ty.length]; exact c, fun e => ?_, fun e1 e2 => ?_, fun e1 e2 p hp => ?_⟩
        · subst e
          cases tx
          exact fdm m s (.tup hy1 ty) q
        · subst e2
          cases ty
          refine fdm m s (.tup hx1 tx) ?_
          have q' : k (.fz (.tup (_ ++ []))) ρ := q
          rw [List.append_nil] at q'
          exact q'
        · exact ftm m s (tx.append ty) hp q
  | addL c =>
    cases ax with
    | lst hx1 tx =>
      cases ay with
      | lst hy1 ty =>
        refine ⟨_, op_cat, _, _, _, _, rfl, rfl, s.ex _ _ hx1, s.ex _ _ hy1, by rw [tx.length, ty.length]; exact c, fun p hp => ?_⟩
        exact flm m s (tx.append ty) hp q
  | repL c1 c2 c3 =>
    cases ax with
    | lst hx1 tx =>
      cases ay
      refine ⟨_, op_rep, _, _, _, rfl, rfl, s.ex _ _ hx1, c1, c2, by rw [tx.length]; exact c3, fun p hp => ?_⟩
      exact flm m s (tx.rep _) hp q
theorem ev_bin {C : Ctx} {ρ : Rho} {k : O → Rho → Prop} {Ξ : Exc → Rho → Prop} {a b : Expr} {op : Operator} {pos : Pos}
    (h : EV C a ρ (fun x ρ1 => EV C b ρ1 (fun y ρ2 => ∃ z, Bop op x.frz y.frz z ∧ k z.o ρ2) Ξ) Ξ) : EV C (.BinOp a op b pos) ρ k Ξ := by
  intro X hx W tk σ F H fp s x
  refine w_e (pe_op op_u pe_w pe_w) ((EV.d (k := fun d ρ1 => EV C b ρ1 (fun y ρ2 => ∃ z, Bop op d y.frz z ∧ k z.o ρ2) Ξ) h hx tk s x).mono fun v H1 ⟨d, ρ1, F1, fp1, h1, s1, a1, m1⟩ => ?_)
  refine (EV.d (k := fun d2 ρ2 => ∃ z, Bop op d d2 z ∧ k z.o ρ2) h1 hx tk s1 (x.along m1)).mono fun u H2 ⟨d2, ρ2, F2, fp2, ⟨z, hz, q⟩, s2, a2, m2⟩ => ?_
  exact hz.sound hx (m1.trans m2) s2 (a1.mono m2.ef) a2 q

/-! ### comparisons by values -/
theorem op_is_nb {X : Cx} : OpR X (compareOp .Is) (fun x y H Q => ∃ b, x = .non ∧ y = .bl b ∧ Q (.bl false) H) := by
  intro pins s σ H x y v u Q I rx ry h
  obtain ⟨b, rfl, rfl, q⟩ := h
  cases (show v = Value.none from rx)
  cases (show u = Value.bool b from ry)
  exact wpAny_is_other rfl (fun z => by cases z) ⟨.bl false, H, I, rfl, q⟩
inductive Cmp : CmpOp → D → D → Bool → Prop where
  | ltI {i j : Int} : Cmp .Lt (.int i) (.int j) (decide (i < j))
  | leI {i j : Int} : Cmp .LtE (.int i) (.int j) (decide (i ≤ j))
  | gtI {i j : Int} : Cmp .Gt (.int i) (.int j) (decide (j < i))
  | geI {i j : Int} : Cmp .GtE (.int i) (.int j) (decide (j ≤ i))
  | eqI {i j : Int} : Cmp .Eq (.int i) (.int j) (decide (i = j))
  | eqS {a b : Str} : Cmp .Eq (.str a) (.str b) (decide (a = b))
  | eqB {a b : Bool} : Cmp .Eq (.bl a) (.bl b) (decide (a = b))
  | neI {i j : Int} : Cmp .NotEq (.int i) (.int j) (!decide (i = j))
  | neS {a b : Str} : Cmp .NotEq (.str a) (.str b) (!decide (a = b))
  | neB {a b : Bool} : Cmp .NotEq (.bl a) (.bl b) (!decide (a = b))
  | eqD {x y : D} : x.ok = true → y.ok = true → Cmp .Eq x y (x.eq y)
  | neD {x y : D} : x.ok = true → y.ok = true → Cmp .NotEq x y (!x.eq y)
  | inC {c : Nat} {z : Str} : Cmp .In (.str ⟨#[c]⟩) (.str z) (decide (c ∈ z.cps.toList))
  | niC {c : Nat} {z : Str} : Cmp .NotIn (.str ⟨#[c]⟩) (.str z) (!decide (c ∈ z.cps.toList))
  | inL {x : D} {ys : List D} : x.flat = true → ys.all D.flat = true → Cmp .In x (.lst ys) (ys.any fun y => eqF y x)
  | inT {x : D} {ys : List D} : x.flat = true → ys.all D.flat = true → Cmp .In x (.tup ys) (ys.any fun y => eqF y x)
  | niL {x : D} {ys : List D} : x.flat = true → ys.all D.flat = true → Cmp .NotIn x (.lst ys) (!ys.any fun y => eqF y x)
  | niT {x : D} {ys : List D} : x.flat = true → ys.all D.flat = true → Cmp .NotIn x (.tup ys) (!ys.any fun y => eqF y x)
  | isN {x : D} : Cmp .Is x .non (x.ty == "NoneType")
  | notN {x : D} : Cmp .IsNot x .non (!x.ty == "NoneType")
  | isNB {b : Bool} : Cmp .Is .non (.bl b) false
  | isB {a b : Bool} : Cmp .Is (.bl a) (.bl b) (decide (a = b))
  | notB {a b : Bool} : Cmp .IsNot (.bl a) (.bl b) (!decide (a = b))
  | strIn {a b : Str} : Cmp .In (.str a) (.str b) (!(Builtin.Str.occurrences b a 0 b.length 1).isEmpty)
theorem At.non_iff {K : PySem.W.Frag} {F : Hp} {v : V} {d : D} (a : At K F v d) : decide (v = V.non) = (d.ty == "NoneType") := by
  cases a <;> rfl
/-- compareOp is given what is wanted of its answer -/
theorem Cmp.sound {op : CmpOp} {b : Bool} (h : Cmp op dx dy b) (hx : XIs C X) (s : SR C.G.K F H σ ρ fp) (ax : At C.G.K F x dx) (ay : At C.G.K F y dy) {Q : VK} (q : Q (.bl b) H) : uOp X (compareOp op) x y H Q := by
  have hu : X.A.units + 64 < cLine := hx.un
  cases h with
  | ltI => cases ax; cases ay; exact ⟨_, op_lt, _, _, rfl, rfl, q⟩
  | leI => cases ax; cases ay; exact ⟨_, op_le, _, _, rfl, rfl, q⟩
  | gtI => cases ax; cases ay; exact ⟨_, op_gt, _, _, rfl, rfl, q⟩
  | geI => cases ax; cases ay; exact ⟨_, op_ge, _, _, rfl, rfl, q⟩
  | eqI => cases ax; cases ay; refine ⟨_, op_eq, rfl, ?_⟩; simpa using q
  | eqS => cases ax; cases ay; refine ⟨_, op_eq, rfl, ?_⟩; simpa using q
  | eqB => cases ax; cases ay; refine ⟨_, op_eq, rfl, ?_⟩; simpa using q
  | neI => cases ax; cases ay; refine ⟨_, op_ne, rfl, ?_⟩; simpa using q
  | neS => cases ax; cases ay; refine ⟨_, op_ne, rfl, ?_⟩; simpa using q
  | neB => cases ax; cases ay; refine ⟨_, op_ne, rfl, ?_⟩; simpa using q
  | eqD o1 o2 => exact ⟨_, op_eqD hu, _, _, (by rw [hx.K]; exact ax.dp s.ex (SeqAt.canLay_of_shaped o1)), (by rw [hx.K]; exact ay.dp s.ex (SeqAt.canLay_of_shaped o2)), o1, o2, q⟩
  | neD o1 o2 => exact ⟨_, op_neD hu, _, _, (by rw [hx.K]; exact ax.dp s.ex (SeqAt.canLay_of_shaped o1)), (by rw [hx.K]; exact ay.dp s.ex (SeqAt.canLay_of_shaped o2)), o1, o2, q⟩
  | inC => cases ax; cases ay; exact ⟨_, op_in_sign, _, _, rfl, rfl, q⟩
  | niC => cases ax; cases ay; exact ⟨_, op_notIn_sign, _, _, rfl, rfl, q⟩
  | inL f1 f2 =>
    cases ay with
    | lst hy ty => exact ⟨_, op_in_seq, _, _, rfl, .inl (.inl (.inl (s.ex _ _ hy))), ax.flat f1, ty.flat f2, (by rw [AtL.inF ax ty]; exact q)⟩
  | inT f1 f2 =>
    cases ay with
    | tup hy ty => exact ⟨_, op_in_seq, _, _, rfl, .inr (by rw [hx.K]; exact s.ex.t hy), ax.flat f1, ty.flat f2, (by rw [AtL.inF ax ty]; exact q)⟩
  | niL f1 f2 =>
    cases ay with
    | lst hy ty => exact ⟨_, op_notIn_seq, _, _, rfl, .inl (.inl (.inl (s.ex _ _ hy))), ax.flat f1, ty.flat f2, (by rw [AtL.inF ax ty]; exact q)⟩
  | niT f1 f2 =>
    cases ay with
    | tup hy ty => exact ⟨_, op_notIn_seq, _, _, rfl, .inr (by rw [hx.K]; exact s.ex.t hy), ax.flat f1, ty.flat f2, (by rw [AtL.inF ax ty]; exact q)⟩
  | isN => cases ay; exact ⟨_, op_isN, rfl, (by rw [ax.non_iff]; exact q)⟩
  | notN => cases ay; exact ⟨_, op_notN, rfl, (by rw [ax.non_iff]; exact q)⟩
  | isNB => cases ax; cases ay; exact ⟨_, op_is_nb, _, rfl, rfl, q⟩
  | isB => cases ax; cases ay; exact ⟨_, op_is_bl, _, _, rfl, rfl, q⟩
  | notB => cases ax; cases ay; exact ⟨_, op_isnot_bl, _, _, rfl, rfl, q⟩
  | strIn => cases ax; cases ay; exact ⟨_, op_in_str, _, _, rfl, rfl, q⟩
end
section
variable {C : Ctx} {ρ : Rho} {Ξ : Exc → Rho → Prop} {a b c e : Expr} {op op' : CmpOp} {pos : Pos} {rest : List Expr}
theorem ev_cmp {k : O → Rho → Prop} (h : EV C a ρ (fun x ρ1 => EV C b ρ1 (fun y ρ2 => ∃ r, Cmp op x.frz y.frz r ∧ k (.fz (.bl r)) ρ2) Ξ) Ξ) (hm : behindInMarks op b = false := by rfl) : EV C (.Compare a [op] [b] pos) ρ k Ξ := by
  intro X hx W tk σ F H fp s x
  refine w_e (pe_cmpR op_u pe_w pe_w hm) ((EV.d (k := fun d ρ1 => EV C b ρ1 (fun y ρ2 => ∃ r, Cmp op d y.frz r ∧ k (.fz (.bl r)) ρ2) Ξ) h hx tk s x).mono fun v H1 ⟨d, ρ1, F1, fp1, h1, s1, a1, m1⟩ => ?_)
  refine (EV.d (k := fun d2 ρ2 => ∃ r, Cmp op d d2 r ∧ k (.fz (.bl r)) ρ2) h1 hx tk s1 (x.along m1)).mono fun u H2 ⟨d2, ρ2, F2, fp2, ⟨z, hz, q⟩, s2, a2, m2⟩ => ?_
  exact hz.sound hx s2 (a1.mono m2.ef) a2 (fdm (m1.trans m2) s2 (.bl _) q)
theorem et_cmp {k : Bool → Rho → Prop} (h : EV C a ρ (fun x ρ1 => EV C b ρ1 (fun y ρ2 => ∃ r, Cmp op x.frz y.frz r ∧ k r ρ2) Ξ) Ξ) (hm : behindInMarks op b = false := by rfl) : ET C (.Compare a [op] [b] pos) ρ k Ξ := by
  intro X hx W tk σ F H fp s x
  refine w_t (pt_cmpR op_u pe_w pe_w hm) ((EV.d (k := fun d ρ1 => EV C b ρ1 (fun y ρ2 => ∃ r, Cmp op d y.frz r ∧ k r ρ2) Ξ) h hx tk s x).mono fun v H1 ⟨d, ρ1, F1, fp1, h1, s1, a1, m1⟩ => ?_)
  refine (EV.d (k := fun d2 ρ2 => ∃ r, Cmp op d d2 r ∧ k r ρ2) h1 hx tk s1 (x.along m1)).mono fun u H2 ⟨d2, ρ2, F2, fp2, ⟨z, hz, q⟩, s2, a2, m2⟩ => ?_
  exact hz.sound hx s2 (a1.mono m2.ef) a2 ⟨z, rfl, ρ2, F2, fp2, q, s2, m1.trans m2⟩
/-- a op b op' c -/
theorem et_chain {k : Bool → Rho → Prop} (h : EV C a ρ (fun x ρ1 => EV C b ρ1 (fun y ρ2 => ∃ r, Cmp op x.frz y.frz r ∧ (r = true → EV C c ρ2 (fun z ρ3 => ∃ r', Cmp op' y.frz z.frz r' ∧ k r' ρ3) Ξ) ∧ (r = false → k false ρ2)) Ξ) Ξ)
    (hm : lastMarks [op, op'] [b, c] = false := by with_unfolding_all rfl) : ET C (.Compare a [op, op'] [b, c] pos) ρ k Ξ := by
  intro X hx W tk σ F H fp s x
  refine w_t (pt_chain op_u op_u pe_w pe_w pe_w hm) ((EV.d (k := fun d ρ1 => EV C b ρ1 (fun y ρ2 => ∃ r, Cmp op d y.frz r ∧ (r = true → EV C c ρ2 (fun z ρ3 => ∃ r', Cmp op' y.frz z.frz r' ∧ k r' ρ3) Ξ) ∧ (r = false → k false ρ2)) Ξ) h hx tk s x).mono fun v H1 ⟨d, ρ1, F1, fp1, h1, s1, a1, m1⟩ => ?_)
  refine (EV.d (k := fun d2 ρ2 => ∃ r, Cmp op d d2 r ∧ (r = true → EV C c ρ2 (fun z ρ3 => ∃ r', Cmp op' d2 z.frz r' ∧ k r' ρ3) Ξ) ∧ (r = false → k false ρ2)) h1 hx tk s1 (x.along m1)).mono fun u H2 ⟨d2, ρ2, F2, fp2, ⟨z, hz, q1, q2⟩, s2, a2, m2⟩ => ?_
  refine hz.sound hx s2 (a1.mono m2.ef) a2 ⟨z, rfl, ?_⟩
  cases z with
  | false => exact ⟨false, rfl, ρ2, F2, fp2, q2 rfl, s2, m1.trans m2⟩
  | true =>
    rw [if_pos rfl]
    refine (EV.d (k := fun d3 ρ3 => ∃ r', Cmp op' d2 d3 r' ∧ k r' ρ3) (q1 rfl) hx tk s2 (x.along (m1.trans m2))).mono fun w H3 ⟨d3, ρ3, F3, fp3, ⟨r', hr', q⟩, s3, a3, m3⟩ => ?_
    exact hr'.sound hx s3 (a2.mono m3.ef) a3 ⟨r', rfl, ρ3, F3, fp3, q, s3, (m1.trans m2).trans m3⟩
theorem ev_chain {k : O → Rho → Prop} (h : EV C a ρ (fun x ρ1 => EV C b ρ1 (fun y ρ2 => ∃ r, Cmp op x.frz y.frz r ∧ (r = true → EV C c ρ2 (fun z ρ3 => ∃ r', Cmp op' y.frz z.frz r' ∧ k (.fz (.bl r')) ρ3) Ξ) ∧ (r = false → k (.fz (.bl false)) ρ2)) Ξ) Ξ)
    (hm : lastMarks [op, op'] [b, c] = false := by with_unfolding_all rfl) : EV C (.Compare a [op, op'] [b, c] pos) ρ k Ξ := by
  intro X hx W tk σ F H fp s x
  refine w_e (pe_chain op_u op_u pe_w pe_w pe_w hm) ((EV.d (k := fun d ρ1 => EV C b ρ1 (fun y ρ2 => ∃ r, Cmp op d y.frz r ∧ (r = true → EV C c ρ2 (fun z ρ3 => ∃ r', Cmp op' y.frz z.frz r' ∧ k (.fz (.bl r')) ρ3) Ξ) ∧ (r = false → k (.fz (.bl false)) ρ2)) Ξ) h hx tk s x).mono fun v H1 ⟨d, ρ1, F1, fp1, h1, s1, a1, m1⟩ => ?_)
  refine (EV.d (k := fun d2 ρ2 => ∃ r, Cmp op d d2 r ∧ (r = true → EV C c ρ2 (fun z ρ3 => ∃ r', Cmp op' d2 z.frz r' ∧ k (.fz (.bl r')) ρ3) Ξ) ∧ (r = false → k (.fz (.bl false)) ρ2)) h1 hx tk s1 (x.along m1)).mono fun u H2 ⟨d2, ρ2, F2, fp2, ⟨z, hz, q1, q2⟩, s2, a2, m2⟩ => ?_
  refine hz.sound hx s2 (a1.mono m2.ef) a2 ⟨z, rfl, ?_⟩
  cases z with
  | false => exact fdm (m1.trans m2) s2 (.bl _) (q2 rfl)
  | true =>
    rw [if_pos rfl]
    refine (EV.d (k := fun d3 ρ3 => ∃ r', Cmp op' d2 d3 r' ∧ k (.fz (.bl r')) ρ3) (q1 rfl) hx tk s2 (x.along (m1.trans m2))).mono fun w H3 ⟨d3, ρ3, F3, fp3, ⟨r', hr', q⟩, s3, a3, m3⟩ => ?_
    exact hr'.sound hx s3 (a2.mono m3.ef) a3 (fdm ((m1.trans m2).trans m3) s3 (.bl _) q)

/-! ### tests -/
def EW (C : Ctx) (e : Expr) (ρ : Rho) (k : Bool → Rho → Prop) (Ξ : Exc → Rho → Prop) : Prop :=
  ∀ X, XIs C X → ∀ W, Takes X W → ∀ σ F H fp, SR C.G.K F H σ ρ fp → XP C.G W σ (own fp) F H Ξ → ∀ whole pins s, Inv X pins σ H s → wpAny (model X.prog X.w) X.A (isTrue e X.env whole) (TP X pins σ (BP C.G.K σ (own fp) F H k)) X.xe s
theorem EW.t {k : Bool → Rho → Prop} (h : EW C e ρ k Ξ) : ET C e ρ k Ξ := fun X hx W tk σ F H fp s x pins st I => h X hx W tk σ F H fp s x _ pins st I
def wW (X : Cx) (e : Expr) : TT := fun σ H Q => ∀ whole pins s, Inv X pins σ H s → wpAny (model X.prog X.w) X.A (isTrue e X.env whole) (TP X pins σ Q) X.xe s
theorem pw_w {X : Cx} : PW X e (wW X e) := ⟨fun whole pins s _ _ _ I h => h whole pins s I⟩
theorem wW.mono {X : Cx} {σ H} {Q Q' : Bool → Hp → Prop} (h : wW X e σ H Q) (k : ∀ v H', Q v H' → Q' v H') : wW X e σ H Q' := fun whole pins s I =>
  thn (h whole pins s I) fun _ _ ⟨H', I', q⟩ => ⟨H', I', k _ _ q⟩
theorem w_w {X : Cx} {t : TT} (p : PW X e t) {σ H Q} (h : t σ H Q) : wW X e σ H Q := fun whole pins s I => p.run whole pins s σ H Q I h
theorem ew_and1 {k : Bool → Rho → Prop} (h : ET C a ρ k Ξ) : EW C (.BoolOp .And [a] pos) ρ k Ξ := by
  intro X hx W tk σ F H fp s x
  exact w_w (pw_and1 pt_w) (h X hx W tk σ F H fp s x)
theorem ew_or1 {k : Bool → Rho → Prop} (h : ET C a ρ k Ξ) : EW C (.BoolOp .Or [a] pos) ρ k Ξ := by
  intro X hx W tk σ F H fp s x
  exact w_w (pw_or1 pt_w) (h X hx W tk σ F H fp s x)
theorem ew_and {k : Bool → Rho → Prop} (h : ET C a ρ (fun r ρ1 => (r = true → EW C (.BoolOp .And (b :: rest) pos) ρ1 k Ξ) ∧ (r = false → k false ρ1)) Ξ) : EW C (.BoolOp .And (a :: b :: rest) pos) ρ k Ξ := by
  intro X hx W tk σ F H fp s x
  refine w_w (pw_and pt_w pw_w) ((h X hx W tk σ F H fp s x).mono fun r H1 ⟨ρ1, F1, fp1, ⟨h1, h2⟩, s1, m1⟩ => ?_)
  cases r with
  | true =>
    rw [if_pos rfl]
    exact wW.mono (h1 rfl X hx W tk σ F1 H1 fp1 s1 (x.along m1)) fun v H' q => q.along m1
  | false => exact ⟨ρ1, F1, fp1, h2 rfl, s1, m1⟩
theorem ew_or {k : Bool → Rho → Prop} (h : ET C a ρ (fun r ρ1 => (r = true → k true ρ1) ∧ (r = false → EW C (.BoolOp .Or (b :: rest) pos) ρ1 k Ξ)) Ξ) : EW C (.BoolOp .Or (a :: b :: rest) pos) ρ k Ξ := by
  intro X hx W tk σ F H fp s x
  refine w_w (pw_or pt_w pw_w) ((h X hx W tk σ F H fp s x).mono fun r H1 ⟨ρ1, F1, fp1, ⟨h1, h2⟩, s1, m1⟩ => ?_)
  cases r with
  | true =>
    rw [if_pos rfl]
    exact ⟨ρ1, F1, fp1, h1 rfl, s1, m1⟩
  | false => exact wW.mono (h2 rfl X hx W tk σ F1 H1 fp1 s1 (x.along m1)) fun v H' q => q.along m1
theorem et_not {k : Bool → Rho → Prop} (h : ET C a ρ (fun r ρ1 => k (!r) ρ1) Ξ) : ET C (.UnaryOp .Not a pos) ρ k Ξ := by
  intro X hx W tk σ F H fp s x
  exact w_t (pt_not pt_w) ((h X hx W tk σ F H fp s x).mono fun r H1 q => q)
/-- the truth of a value -/
inductive Tru : D → Bool → Prop where
  | non : Tru .non false
  | bl {b : Bool} : Tru (.bl b) b
  | int {i : Int} : Tru (.int i) (i != 0)
  | str {z : Str} : z.length ≤ sizeLine → Tru (.str z) ((z.length : Int) != 0)
  | lst {ds : List D} : Tru (.lst ds) (!ds.isEmpty)
  | tup {ds : List D} : Tru (.tup ds) (!ds.isEmpty)
theorem AtL.empty {K : PySem.W.Frag} {F : Hp} {vs : List V} {ds : List D} (h : AtL K F vs ds) : vs.isEmpty = ds.isEmpty := by cases h <;> rfl
theorem Tru.sound {K : PySem.W.Frag} {F H : Hp} {v : V} {d : D} {b : Bool} (h : Tru d b) (e : Ex F H) (a : At K F v d) : TruV K v H b := by
  cases h with
  | non => cases a; rfl
  | bl => cases a; rfl
  | int => cases a; rfl
  | str c => cases a; exact ⟨c, rfl⟩
  | lst =>
    cases a with
    | lst h t => exact .inl ⟨_, .inl (.inl (e _ _ h)), by rw [t.empty]⟩
  | tup =>
    cases a with
    | tup h t => exact .inr (.inl ⟨_, e.t h, by rw [t.empty]⟩)
theorem et_val {k : Bool → Rho → Prop} (h : EV C e ρ (fun o ρ' => ∃ b, Tru o.frz b ∧ k b ρ') Ξ) (he : ∀ env whole, isTrue e env whole = (do let v ← whole; standAt e.pos; holding [v] (truthy v)) := by intro _ _; rfl) : ET C e ρ k Ξ := by
  intro X hx W tk σ F H fp s x
  refine w_t (pt_truth pe_w (he _)) ((EV.d (k := fun d ρ' => ∃ b, Tru d b ∧ k b ρ') h hx tk s x).mono fun v H1 ⟨d, ρ1, F1, fp1, ⟨b, hb, q⟩, s1, a1, m1⟩ => ?_)
  exact ⟨b, (by rw [hx.K]; exact hb.sound s1.ex a1), ρ1, F1, fp1, q, s1, m1⟩
/-! ### and, or, not, if as values -/
theorem ev_one {k : O → Rho → Prop} {bop : BoolOp} (h : EV C a ρ k Ξ) : EV C (.BoolOp bop [a] pos) ρ k Ξ := by
  intro X hx W tk σ F H fp s x
  exact w_e (pe_one pe_w) (h X hx W tk σ F H fp s x)
theorem ev_and {k : O → Rho → Prop} (h : EV C a ρ (fun o ρ1 => ∃ r, o.frz = .bl r ∧ (r = true → EV C (.BoolOp .And (b :: rest) pos) ρ1 k Ξ) ∧ (r = false → k (.fz (.bl false)) ρ1)) Ξ) : EV C (.BoolOp .And (a :: b :: rest) pos) ρ k Ξ := by
  intro X hx W tk σ F H fp s x
  refine w_e (pe_and pe_w pe_w) ((EV.d (k := fun d ρ1 => ∃ r, d = .bl r ∧ (r = true → EV C (.BoolOp .And (b :: rest) pos) ρ1 k Ξ) ∧ (r = false → k (.fz (.bl false)) ρ1)) h hx tk s x).mono fun v H1 ⟨d, ρ1, F1, fp1, ⟨r, e, h1, h2⟩, s1, a1, m1⟩ => ?_)
  subst e
  cases a1
  refine ⟨r, rfl, ?_⟩
  cases r with
  | true =>
    rw [if_pos rfl]
    exact (h1 rfl X hx W tk σ F1 H1 fp1 s1 (x.along m1)).mono fun v H' q => q.along m1
  | false => exact fdm m1 s1 (.bl _) (h2 rfl)
theorem ev_or {k : O → Rho → Prop} (h : EV C a ρ (fun o ρ1 => ∃ r, o.frz = .bl r ∧ (r = true → k (.fz (.bl true)) ρ1) ∧ (r = false → EV C (.BoolOp .Or (b :: rest) pos) ρ1 k Ξ)) Ξ) : EV C (.BoolOp .Or (a :: b :: rest) pos) ρ k Ξ := by
  intro X hx W tk σ F H fp s x
  refine w_e (pe_or pe_w pe_w) ((EV.d (k := fun d ρ1 => ∃ r, d = .bl r ∧ (r = true → k (.fz (.bl true)) ρ1) ∧ (r = false → EV C (.BoolOp .Or (b :: rest) pos) ρ1 k Ξ)) h hx tk s x).mono fun v H1 ⟨d, ρ1, F1, fp1, ⟨r, e, h1, h2⟩, s1, a1, m1⟩ => ?_)
  subst e
  cases a1
  refine ⟨r, rfl, ?_⟩
  cases r with
  | true =>
    rw [if_pos rfl]
    exact fdm m1 s1 (.bl _) (h1 rfl)
  | false => exact (h2 rfl X hx W tk σ F1 H1 fp1 s1 (x.along m1)).mono fun v H' q => q.along m1
theorem ev_not {k : O → Rho → Prop} (h : EV C a ρ (fun o ρ1 => ∃ r, o.frz = .bl r ∧ k (.fz (.bl (!r))) ρ1) Ξ) : EV C (.UnaryOp .Not a pos) ρ k Ξ := by
  intro X hx W tk σ F H fp s x
  refine w_e (pe_not pe_w) ((EV.d (k := fun d ρ1 => ∃ r, d = .bl r ∧ k (.fz (.bl (!r))) ρ1) h hx tk s x).mono fun v H1 ⟨d, ρ1, F1, fp1, ⟨r, e, q⟩, s1, a1, m1⟩ => ?_)
  subst e
  cases a1
  exact ⟨r, rfl, fdm m1 s1 (.bl _) q⟩
theorem ev_ifExp {k : O → Rho → Prop} (h : ET C c ρ (fun r ρ1 => (r = true → EV C a ρ1 k Ξ) ∧ (r = false → EV C b ρ1 k Ξ)) Ξ) : EV C (.IfExp c a b pos) ρ k Ξ := by
  intro X hx W tk σ F H fp s x
  refine w_e (pe_ifExp pt_w pe_w pe_w) ((h X hx W tk σ F H fp s x).mono fun r H1 ⟨ρ1, F1, fp1, ⟨h1, h2⟩, s1, m1⟩ => ?_)
  cases r with
  | true =>
    rw [if_pos rfl]
    exact (h1 rfl X hx W tk σ F1 H1 fp1 s1 (x.along m1)).mono fun v H' q => q.along m1
  | false => exact (h2 rfl X hx W tk σ F1 H1 fp1 s1 (x.along m1)).mono fun v H' q => q.along m1
theorem ev_neg {k : O → Rho → Prop} (h : EV C a ρ (fun o ρ1 => ∃ i, o.frz = .int i ∧ k (.fz (.int (-i))) ρ1) Ξ) : EV C (.UnaryOp .USub a pos) ρ k Ξ := by
  intro X hx W tk σ F H fp s x
  refine w_e (pe_un un_neg pe_w) ((EV.d (k := fun d ρ1 => ∃ i, d = .int i ∧ k (.fz (.int (-i))) ρ1) h hx tk s x).mono fun v H1 ⟨d, ρ1, F1, fp1, ⟨r, e, q⟩, s1, a1, m1⟩ => ?_)
  subst e
  cases a1
  exact ⟨r, rfl, fdm m1 s1 (.int _) q⟩

/-! ### subscripts, slices -/
inductive Ix : D → D → D → Prop where
  | lst {ds : List D} {i : Int} {d : D} : atI ds i = some d → Ix (.lst ds) (.int i) d
  | tup {ds : List D} {i : Int} {d : D} : atI ds i = some d → Ix (.tup ds) (.int i) d
  | str {z : Str} {i : Int} {c : Nat} : z.length ≤ sizeLine → atI z.cps.toList i = some c → Ix (.str z) (.int i) (.str ⟨#[c]⟩)
theorem AtL.atI {K : PySem.W.Frag} {F : Hp} {vs : List V} {ds : List D} {i : Int} {d : D} (h : AtL K F vs ds) (e : L2.atI ds i = some d) : ∃ v, L2.atI vs i = some v ∧ At K F v d := by
  unfold L2.atI at e ⊢
  rw [h.length]
  cases q : ixN ds.length i with
  | none => rw [q] at e; cases e
  | some j =>
    rw [q] at e
    exact h.get e
theorem ev_ix {k : O → Rho → Prop} (h : EV C a ρ (fun x ρ1 => EV C b ρ1 (fun y ρ2 => ∃ z, Ix x.frz y.frz z ∧ k (.fz z) ρ2) Ξ) Ξ) (hs : PlainIx b := by exact fun _ _ => rfl) : EV C (.Subscript a b pos) ρ k Ξ := by
  intro X hx W tk σ F H fp s x
  refine w_e (pe_ix ix_u pe_w pe_w hs) ((EV.d (k := fun d ρ1 => EV C b ρ1 (fun y ρ2 => ∃ z, Ix d y.frz z ∧ k (.fz z) ρ2) Ξ) h hx tk s x).mono fun v H1 ⟨d, ρ1, F1, fp1, h1, s1, a1, m1⟩ => ?_)
  refine (EV.d (k := fun d2 ρ2 => ∃ z, Ix d d2 z ∧ k (.fz z) ρ2) h1 hx tk s1 (x.along m1)).mono fun u H2 ⟨d2, ρ2, F2, fp2, ⟨z, hz, q⟩, s2, a2, m2⟩ => ?_
  have a1' := a1.mono m2.ef
  cases hz with
  | lst e =>
    cases a2
    cases a1' with
    | lst hh t =>
      obtain ⟨w, e2, a3⟩ := t.atI e
      exact ⟨_, ix_list, _, _, _, _, rfl, rfl, .inl (.inl (s2.ex _ _ hh)), e2, fdm (m1.trans m2) s2 a3 q⟩
  | tup e =>
    cases a2
    cases a1' with
    | tup hh t =>
      obtain ⟨w, e2, a3⟩ := t.atI e
      exact ⟨_, ix_tup, _, _, _, _, rfl, rfl, (by rw [hx.K]; exact s2.ex.t hh), e2, fdm (m1.trans m2) s2 a3 q⟩
  | str c e =>
    cases a2
    cases a1'
    exact ⟨_, ix_str, _, _, _, rfl, rfl, c, e, fdm (m1.trans m2) s2 (.str _) q⟩
theorem Rep.inv_lst {K : PySem.W.Frag} {F H : Hp} {v : V} {os : List O} {S : List Addr} (r : Rep K F H v (.lst os) S) : ∃ p vs T, v = .ref p ∧ H p = some (.lst vs) ∧ Reps K F H vs os T := by
  generalize ho : O.lst os = o at r
  cases r with
  | fz a => cases ho
  | lst h1 _ _ t => cases ho; exact ⟨_, _, _, rfl, h1, t⟩
  | dic _ _ _ _ _ => cases ho
/-- an item of a list that a slot alone holds: flat -/
theorem ev_ixO {k : O → Rho → Prop} {i : Nat} {x : Str} {p : Pos} {os : List O} (hr : ρ[i]? = some (some (.lst os))) (h : EV C b ρ (fun y ρ2 => ρ2[i]? = some (some (.lst os)) ∧ ∃ z d, y.frz = .int z ∧ L2.atI os z = some (.fz d) ∧ k (.fz d) ρ2) Ξ)
    (hs : PlainIx b := by exact fun _ _ => rfl) (hN : C.N[i]? = some x := by rfl) (hv : Vis C.sc x := by first | exact .inl rfl | exact .inr (.inl rfl) | exact .inr (.inr rfl))
    (hd : (x == ("__debug__" : Str)) = false := by decide) (hcd : (x == ("__classdict__" : Str)) = false := by decide) : EV C (.Subscript (.Name x p) b pos) ρ k Ξ := by
  intro X hx W tk σ F H fp s xx
  obtain ⟨v, e, r⟩ := s.slot i _ hr
  refine w_e (pe_ix ix_u (pe_var (i := i) (by rw [hx.N]; exact hN) (hx.vis hv) hd hcd) pe_w hs) ⟨v, e, ?_⟩
  refine (EV.d (k := fun d2 ρ2 => ρ2[i]? = some (some (.lst os)) ∧ ∃ z d, d2 = .int z ∧ L2.atI os z = some (.fz d) ∧ k (.fz d) ρ2) h hx tk s xx).mono fun u H2 ⟨d2, ρ2, F2, fp2, ⟨hr2, z, d, e2, ha, q⟩, s2, a2, m2⟩ => ?_
  subst e2
  cases a2
  obtain ⟨v2, e3, r2⟩ := s2.slot i _ hr2
  rw [e] at e3
  cases e3
  obtain ⟨pa, vs2, S2, ev2, h1, t⟩ := r2.inv_lst
  subst ev2
  · have key : ∀ {vs : List V} {os : List O} {S : List Addr} {j : Nat} {d : D}, Reps C.G.K F2 H2 vs os S → os[j]? = some (.fz d) → ∃ w, vs[j]? = some w ∧ At C.G.K F2 w d := by
      intro vs os S j d t
      induction j generalizing vs os S with
      | zero =>
        intro hj
        cases t with
        | nil => simp at hj
        | cons h t _ =>
          simp at hj
          subst hj
          exact ⟨_, rfl, h.at_fz⟩
      | succ j ih =>
        intro hj
        cases t with
        | nil => simp at hj
        | cons h t _ =>
          obtain ⟨w, e, a⟩ := ih t (by simpa using hj)
          exact ⟨w, by simpa using e, a⟩
    unfold L2.atI at ha
    cases q3 : ixN os.length z with
    | none => rw [q3] at ha; cases ha
    | some j =>
      rw [q3] at ha
      obtain ⟨w, e4, a4⟩ := key t ha
      refine ⟨_, ix_list, _, _, _, w, rfl, rfl, .inl (.inl h1), ?_, fdm m2 s2 a4 q⟩
      unfold L2.atI
      rw [t.length, q3]
      exact e4

/-- a part of a slice -/
def EP' (C : Ctx) (p : Option Expr) (ρ : Rho) (k : Option Int → Rho → Prop) (Ξ : Exc → Rho → Prop) : Prop := match p with
  | none => k none ρ
  | some e => EV C e ρ (fun o ρ1 => ∃ i, o.frz = .int i ∧ k (some i) ρ1) Ξ
def uPO (X : Cx) (p : Option Expr) : TO := match p with
  | none => tNoPart
  | some e => tPart (wE X e)
theorem po_u {X : Cx} {p : Option Expr} : PO X p (uPO X p) := by
  cases p with
  | none => exact po_none
  | some e => exact po_some pe_w
theorem EP'.run {p : Option Expr} {k : Option Int → Rho → Prop} (h : EP' C p ρ k Ξ) {X : Cx} (hx : XIs C X) {W : WX} (tk : Takes X W) {σ : L2.St} {F H : Hp} {fp : Nat → List Addr} (s : SR C.G.K F H σ ρ fp) (x : XP C.G W σ (own fp) F H Ξ)
    {Q : Option Int → Hp → Prop} (hq : ∀ o H' ρ' F' fp', k o ρ' → SR C.G.K F' H' σ ρ' fp' → Mv (own fp) F H (own fp') F' H' → Q o H') : uPO X p σ H Q := by
  cases p with
  | none => exact hq none H ρ F fp h s Mv.refl
  | some e =>
    refine (EV.d (k := fun d ρ1 => ∃ i, d = .int i ∧ k (some i) ρ1) h hx tk s x).mono fun v H1 ⟨d, ρ1, F1, fp1, ⟨i, e, q⟩, s1, a1, m1⟩ => ?_
    subst e
    cases a1
    exact ⟨i, rfl, hq _ _ ρ1 F1 fp1 q s1 m1⟩
def cutD (xs : List D) (lo hi : Option Int) : List D := (xs.drop (HT.sIx xs.length 0 lo)).take (HT.sIx xs.length xs.length hi - HT.sIx xs.length 0 lo)
theorem AtL.cut {K : PySem.W.Frag} {F : Hp} {vs : List V} {ds : List D} (h : AtL K F vs ds) (lo hi : Option Int) : AtL K F (cutV vs lo hi) (cutD ds lo hi) := by
  unfold cutV cutD
  rw [h.length]
  exact (h.drop _).take _
inductive Sl : D → Option Int → Option Int → RV → Prop where
  | str {z : Str} {lo hi : Option Int} : z.length ≤ sizeLine → Sl (.str z) lo hi (.d (.str (cutS z lo hi)))
  | lst {ds : List D} {lo hi : Option Int} : Sl (.lst ds) lo hi (.l (cutD ds lo hi))
  | tup {ds : List D} {lo hi : Option Int} : Sl (.tup ds) lo hi (.d (.tup (cutD ds lo hi)))
  | scr {ns : List Int} {lo hi : Option Int} : Sl (.scr ns) lo hi (.l (cutD (ns.map .int) lo hi))
theorem ev_sl {k : O → Rho → Prop} {lo hi : Option Expr} {p2 : Pos} (h : EV C a ρ (fun x ρ1 => EP' C lo ρ1 (fun l ρ2 => EP' C hi ρ2 (fun u ρ3 => ∃ z, Sl x.frz l u z ∧ k z.o ρ3) Ξ) Ξ) Ξ) : EV C (.Subscript a (.Slice lo hi none p2) pos) ρ k Ξ := by
  intro X hx W tk σ F H fp s x
  refine w_e (pe_slice sl_u pe_w po_u po_u) ((EV.d (k := fun d ρ1 => EP' C lo ρ1 (fun l ρ2 => EP' C hi ρ2 (fun u ρ3 => ∃ z, Sl d l u z ∧ k z.o ρ3) Ξ) Ξ) h hx tk s x).mono fun v H1 ⟨d, ρ1, F1, fp1, h1, s1, a1, m1⟩ => ?_)
  refine h1.run hx tk s1 (x.along m1) fun l H2 ρ2 F2 fp2 h2 s2 m2 => ?_
  refine h2.run hx tk s2 (x.along (m1.trans m2)) fun u H3 ρ3 F3 fp3 ⟨z, hz, q⟩ s3 m3 => ?_
  have m := (m1.trans m2).trans m3
  have a3 := a1.mono (m2.ef.trans m3.ef)
  cases hz with
  | str c =>
    cases a3
    exact ⟨_, sl_str, _, rfl, c, fdm m s3 (.str _) q⟩
  | lst =>
    cases a3 with
    | lst hh t => exact ⟨_, sl_list, _, _, rfl, .inl (.inl (s3.ex _ _ hh)), fun p hp => flm m s3 (t.cut l u) hp q⟩
  | @tup ds _ _ =>
    cases a3 with
    | tup hh t =>
      refine ⟨_, sl_tupA, _, _, rfl, (by rw [hx.K]; exact s3.ex.t hh), fun ⟨e1, e2⟩ => ?_, fun _ p hp => ftm m s3 (t.cut l u) hp q⟩
      have e : cutD ds l u = ds := by
        unfold cutD
        rw [← t.length, e1, e2, t.length]
        simp
      rw [e] at q
      exact fdm m s3 (.tup hh t) q
  | scr =>
    cases a3 with
    | scr hh => exact ⟨_, sl_list, _, _, rfl, (by rw [hx.K]; exact s3.ex.l hh), fun p hp => flm m s3 ((AtL.of_ints _).cut l u) hp q⟩
end
end Fr

set_option Elab.async false
set_option linter.all false
set_option maxRecDepth 100000
set_option maxHeartbeats 2000000
/-! Fr5: calls of the text's defs by their specs, of built-ins, of methods. -/
namespace Fr
open PySem PySem.Spec PyProof.Rows L2

abbrev AO := O × Option Nat
def EVA (C : Ctx) (es : List Expr) (ρ : Rho) (k : List AO → Rho → Prop) (Ξ : Exc → Rho → Prop) : Prop :=
  ∀ X, XIs C X → ∀ W, Takes X W → ∀ σ F H fp, SR C.G.K F H σ ρ fp → XP C.G W σ (own fp) F H Ξ → wA X es σ H (fun vs H' => ∃ (as : List AO) (ρ' : Rho) (F' : Hp) (fp' : Nat → List Addr) (S : List Addr), k as ρ' ∧ SR C.G.K F' H' σ ρ' fp' ∧ Reps C.G.K F' H' vs (as.map (·.1)) S ∧ (∀ q ∈ S, ¬ own fp' q) ∧
    Mv (own fp) F H (fun q => own fp' q ∨ q ∈ S) F' H' ∧ ∀ (j i : Nat) (o : O), as[j]? = some (o, some i) → ∃ v, vs[j]? = some v ∧ σ[i]? = some (some v))
section
variable {C : Ctx} {ρ : Rho} {Ξ : Exc → Rho → Prop} {e : Expr} {es : List Expr} {k : List AO → Rho → Prop}
theorem eva_nil (q : k [] ρ) : EVA C [] ρ k Ξ := fun _ _ _ _ _ F _ fp s _ => w_a pa_nil ⟨[], ρ, F, fp, [], q, s, .nil, fun _ z => (by cases z), Mv.refl.less fun q hq => hq.elim id fun z => (by cases z), fun j i o h => by simp at h⟩
theorem eva_tail {X : Cx} {W : WX} {σ : L2.St} {F H F1 H1 : Hp} {fp1 : Nat → List Addr} {ρ1 : Rho} {v : V} {a : AO} {S1 : List Addr} {A : Addr → Prop}
    (h : EVA C es ρ1 (fun as ρ2 => k (a :: as) ρ2) Ξ) (hx : XIs C X) (tk : Takes X W) (s1 : SR C.G.K F1 H1 σ ρ1 fp1) (x : XP C.G W σ A F H Ξ) (m : Mv A F H (fun q => own fp1 q ∨ q ∈ S1) F1 H1) (r : Rep C.G.K F1 H1 v a.1 S1) (d : ∀ q ∈ S1, ¬ own fp1 q)
    (hb : ∀ i, a.2 = some i → σ[i]? = some (some v)) :
    wA X es σ H1 (fun vs H' => (fun vs H' => ∃ (as : List AO) (ρ' : Rho) (F' : Hp) (fp' : Nat → List Addr) (S : List Addr), k as ρ' ∧ SR C.G.K F' H' σ ρ' fp' ∧ Reps C.G.K F' H' vs (as.map (·.1)) S ∧ (∀ q ∈ S, ¬ own fp' q) ∧
      Mv A F H (fun q => own fp' q ∨ q ∈ S) F' H' ∧ ∀ (j i : Nat) (o : O), as[j]? = some (o, some i) → ∃ v, vs[j]? = some v ∧ σ[i]? = some (some v)) (v :: vs) H') := by
  refine wA.mono (h X hx W tk σ F1 H1 fp1 s1 (x.along (m.less fun q hq => .inl hq))) fun vs H2 ⟨as, ρ2, F2, fp2, S2, h2, s2, r2, d2, m2, b2⟩ => ?_
  have hS : ∀ q ∈ S1, ∃ u, H1 q = some u := fun q hq => (r.none q hq).2
  have off := m2.off d hS
  refine ⟨a :: as, ρ2, F2, fp2, S1 ++ S2, h2, s2, .cons (r.along m2 d) r2 (fun q hq hm => off q hq (.inr hm)), fun q hq => ?_, ?_, fun j i o hj => ?_⟩
  · rcases List.mem_append.mp hq with z | z
    · exact fun w => off q z (.inl w)
    · exact d2 q z
  · refine ⟨m.ef.trans m2.ef, fun q o hq hn => ?_, fun q hq => ?_⟩
    · obtain ⟨a1, a2⟩ := m.keep q o hq hn
      have hn1 : ¬ own fp1 q := fun z => by
        rcases m.new q (.inl z) with w | w
        · exact hn w
        · rw [hq] at w; cases w
      obtain ⟨b1, b2⟩ := m2.keep q o a1 hn1
      exact ⟨b1, b2.trans a2⟩
    · have back : own fp1 q ∨ H1 q = none → A q ∨ H q = none := fun z => by
        rcases z with z | z
        · exact m.new q (.inl z)
        · by_cases hA : A q
          · exact .inl hA
          · refine .inr ?_
            cases e : H q with
            | none => rfl
            | some o => rw [(m.keep q o e hA).1] at z; cases z
      rcases hq with z | z
      · exact back (m2.new q (.inl z))
      · rcases List.mem_append.mp z with z | z
        · exact m.new q (.inr z)
        · exact back (m2.new q (.inr z))
  · cases j with
    | zero =>
      have e : a = (o, some i) := by simpa using hj
      exact ⟨v, rfl, hb i (by rw [e])⟩
    | succ j =>
      obtain ⟨w, e1, e2⟩ := b2 j i o (by simpa using hj)
      exact ⟨w, by simpa using e1, e2⟩
theorem eva_cons (h : EV C e ρ (fun x ρ1 => EVA C es ρ1 (fun as ρ2 => k ((.fz x.frz, none) :: as) ρ2) Ξ) Ξ) (hs : ∀ env, starEach (e :: es) env = (false, eval e env) :: starEach es env := by intro _; rfl) : EVA C (e :: es) ρ k Ξ := by
  intro X hx W tk σ F H fp s x
  refine w_a (pa_cons pe_w pa_w (hs _)) ((EV.d (k := fun d ρ1 => EVA C es ρ1 (fun as ρ2 => k ((.fz d, none) :: as) ρ2) Ξ) h hx tk s x).mono fun v H1 ⟨d, ρ1, F1, fp1, h1, s1, a1, m1⟩ => ?_)
  exact eva_tail (S1 := []) h1 hx tk s1 x (m1.less fun q hq => hq.elim id fun z => (by cases z)) (.fz a1) (fun _ z => (by cases z)) fun i z => by cases z
/-- a value of its own goes in as it is -/
theorem eva_own (h : EV C e ρ (fun x ρ1 => EVA C es ρ1 (fun as ρ2 => k ((x, none) :: as) ρ2) Ξ) Ξ) (hs : ∀ env, starEach (e :: es) env = (false, eval e env) :: starEach es env := by intro _; rfl) : EVA C (e :: es) ρ k Ξ := by
  intro X hx W tk σ F H fp s x
  refine w_a (pa_cons pe_w pa_w (hs _)) ((h X hx W tk σ F H fp s x).mono fun v H1 ⟨o, ρ1, F1, fp1, S1, h1, s1, r1, d1, m1⟩ => ?_)
  exact eva_tail h1 hx tk s1 x m1 r1 d1 fun i z => by cases z
/-- a slot is lent -/
theorem eva_bor {i : Nat} {x : Str} {pos : Pos} {o : O} (hr : ρ[i]? = some (some o)) (h : EVA C es (ρ.set i none) (fun as ρ2 => k ((o, some i) :: as) ρ2) Ξ) (hN : C.N[i]? = some x := by rfl) (hv : Vis C.sc x := by first | exact .inl rfl | exact .inr (.inl rfl) | exact .inr (.inr rfl))
    (hd : (x == ("__debug__" : Str)) = false := by decide) (hcd : (x == ("__classdict__" : Str)) = false := by decide) : EVA C (.Name x pos :: es) ρ k Ξ := by
  intro X hx W tk σ F H fp s xx
  obtain ⟨v, e, r⟩ := s.slot i _ hr
  refine w_a (pa_cons (pe_var (i := i) (by rw [hx.N]; exact hN) (hx.vis hv) hd hcd) pa_w (by rfl)) ⟨v, e, ?_⟩
  exact eva_tail h hx tk (s.drop i) xx (Mv.refl.less fun q hq => hq.elim own_wo fun z => ⟨i, z⟩) r (fun q hq => not_wo s hq) fun j z => by cases z; exact e
end

/-! ### specs of defs -/
abbrev FSpec := List O → (O → List O → Prop) → (Exc → List O → Prop) → Prop
def spOf (G : Gx) (S : FSpec) : Sp := fun vs H Q E => ∃ os F A k Ξ, Ex F H ∧ Reps G.K F H vs os A ∧ S os k Ξ ∧
  (∀ o os' v F' H' A' T, k o os' → Ex F' H' → Reps G.K F' H' vs os' A' → Rep G.K F' H' v o T → (∀ q ∈ T, q ∉ A') → Mv (· ∈ A) F H (fun q => q ∈ A' ∨ q ∈ T) F' H' → Q v H') ∧
  (∀ c os' cls d F' H' A', Ξ c os' → Ex F' H' → Reps G.K F' H' vs os' A' → XR G c cls d F' H' → Mv (· ∈ A) F H (· ∈ A') F' H' → E cls d H')
/-- the def x of the text keeps S; dvs its defaults where they are left out -/
structure FOK (G : Gx) (lv : Nat) (x : Str) (dvs : List D) (S : FSpec) : Prop where
  ex : ∃ fa fd ps ds dv k, G.mg x = some (.ref fa) ∧ PySem.W.keepIn G.K (.ref fa) = true ∧ Binds G.K fd ps ds ∧ Vals dv ds ∧ (∀ F, AtL G.K F dv dvs) ∧ k ≤ lv ∧ FnOk G.P G.w G.K G.mg G.base (L2.CX G.P G.w) k fa fd ps (spOf G S)
theorem FOK.mono {G : Gx} {j k : Nat} {x : Str} {dvs : List D} {S : FSpec} (f : FOK G j x dvs S) (h : j ≤ k) : FOK G k x dvs S := by
  obtain ⟨fa, fd, ps, ds, dv, l, a, b, c, d, e, g, i⟩ := f.ex
  exact ⟨fa, fd, ps, ds, dv, l, a, b, c, d, e, Nat.le_trans g h, i⟩
def refill : List AO → List O → Rho → Rho
  | (_, some i) :: as, o' :: os', ρ => (refill as os' ρ).set i (some o')
  | (_, none) :: as, _ :: os', ρ => refill as os' ρ
  | _, _, ρ => ρ
theorem refill_length : ∀ (as : List AO) (os' : List O) (ρ : Rho), (refill as os' ρ).length = ρ.length
  | [], _, _ => by simp [refill]
  | (_, some i) :: as, [], _ => by simp [refill]
  | (_, none) :: as, [], _ => by simp [refill]
  | (_, some i) :: as, o' :: os', ρ => by simp [refill, refill_length as os' ρ]
  | (_, none) :: as, _ :: os', ρ => by simp [refill, refill_length as os' ρ]
theorem refill_sr {K : PySem.W.Frag} {F H : Hp} {σ : L2.St} {ρ : Rho} {fp : Nat → List Addr} (s : SR K F H σ ρ fp) : ∀ (as : List AO) (os' : List O) (vs ws : List V) (A' : List Addr), Reps K F H (vs ++ ws) os' A' → (∀ q ∈ A', ¬ own fp q) →
    as.length = vs.length → (∀ (j i : Nat) (o : O), as[j]? = some (o, some i) → ∃ v, vs[j]? = some v ∧ σ[i]? = some (some v)) → ∃ fp', SR K F H σ (refill as os' ρ) fp' ∧ ∀ q, own fp' q → own fp q ∨ q ∈ A'
  | [], os', vs, ws, A', r, d, hl, hb => ⟨fp, by simpa [refill] using s, fun q h => .inl h⟩
  | a :: as, os', [], ws, A', r, d, hl, hb => by simp at hl
  | (o, b) :: as, os', v :: vs, ws, A', r, d, hl, hb => by
    cases r with
    | @cons _ _ o' os'' S T h t dd =>
      obtain ⟨fp1, s1, m1⟩ := refill_sr s as os'' vs ws T t (fun q hq => d q (List.mem_append_right _ hq)) (by simpa using hl) fun j i o h => by
        obtain ⟨w, e1, e2⟩ := hb (j + 1) i o (by simpa using h)
        exact ⟨w, by simpa using e1, e2⟩
      cases b with
      | none =>
        refine ⟨fp1, by simpa [refill] using s1, fun q h => (m1 q h).imp id fun z => List.mem_append_right _ z⟩
      | some i =>
        obtain ⟨w, e1, e2⟩ := hb 0 i o (by simp)
        have e1' : v = w := by simpa using e1
        subst e1'
        have hi : i < (refill as os'' ρ).length := by
          rw [s1.len]
          exact (List.getElem?_eq_some_iff.mp e2).1
        refine ⟨wi fp1 i S, ?_, fun q hq => ?_⟩
        · have := s1.put h (fun q hq hm => by
            rcases m1 q hm with z | z
            · exact d q (List.mem_append_left _ hq) z
            · exact dd q hq z) hi rfl e2 fun _ _ => rfl
          simpa [refill] using this
        · rcases own_wi hq with z | z
          · exact (m1 q z).imp id fun z => List.mem_append_right _ z
          · exact .inr (List.mem_append_left _ z)
section
variable {C : Ctx} {ρ : Rho} {k : O → Rho → Prop} {Ξ : Exc → Rho → Prop} {e : Expr} {es : List Expr} {x : Str} {p pos : Pos}
theorem reps_append_fz {K : PySem.W.Frag} {F H : Hp} {vs dv : List V} {os : List O} {ds : List D} {S : List Addr} (r : Reps K F H vs os S) (a : AtL K F dv ds) : Reps K F H (vs ++ dv) (os ++ ds.map .fz) S := by
  have h := r.append (Reps.of_at a) (T := []) (fun _ _ z => by cases z)
  rw [List.append_nil] at h
  exact h
theorem ev_call {dvs : List D} {S : FSpec} (f : FOK C.G C.lv x dvs S)
    (h : EVA C (e :: es) ρ (fun as ρ1 => S (as.map (·.1) ++ dvs.map .fz) (fun o os' => k o (refill as os' ρ1)) (fun c os' => Ξ c (refill as os' ρ1))) Ξ) (hsu : C.su = none := by rfl) (hg : C.sc.names.lookup x = some .globalImplicit := by rfl) (hdb : (x == ("__debug__" : Str)) = false := by decide)
    (he : ∀ env, starEach (e :: es) env = (false, eval e env) :: starEach es env := by intro _; rfl) (hpl : ∀ env, (backTo pos (starEach es env)).any (·.1) = false := by intro _; rfl) : EV C (.Call (.Name x p) (e :: es) [] pos) ρ k Ξ := by
  intro X hx W tk σ F H fp s xx
  obtain ⟨fa, fd, ps, ds, dv, lk, hm, hk, hb, hd, hdv, hle, hf⟩ := f.ex
  have hf' : FnOk X.prog X.w X.K X.mg X.base (L2.CX X.prog X.w) lk fa fd ps (spOf C.G S) := by
    rw [hx.P, hx.w, hx.K, hx.mg, hx.base]; exact hf
  refine w_e (pe_callSD hf' ((hx.rm hsu).mono hle) (hx.gl hg) (by rw [hx.mg]; exact hm) (by rw [hx.K]; exact hk) (by rw [hx.K]; exact hb) hd (fun σ => passAt tk σ) pa_w hdb (he _) (hpl _)) ?_
  refine (h X hx W tk σ F H fp s xx).mono fun vs H1 ⟨as, ρ1, F1, fp1, S1, h1, s1, r1, d1, m1, b1⟩ => ?_
  have hlen : as.length = vs.length := by
    have := r1.length
    rw [List.length_map] at this
    exact this.symm
  refine ⟨_, F1, S1, _, _, s1.ex, reps_append_fz r1 (hdv F1), h1, fun o os' v F' H' A' T q e' r' t' dt m' => ?_, fun c os' cls d F' H' A' q e' r' xr m' => ?_⟩
  all_goals
    have keepO : ∀ q, own fp1 q → H' q = H1 q ∧ F' q = none := fun q hq => by
      obtain ⟨z1, u, z2⟩ := s1.owned hq
      obtain ⟨y1, y2⟩ := m'.keep q u z2 fun w => d1 q w hq
      exact ⟨by rw [y1, z2], by rw [y2]; exact z1⟩
    have s1' : SR C.G.K F' H' σ ρ1 fp1 := s1.mono m'.ef e' (fun q hq => (keepO q hq).2) fun q hq => (keepO q hq).1
  · have newN : ∀ q, q ∈ A' ∨ q ∈ T → ¬ own fp1 q := fun q hq ho => by
      obtain ⟨_, u, z2⟩ := s1.owned ho
      rcases m'.new q hq with z | z
      · exact d1 q z ho
      · rw [z2] at z; cases z
    obtain ⟨fp2, s2, m2⟩ := refill_sr s1' as os' vs dv A' r' (fun q hq => newN q (.inl hq)) hlen b1
    refine ⟨o, _, F', fp2, T, q, s2, t', fun q hq ho => ?_, ?_⟩
    · rcases m2 q ho with z | z
      · exact newN q (.inr hq) z
      · exact dt q hq z
    · refine m1.trans ⟨m'.ef, fun q o hq hn => m'.keep q o hq fun z => hn (.inr z), fun q hq => ?_⟩
      rcases hq with z | z
      · rcases m2 q z with w | w
        · exact .inl (.inl w)
        · exact (m'.new q (.inl w)).imp .inr id
      · exact (m'.new q (.inr z)).imp .inr id
  · have newN : ∀ q, q ∈ A' → ¬ own fp1 q := fun q hq ho => by
      obtain ⟨_, u, z2⟩ := s1.owned ho
      rcases m'.new q hq with z | z
      · exact d1 q z ho
      · rw [z2] at z; cases z
    obtain ⟨fp2, s2, m2⟩ := refill_sr s1' as os' vs dv A' r' newN hlen b1
    show W cls d σ H'
    refine xx c _ F' H' fp2 cls d q s2 xr (m1.trans ⟨m'.ef, fun q o hq hn => m'.keep q o hq fun z => hn (.inr z), fun q hq => ?_⟩)
    rcases m2 q hq with w | w
    · exact .inl (.inl w)
    · exact (m'.new q w).imp .inr id

/-! ### built-in functions and types, called -/
inductive CB : String → List D → RV → Prop where
  | lenS {z : Str} : z.length ≤ sizeLine → CB "len" [.str z] (.d (.int z.length))
  | lenL {ds : List D} : CB "len" [.lst ds] (.d (.int ds.length))
  | lenT {ds : List D} : CB "len" [.tup ds] (.d (.int ds.length))
  | abs {i : Int} : CB "abs" [.int i] (.d (.int (if i < 0 then -i else i)))
  | min2 {i j : Int} : CB "min" [.int i, .int j] (.d (.int (if j < i then j else i)))
  | max2 {i j : Int} : CB "max" [.int i, .int j] (.d (.int (if j > i then j else i)))
  | sum {ns : List Int} : CB "sum" [.lst (ns.map .int)] (.d (.int ns.sum))
  | all {bs : List Bool} : CB "all" [.lst (bs.map .bl)] (.d (.bl (bs.all id)))
  | any {bs : List Bool} : CB "any" [.lst (bs.map .bl)] (.d (.bl (bs.any id)))
inductive CT : String → List D → RV → Prop where
  | intI {i : Int} : CT "int" [.int i] (.d (.int i))
  | intB {b : Bool} : CT "int" [.bl b] (.d (.int (if b then 1 else 0)))
  | intS {a : Str} {n : Int} : PySem.intText? a = some n → a.length ≤ 640 → CT "int" [.str a] (.d (.int n))
  | strI {i : Int} : i.natAbs.log2 < 1920 → CT "str" [.int i] (.d (.str (toString i)))
  | strS {a : Str} : CT "str" [.str a] (.d (.str a))
  | tupL {ds : List D} : CT "tuple" [.lst ds] (.d (.tup ds))
  | tupT {ds : List D} : CT "tuple" [.tup ds] (.d (.tup ds))
  | lstL {ds : List D} : CT "list" [.lst ds] (.l ds)
  | lstT {ds : List D} : CT "list" [.tup ds] (.l ds)
theorem AtL.bls {K : PySem.W.Frag} {F : Hp} : ∀ {vs : List V} {zs : List Bool}, AtL K F vs (zs.map .bl) → vs = zs.map .bl
  | _, [], .nil => rfl
  | _, z :: zs, .cons h t => by
    cases h
    rw [AtL.bls t]
    rfl
variable {X : Cx} {σ : L2.St} {F H : Hp} {fp : Nat → List Addr} {A0 : Addr → Prop} {F0 H0 : Hp} {vs : List V} {ds : List D} {id : String} {z : RV}
theorem AtL.one {K : PySem.W.Frag} {d : D} (a : AtL K F vs [d]) : ∃ v, vs = [v] ∧ At K F v d := by
  cases a with
  | cons h t => cases t; exact ⟨_, rfl, h⟩
theorem AtL.two {K : PySem.W.Frag} {d d' : D} (a : AtL K F vs [d, d']) : ∃ v v', vs = [v, v'] ∧ At K F v d ∧ At K F v' d' := by
  cases a with
  | cons h t =>
    obtain ⟨w, rfl, a2⟩ := t.one
    exact ⟨_, _, rfl, h, a2⟩
theorem CB.sound (h : CB id ds z) (hx : XIs C X) (hsu : C.su = none) (m : Mv A0 F0 H0 (own fp) F H) (s : SR C.G.K F H σ ρ fp) (a : AtL C.G.K F vs ds) (q : k z.o ρ) : uCall X (.builtin id) vs H (VP C.G.K σ A0 F0 H0 k) := by
  cases h with
  | lenS c => obtain ⟨v, rfl, b⟩ := a.one; cases b; exact ⟨_, call_len_str, _, rfl, c, fdm m s (.int _) q⟩
  | lenL =>
    obtain ⟨v, rfl, b⟩ := a.one
    cases b with
    | lst hh t => exact ⟨_, call_len_seq, _, _, rfl, .inl (.inl (.inl (s.ex _ _ hh))), (by rw [t.length]; exact fdm m s (.int _) q)⟩
  | lenT =>
    obtain ⟨v, rfl, b⟩ := a.one
    cases b with
    | tup hh t => exact ⟨_, call_len_seq, _, _, rfl, .inr (by rw [hx.K]; exact s.ex.t hh), (by rw [t.length]; exact fdm m s (.int _) q)⟩
  | abs => obtain ⟨v, rfl, b⟩ := a.one; cases b; exact ⟨_, call_abs, _, rfl, fdm m s (.int _) q⟩
  | min2 => obtain ⟨v, v', rfl, b, b'⟩ := a.two; cases b; cases b'; exact ⟨_, call_min2 (hx.calm hsu), _, _, rfl, fdm m s (.int _) q⟩
  | max2 => obtain ⟨v, v', rfl, b, b'⟩ := a.two; cases b; cases b'; exact ⟨_, call_max2 (hx.calm hsu), _, _, rfl, fdm m s (.int _) q⟩
  | sum =>
    obtain ⟨v, rfl, b⟩ := a.one
    cases b with
    | lst hh t =>
      have e := t.ints
      subst e
      exact ⟨_, cr_sum (hx.calm hsu), _, _, rfl, .inl (.inl (s.ex _ _ hh)), fdm m s (.int _) q⟩
  | all =>
    obtain ⟨v, rfl, b⟩ := a.one
    cases b with
    | lst hh t =>
      have e := t.bls
      subst e
      exact ⟨_, cr_all (hx.calm hsu), _, _, rfl, .inl (.inl (s.ex _ _ hh)), fdm m s (.bl _) q⟩
  | any =>
    obtain ⟨v, rfl, b⟩ := a.one
    cases b with
    | lst hh t =>
      have e := t.bls
      subst e
      exact ⟨_, cr_any (hx.calm hsu), _, _, rfl, .inl (.inl (s.ex _ _ hh)), fdm m s (.bl _) q⟩
theorem CT.sound (h : CT id ds z) (hx : XIs C X) (m : Mv A0 F0 H0 (own fp) F H) (s : SR C.G.K F H σ ρ fp) (a : AtL C.G.K F vs ds) (q : k z.o ρ) : uCall X (.type id) vs H (VP C.G.K σ A0 F0 H0 k) := by
  cases h with
  | intI => obtain ⟨v, rfl, b⟩ := a.one; cases b; exact ⟨_, call_int1, .inl ⟨_, rfl, fdm m s (.int _) q⟩⟩
  | intB => obtain ⟨v, rfl, b⟩ := a.one; cases b; exact ⟨_, call_int1, .inr ⟨_, rfl, fdm m s (.int _) q⟩⟩
  | intS c1 c2 => obtain ⟨v, rfl, b⟩ := a.one; cases b; exact ⟨_, call_int_str, _, _, rfl, c1, c2, fdm m s (.int _) q⟩
  | strI c => obtain ⟨v, rfl, b⟩ := a.one; cases b; exact ⟨_, call_str_int, _, rfl, c, fdm m s (.str _) q⟩
  | strS => obtain ⟨v, rfl, b⟩ := a.one; cases b; exact ⟨_, SkE.call_str_str, _, rfl, fdm m s (.str _) q⟩
  | tupL =>
    obtain ⟨v, rfl, b⟩ := a.one
    cases b with
    | lst hh t => exact ⟨_, call_tuple_of, _, _, rfl, .inl ⟨.inl (.inl (s.ex _ _ hh)), fun p hp => ftm m s t hp q⟩⟩
  | tupT =>
    obtain ⟨v, rfl, b⟩ := a.one
    cases b with
    | tup hh t => exact ⟨_, call_tuple_of, _, _, rfl, .inr ⟨(by rw [hx.K]; exact s.ex.t hh), fdm m s (.tup hh t) q⟩⟩
  | lstL =>
    obtain ⟨v, rfl, b⟩ := a.one
    cases b with
    | lst hh t => exact ⟨_, call_list_of, _, _, rfl, .inl (.inl (.inl (s.ex _ _ hh))), fun p hp => flm m s t hp q⟩
  | lstT =>
    obtain ⟨v, rfl, b⟩ := a.one
    cases b with
    | tup hh t => exact ⟨_, call_list_of, _, _, rfl, .inr (by rw [hx.K]; exact s.ex.t hh), fun p hp => flm m s t hp q⟩
theorem ev_cb (hm : C.G.mg x = none) (h : EVs C (e :: es) ρ (fun ds ρ' => ∃ z, CB id ds z ∧ k z.o ρ') Ξ) (hsu : C.su = none := by rfl) (hv : bootBuiltins x = some (.builtin id) := by decide +kernel) (hg : C.sc.names.lookup x = some .globalImplicit := by rfl) (hn : x ≠ "__name__" := by decide)
    (hdb : (x == ("__debug__" : Str)) = false := by decide) (he : ∀ env, starEach (e :: es) env = (false, eval e env) :: starEach es env := by intro _; rfl) (hpl : ∀ env, (backTo pos (starEach es env)).any (·.1) = false := by intro _; rfl) : EV C (.Call (.Name x p) (e :: es) [] pos) ρ k Ξ := by
  intro X hx W tk σ F H fp s xx
  refine w_e (pe_callB call_u (hx.gl hg) (by rw [hx.mg]; exact hm) hv pa_w hn hdb (he _) (hpl _)) ((h X hx W tk σ F H fp s xx).mono fun vs H1 ⟨ds, ρ1, F1, fp1, ⟨z, hz, q⟩, s1, a1, m1⟩ => ?_)
  exact hz.sound hx hsu m1 s1 a1 q
theorem ev_ct (hm : C.G.mg x = none) (h : EVs C (e :: es) ρ (fun ds ρ' => ∃ z, CT id ds z ∧ k z.o ρ') Ξ) (hv : bootBuiltins x = some (.type id) := by decide +kernel) (hg : C.sc.names.lookup x = some .globalImplicit := by rfl) (hn : x ≠ "__name__" := by decide)
    (hdb : (x == ("__debug__" : Str)) = false := by decide) (he : ∀ env, starEach (e :: es) env = (false, eval e env) :: starEach es env := by intro _; rfl) (hpl : ∀ env, (backTo pos (starEach es env)).any (·.1) = false := by intro _; rfl) : EV C (.Call (.Name x p) (e :: es) [] pos) ρ k Ξ := by
  intro X hx W tk σ F H fp s xx
  refine w_e (pe_callTy call_u (hx.gl hg) (by rw [hx.mg]; exact hm) hv pa_w hn hdb (he _) (hpl _)) ((h X hx W tk σ F H fp s xx).mono fun vs H1 ⟨ds, ρ1, F1, fp1, ⟨z, hz, q⟩, s1, a1, m1⟩ => ?_)
  exact hz.sound hx m1 s1 a1 q
/-- isinstance(e, T), T a built-in type -/
theorem ev_isi {T : Str} {T' : String} {tp : Pos} (hm : C.G.mg "isinstance" = none) (hmT : C.G.mg T = none) (h : EV C e ρ (fun o ρ' => o.frz.ex = false ∧ k (.fz (.bl (isiD o.frz T'))) ρ') Ξ) (hT : bootBuiltins T = some (.type T') := by decide +kernel) (hok : T' ∈ tys := by decide)
    (hg : C.sc.names.lookup ("isinstance" : Str) = some .globalImplicit := by rfl) (hgT : C.sc.names.lookup T = some .globalImplicit := by rfl) (hn : T ≠ "__name__" := by decide) (hdT : (T == ("__debug__" : Str)) = false := by decide)
    (he : ∀ env, starEach (e :: [.Name T tp]) env = (false, eval e env) :: starEach [.Name T tp] env := by intro _; rfl) : EV C (.Call (.Name "isinstance" p) [e, .Name T tp] [] pos) ρ k Ξ := by
  intro X hx W tk σ F H fp s xx
  refine w_e (pe_callB call_isi (hx.gl hg) (by rw [hx.mg]; exact hm) (by decide +kernel) (pa_cons pe_w (pa_cons (pe_bltn (hx.gl hgT) (by rw [hx.mg]; exact hmT) hT (v := .ty T') rfl hn hdT) pa_nil (by rfl)) (he _)) (by decide) (by decide) (he _) (by rfl)) ?_
  refine (EV.d (k := fun d ρ' => d.ex = false ∧ k (.fz (.bl (isiD d T'))) ρ') h hx tk s xx).mono fun v H1 ⟨d, ρ1, F1, fp1, ⟨hex, q⟩, s1, a1, m1⟩ => ?_
  exact ⟨_, _, _, _, _, rfl, .ty T', (by rw [hx.K]; exact a1.ty s1.ex hex), kit_isi d hex hok, fdm m1 s1 (.bl _) q⟩
/-- isinstance(e, (T, U)) -/
theorem ev_isi2 {T U : Str} {T' U' : String} {tp up ttp : Pos} {kk : Nat} (hm : C.G.mg "isinstance" = none) (hmT : C.G.mg T = none) (hmU : C.G.mg U = none) (h : EV C e ρ (fun o ρ' => o.frz.ex = false ∧ k (.fz (.bl (isiD o.frz T' || isiD o.frz U'))) ρ') Ξ)
    (hT : bootBuiltins T = some (.type T') := by decide +kernel) (hU : bootBuiltins U = some (.type U') := by decide +kernel) (hok : T' ∈ tys := by decide) (hokU : U' ∈ tys := by decide)
    (hg : C.sc.names.lookup ("isinstance" : Str) = some .globalImplicit := by rfl) (hgT : C.sc.names.lookup T = some .globalImplicit := by rfl) (hgU : C.sc.names.lookup U = some .globalImplicit := by rfl) (hn : T ≠ "__name__" := by decide) (hdT : (T == ("__debug__" : Str)) = false := by decide)
    (hnU : U ≠ "__name__" := by decide) (hdU : (U == ("__debug__" : Str)) = false := by decide)
    (he : ∀ env, starEach (e :: [.Tuple [.Name T tp, .Name U up] kk ttp]) env = (false, eval e env) :: starEach [.Tuple [.Name T tp, .Name U up] kk ttp] env := by intro _; rfl) : EV C (.Call (.Name "isinstance" p) [e, .Tuple [.Name T tp, .Name U up] kk ttp] [] pos) ρ k Ξ := by
  intro X hx W tk σ F H fp s xx
  refine w_e (pe_callB call_isiT (hx.gl hg) (by rw [hx.mg]; exact hm) (by decide +kernel) (pa_cons pe_w (pa_cons (pe_tup (pa_cons (pe_bltn (hx.gl hgT) (by rw [hx.mg]; exact hmT) hT (v := .ty T') rfl hn hdT) (pa_cons (pe_bltn (hx.gl hgU) (by rw [hx.mg]; exact hmU) hU (v := .ty U') rfl hnU hdU) pa_nil (by rfl)) (by rfl))) pa_nil (by rfl)) (he _)) (by decide) (by decide) (he _) (by rfl)) ?_
  refine (EV.d (k := fun d ρ' => d.ex = false ∧ k (.fz (.bl (isiD d T' || isiD d U'))) ρ') h hx tk s xx).mono fun v H1 ⟨d, ρ1, F1, fp1, ⟨hex, q⟩, s1, a1, m1⟩ => ?_
  refine ⟨by show 2 ≤ sizeLine; decide, fun t ht => ?_⟩
  have ft : F1 t = none := s1.ex.free ht
  refine ⟨v, t, _, _, _, isiD d T' || isiD d U', rfl, upd_same, .cons (.ty T') (.cons (.ty U') .nil), (by rw [hx.K]; exact (a1.mono (Ex.new ft)).ty (s1.newF ht (.tup [.ty T', .ty U'])).ex hex), ?_, ?_⟩
  · refine kitAny_cons (kit_isi d hex hok) (fun e1 => kitAny_cons (kit_isi d hex hokU) (fun e2 => ?_) fun e2 => by rw [e2]; simp) fun e1 => by rw [e1]; rfl
    rw [e1, e2]
    exact kitAny_nil
  · exact VP.along (m1.trans (Mv.newF ht ft _)) (fin_d (s1.newF ht _) (.bl _) q)

/-! ### methods of texts -/
inductive MS : String → Str → List D → RV → Prop where
  | join {a : Str} {ys : List Str} : (ys.map (·.length)).sum + ys.length * a.length ≤ 16777216 → MS "str.join" a [.lst (ys.map .str)] (.d (.str (Txt.join a ys)))
  | joinT {a : Str} {ys : List Str} : (ys.map (·.length)).sum + ys.length * a.length ≤ 16777216 → MS "str.join" a [.tup (ys.map .str)] (.d (.str (Txt.join a ys)))
  | split {a b : Str} : (b.length == 0) = false → a.length + 2 ≤ sizeLine → MS "str.split" a [.str b] (.l ((Txt.split a b).map .str))
  | partition {a b : Str} : (b.length == 0) = false → a.length ≤ sizeLine → MS "str.partition" a [.str b] (.d (.tup [.str (Txt.partition a b).1, .str (Txt.partition a b).2.1, .str (Txt.partition a b).2.2]))
theorem MS.sound {a : Str} (h : MS id a ds z) (hx : XIs C X) (m : Mv A0 F0 H0 (own fp) F H) (s : SR C.G.K F H σ ρ fp) (b : AtL C.G.K F vs ds) (q : k z.o ρ) : uMt X id (.str a) vs H (VP C.G.K σ A0 F0 H0 k) := by
  cases h with
  | join c =>
    obtain ⟨v, rfl, b'⟩ := b.one
    cases b' with
    | lst hh t =>
      have e := t.strs
      subst e
      exact ⟨_, mt_join, _, _, _, rfl, rfl, .inl (.inl (.inl (s.ex _ _ hh))), c, fdm m s (.str _) q⟩
  | joinT c =>
    obtain ⟨v, rfl, b'⟩ := b.one
    cases b' with
    | tup hh t =>
      have e := t.strs
      subst e
      exact ⟨_, mt_join, _, _, _, rfl, rfl, .inr (by rw [hx.K]; exact s.ex.t hh), c, fdm m s (.str _) q⟩
  | split c1 c2 =>
    obtain ⟨v, rfl, b'⟩ := b.one
    cases b'
    exact ⟨_, mt_split, _, _, rfl, rfl, c1, c2, fun p hp => flm m s (AtL.of_strs _) hp q⟩
  | partition c1 c2 =>
    obtain ⟨v, rfl, b'⟩ := b.one
    cases b'
    exact ⟨_, mt_partition, _, _, rfl, rfl, c1, c2, fun p hp => ftm m s (.cons (.str _) (.cons (.str _) (.cons (.str _) .nil))) hp q⟩
theorem ev_ms {o : Expr} {name : Str} {apos cpos : Pos} (slot : Slot "str" name id) (hty : typeOf (.builtin id) = pure (.type "method_descriptor"))
    (h : EV C o ρ (fun r ρ1 => ∃ a, r.frz = .str a ∧ EVs C (e :: es) ρ1 (fun ds ρ' => ∃ z, MS id a ds z ∧ k z.o ρ') Ξ) Ξ) (hbase : ∀ env, attributeBase o name env (eval o env) = eval o env := by intro _; rfl)
    (hfew : ∀ env, ((backTo cpos (starEach (e :: es) env)).all (fun x => !x.1) && (backToKw cpos (keywordEach [] env)).all (fun x => x.1.isSome) && decide ((e :: es).length + ([] : List Keyword).length + (if ([] : List Keyword).isEmpty then 0 else 1) < 30)) = true := by intro _; rfl)
    (hline : (apos.endLine == cpos.line) = true := by rfl) (he : ∀ env, starEach (e :: es) env = (false, eval e env) :: starEach es env := by intro _; rfl) (hpl : ∀ env, (backTo cpos (starEach es env)).any (·.1) = false := by intro _; rfl) : EV C (.Call (.Attribute o name apos) (e :: es) [] cpos) ρ k Ξ := by
  intro X hx W tk σ F H fp s xx
  refine w_e (pe_bm PySem.F.plainAttrs_str slot hty mt_u pe_w pa_w (hbase _) (hfew _) hline (he _) (hpl _)) ?_
  refine (EV.d (k := fun d ρ1 => ∃ a, d = .str a ∧ EVs C (e :: es) ρ1 (fun ds ρ' => ∃ z, MS id a ds z ∧ k z.o ρ') Ξ) h hx tk s xx).mono fun v H1 ⟨d, ρ1, F1, fp1, ⟨a, ea, h1⟩, s1, a1, m1⟩ => ?_
  subst ea
  cases a1
  refine ⟨rfl, (h1 X hx W tk σ F1 H1 fp1 s1 (xx.along m1)).mono fun vs H2 ⟨ds, ρ2, F2, fp2, ⟨z, hz, q⟩, s2, a2, m2⟩ => ?_⟩
  exact hz.sound hx (m1.trans m2) s2 a2 q
end
end Fr

set_option Elab.async false
set_option linter.all false
set_option maxRecDepth 100000
set_option maxHeartbeats 2000000
/-! Fr6: statements, targets, loops, comprehensions. -/
namespace Fr
open PySem PySem.Spec PyProof.Rows L2

def wipeR (ρ : Rho) : List Nat → Rho
  | [] => ρ
  | v :: vs => (wipeR ρ vs).set v none
def wipeF (fp : Nat → List Addr) (vs : List Nat) : Nat → List Addr := fun j => if j ∈ vs then [] else fp j
theorem wipeR_length (ρ : Rho) : ∀ vs : List Nat, (wipeR ρ vs).length = ρ.length
  | [] => rfl
  | v :: vs => by unfold wipeR; rw [List.length_set, wipeR_length ρ vs]
theorem wipeR_some {ρ : Rho} {i : Nat} {o : O} : ∀ {vs : List Nat}, (wipeR ρ vs)[i]? = some (some o) → ρ[i]? = some (some o) ∧ i ∉ vs
  | [], h => ⟨h, by simp⟩
  | v :: vs, h => by
    unfold wipeR at h
    rcases set_get h with ⟨_, z⟩ | ⟨hn, z⟩
    · cases z
    · obtain ⟨h1, h2⟩ := wipeR_some z
      exact ⟨h1, by simp only [List.mem_cons, not_or]; exact ⟨fun e => hn e.symm, h2⟩⟩
theorem wipeR_out {ρ : Rho} {i : Nat} : ∀ {vs : List Nat}, i ∉ vs → (wipeR ρ vs)[i]? = ρ[i]?
  | [], _ => rfl
  | v :: vs, h => by
    simp only [List.mem_cons, not_or] at h
    unfold wipeR
    rw [List.getElem?_set_ne (Ne.symm h.1), wipeR_out h.2]
theorem wipe_in {σ : L2.St} {i : Nat} : ∀ {vs : List Nat}, i ∈ vs → i < σ.length → (wipe σ vs)[i]? = some none
  | [], h, _ => by cases h
  | v :: vs, h, hl => by
    unfold wipe
    by_cases e : v = i
    · subst e
      rw [List.getElem?_set_self (by rw [wipe_length]; exact hl)]
    · rw [List.getElem?_set_ne e]
      rcases List.mem_cons.mp h with z | z
      · exact absurd z.symm e
      · exact wipe_in z hl
theorem wipe_congr {σ σ' : L2.St} {vs : List Nat} (hl : σ'.length = σ.length) (h : ∀ i, i ∉ vs → σ'[i]? = σ[i]?) : wipe σ' vs = wipe σ vs := by
  apply List.ext_getElem?
  intro i
  by_cases hi : i ∈ vs
  · by_cases hb : i < σ.length
    · rw [wipe_in hi hb, wipe_in hi (by rw [hl]; exact hb)]
    · rw [List.getElem?_eq_none (by rw [wipe_length, hl]; omega), List.getElem?_eq_none (by rw [wipe_length]; omega)]
  · rw [wipe_out hi, wipe_out hi]
    exact h i hi
theorem own_wipeF {fp : Nat → List Addr} {vs : List Nat} {q : Addr} (h : own (wipeF fp vs) q) : own fp q := by
  obtain ⟨j, hj⟩ := h
  unfold wipeF at hj
  by_cases e : j ∈ vs
  · rw [if_pos e] at hj; cases hj
  · rw [if_neg e] at hj; exact ⟨j, hj⟩
theorem SR.wiped {K : PySem.W.Frag} {F H : Hp} {σ σ' : L2.St} {ρ : Rho} {fp : Nat → List Addr} (s : SR K F H σ ρ fp) {vs : List Nat} (hl : σ'.length = σ.length) (he : ∀ i, i ∉ vs → σ'[i]? = σ[i]?) : SR K F H σ' (wipeR ρ vs) (wipeF fp vs) := by
  refine ⟨by rw [wipeR_length, hl]; exact s.len, s.ex, fun i o h => ?_, fun i h => ?_, fun a b hab q hq hq' => ?_⟩
  · obtain ⟨h1, h2⟩ := wipeR_some h
    obtain ⟨v, e, r⟩ := s.slot i o h1
    refine ⟨v, by rw [he i h2]; exact e, ?_⟩
    unfold wipeF
    rw [if_neg h2]
    exact r
  · unfold wipeF
    by_cases e : i ∈ vs
    · rw [if_pos e]
    · rw [if_neg e]
      refine s.nil i fun o z => h o ?_
      rw [wipeR_out e]
      exact z
  · unfold wipeF at hq hq'
    by_cases e : a ∈ vs
    · rw [if_pos e] at hq; cases hq
    · rw [if_neg e] at hq
      by_cases e' : b ∈ vs
      · rw [if_pos e'] at hq'; cases hq'
      · rw [if_neg e'] at hq'
        exact s.dis a b hab q hq hq'
inductive Fl where
  | nx | ret (o : O) | brk | cont | exc (c : Exc)
def Pin (P : List Nat) (σ σ' : L2.St) : Prop := ∀ j ∈ P, σ'[j]? = σ[j]?
theorem Pin.refl {P : List Nat} {σ : L2.St} : Pin P σ σ := fun _ _ => rfl
theorem Pin.trans {P : List Nat} {σ σ1 σ2 : L2.St} (a : Pin P σ σ1) (b : Pin P σ1 σ2) : Pin P σ σ2 := fun j h => (b j h).trans (a j h)
structure DK (C : Ctx) (P : List Nat) (W : WX) (D : Ends) (Φ : Fl → Rho → Prop) (σ : L2.St) (A : Addr → Prop) (F H : Hp) : Prop where
  exc : ∀ c ρ' σ' F' H' fp' cls d, Φ (.exc c) ρ' → SR C.G.K F' H' σ' ρ' fp' → Pin P σ σ' → XR C.G c cls d F' H' → Mv A F H (own fp') F' H' → W cls d σ' H'
  nx : ∀ ρ' σ' F' H' fp', Φ .nx ρ' → SR C.G.K F' H' σ' ρ' fp' → Pin P σ σ' → Mv A F H (own fp') F' H' → D.nx σ' H'
  bk : ∀ ρ' σ' F' H' fp', Φ .brk ρ' → SR C.G.K F' H' σ' ρ' fp' → Pin P σ σ' → Mv A F H (own fp') F' H' → D.bk σ' H'
  ct : ∀ ρ' σ' F' H' fp', Φ .cont ρ' → SR C.G.K F' H' σ' ρ' fp' → Pin P σ σ' → Mv A F H (own fp') F' H' → D.ct σ' H'
  rt : ∀ o ρ' σ' v F' H' fp' S, Φ (.ret o) ρ' → SR C.G.K F' H' σ' ρ' fp' → Pin P σ σ' → Rep C.G.K F' H' v o S → (∀ q ∈ S, ¬ own fp' q) → Mv A F H (fun q => own fp' q ∨ q ∈ S) F' H' → D.rt v H'
def SV (C : Ctx) (P : List Nat) (sts : List Stmt) (ρ : Rho) (Φ : Fl → Rho → Prop) : Prop :=
  ∀ X, XIs C X → ∀ W, Takes X W → PassesOwn (model X.prog X.w) X.A X.env X.xe → ∀ σ F H fp D, SR C.G.K F H σ ρ fp → DK C P W D Φ σ (own fp) F H → wSs X sts D σ H
def S1 (C : Ctx) (P : List Nat) (st : Stmt) (ρ : Rho) (Φ : Fl → Rho → Prop) : Prop :=
  ∀ X, XIs C X → ∀ W, Takes X W → PassesOwn (model X.prog X.w) X.A X.env X.xe → ∀ σ F H fp D, SR C.G.K F H σ ρ fp → DK C P W D Φ σ (own fp) F H → wS X st D σ H
section
variable {C : Ctx} {P : List Nat} {W : WX} {Dn : Ends} {Φ : Fl → Rho → Prop} {σ σ1 : L2.St} {A B : Addr → Prop} {F H F1 H1 : Hp} {ρ : Rho} {e c : Expr} {st : Stmt} {rest body orelse : List Stmt} {pos : Pos}
theorem DK.along (k : DK C P W Dn Φ σ A F H) (p : Pin P σ σ1) (m : Mv A F H B F1 H1) : DK C P W Dn Φ σ1 B F1 H1 :=
  ⟨fun c ρ' σ' F' H' fp' cls d h s p' x m' => k.exc c ρ' σ' F' H' fp' cls d h s (p.trans p') x (m.trans m'), fun ρ' σ' F' H' fp' h s p' m' => k.nx ρ' σ' F' H' fp' h s (p.trans p') (m.trans m'),
    fun ρ' σ' F' H' fp' h s p' m' => k.bk ρ' σ' F' H' fp' h s (p.trans p') (m.trans m'), fun ρ' σ' F' H' fp' h s p' m' => k.ct ρ' σ' F' H' fp' h s (p.trans p') (m.trans m'),
    fun o ρ' σ' v F' H' fp' S h s p' r d m' => k.rt o ρ' σ' v F' H' fp' S h s (p.trans p') r d (m.trans m')⟩
theorem DK.xp (k : DK C P W Dn Φ σ A F H) : XP C.G W σ A F H (fun c ρ => Φ (.exc c) ρ) := fun c ρ' F' H' fp' cls d h s x m => k.exc c ρ' σ F' H' fp' cls d h s .refl x m
theorem DK.less {A' : Addr → Prop} (k : DK C P W Dn Φ σ A F H) (h : ∀ q, A' q → A q) : DK C P W Dn Φ σ A' F H := k.along .refl (Mv.refl.less h)
/-- what follows a statement of a block -/
def thn' (n : Rho → Prop) (Φ : Fl → Rho → Prop) : Fl → Rho → Prop
  | .nx, ρ => n ρ
  | fl, ρ => Φ fl ρ
theorem sq_nx {n : Rho → Prop} (h : n ρ) : thn' n Φ .nx ρ := h
theorem sq_ret {n : Rho → Prop} {o : O} (h : Φ (.ret o) ρ) : thn' n Φ (.ret o) ρ := h
theorem sq_exc {n : Rho → Prop} {c : Exc} (h : Φ (.exc c) ρ) : thn' n Φ (.exc c) ρ := h
theorem sq_brk {n : Rho → Prop} (h : Φ .brk ρ) : thn' n Φ .brk ρ := h
theorem sq_cont {n : Rho → Prop} (h : Φ .cont ρ) : thn' n Φ .cont ρ := h
theorem sv_nil (h : Φ .nx ρ) : SV C P [] ρ Φ := fun X _ _ _ _ σ F H fp D s k => w_ss pss_nil (k.nx ρ σ F H fp h s .refl .refl)
theorem sv_cons (h : S1 C P st ρ (thn' (fun ρ' => SV C P rest ρ' Φ) Φ)) : SV C P (st :: rest) ρ Φ := by
  intro X hx W tk po σ F H fp D s k
  refine w_ss (pss_cons ps_w pss_w) (h X hx W tk po σ F H fp _ s ⟨fun c => k.exc c, fun ρ' σ' F' H' fp' q s' p' m' => ?_, fun ρ' => k.bk ρ', fun ρ' => k.ct ρ', fun o => k.rt o⟩)
  exact q X hx W tk po σ' F' H' fp' D s' (k.along p' m')
theorem sv_one (h : S1 C P st ρ Φ) : SV C P [st] ρ Φ := by
  intro X hx W tk po σ F H fp D s k
  exact w_ss (pss_one ps_w) (h X hx W tk po σ F H fp D s k)
theorem s_expr (h : EV C e ρ (fun _ ρ1 => Φ .nx ρ1) (fun c ρ1 => Φ (.exc c) ρ1)) (hs : ∀ env, swapsWith e none pos.line env = pure false := by intro _; rfl) : S1 C P (.Expr e pos) ρ Φ := by
  intro X hx W tk po σ F H fp D s k
  refine w_s (ps_expr pe_w (hs _)) ((h X hx W tk σ F H fp s k.xp).mono fun v H1 ⟨o, ρ1, F1, fp1, S, q, s1, r, d, m⟩ => ?_)
  exact k.nx ρ1 σ F1 H1 fp1 q s1 .refl (m.less fun _ z => .inl z)
theorem s_ret (h : EV C e ρ (fun o ρ1 => Φ (.ret o) ρ1) (fun c ρ1 => Φ (.exc c) ρ1)) : S1 C P (.Return (some e) pos) ρ Φ := by
  intro X hx W tk po σ F H fp D s k
  refine w_s (ps_ret pe_w) ((h X hx W tk σ F H fp s k.xp).mono fun v H1 ⟨o, ρ1, F1, fp1, S, q, s1, r, d, m⟩ => ?_)
  exact k.rt o ρ1 σ v F1 H1 fp1 S q s1 .refl r d m
theorem s_retN (h : Φ (.ret (.fz .non)) ρ) : S1 C P (.Return none pos) ρ Φ := fun X hx W tk po σ F H fp D s k => w_s ps_retN (k.rt _ ρ σ .non F H fp [] h s .refl (.fz .non) (fun _ z => (by cases z)) (Mv.refl.less fun _ z => z.elim id fun z => (by cases z)))
theorem s_pass (h : Φ .nx ρ) : S1 C P (.Pass pos) ρ Φ := fun X hx W tk po σ F H fp D s k => w_s ps_pass (k.nx ρ σ F H fp h s .refl .refl)
theorem s_brk (h : Φ .brk ρ) : S1 C P (.Break pos) ρ Φ := fun X hx W tk po σ F H fp D s k => w_s ps_break (k.bk ρ σ F H fp h s .refl .refl)
theorem s_cont (h : Φ .cont ρ) : S1 C P (.Continue pos) ρ Φ := fun X hx W tk po σ F H fp D s k => w_s ps_continue (k.ct ρ σ F H fp h s .refl .refl)
theorem s_if (h : ET C c ρ (fun b ρ1 => (b = true → SV C P body ρ1 Φ) ∧ (b = false → SV C P orelse ρ1 Φ)) (fun c ρ1 => Φ (.exc c) ρ1)) : S1 C P (.If c body orelse pos) ρ Φ := by
  intro X hx W tk po σ F H fp D s k
  refine w_s (ps_if pt_w pss_w pss_w) ((h X hx W tk σ F H fp s k.xp).mono fun b H1 ⟨ρ1, F1, fp1, ⟨h1, h2⟩, s1, m1⟩ => ?_)
  cases b with
  | true =>
    rw [if_pos rfl]
    exact h1 rfl X hx W tk po σ F1 H1 fp1 D s1 (k.along .refl m1)
  | false => exact h2 rfl X hx W tk po σ F1 H1 fp1 D s1 (k.along .refl m1)
/-- a statement that is known to be left by what follows it alone -/
theorem SV.mono {Φ' : Fl → Rho → Prop} (h : SV C P body ρ Φ) (hk : ∀ fl ρ, Φ fl ρ → Φ' fl ρ) : SV C P body ρ Φ' := fun X hx W tk po σ F H fp D s k =>
  h X hx W tk po σ F H fp D s ⟨fun c ρ' σ' F' H' fp' cls d q => k.exc c ρ' σ' F' H' fp' cls d (hk _ _ q), fun ρ' σ' F' H' fp' q => k.nx ρ' σ' F' H' fp' (hk _ _ q), fun ρ' σ' F' H' fp' q => k.bk ρ' σ' F' H' fp' (hk _ _ q),
    fun ρ' σ' F' H' fp' q => k.ct ρ' σ' F' H' fp' (hk _ _ q), fun o ρ' σ' v F' H' fp' S q => k.rt o ρ' σ' v F' H' fp' S (hk _ _ q)⟩
theorem S1.mono {Φ' : Fl → Rho → Prop} (h : S1 C P st ρ Φ) (hk : ∀ fl ρ, Φ fl ρ → Φ' fl ρ) : S1 C P st ρ Φ' := fun X hx W tk po σ F H fp D s k =>
  h X hx W tk po σ F H fp D s ⟨fun c ρ' σ' F' H' fp' cls d q => k.exc c ρ' σ' F' H' fp' cls d (hk _ _ q), fun ρ' σ' F' H' fp' q => k.nx ρ' σ' F' H' fp' (hk _ _ q), fun ρ' σ' F' H' fp' q => k.bk ρ' σ' F' H' fp' (hk _ _ q),
    fun ρ' σ' F' H' fp' q => k.ct ρ' σ' F' H' fp' (hk _ _ q), fun o ρ' σ' v F' H' fp' S q => k.rt o ρ' σ' v F' H' fp' S (hk _ _ q)⟩

/-! ### targets -/
theorem SR.store {K : PySem.W.Frag} {fp : Nat → List Addr} {v : V} {o : O} {S : List Addr} (s : SR K F H σ ρ fp) (r : Rep K F H v o S) (d : ∀ q ∈ S, ¬ own fp q) (i : Nat) :
    ∃ fp', SR K F H (σ.set i (some v)) (ρ.set i (some o)) fp' ∧ ∀ q, own fp' q → own fp q ∨ q ∈ S := by
  by_cases hi : i < ρ.length
  · exact ⟨wi fp i S, s.put r d hi (by rw [List.length_set]) (by rw [List.getElem?_set_self (by rw [← s.len]; exact hi)]) (fun j hj => by rw [List.getElem?_set_ne (Ne.symm hj)]), fun q h => own_wi h⟩
  · refine ⟨fp, ?_, fun q h => .inl h⟩
    have hl := s.len
    rw [List.set_eq_of_length_le (Nat.le_of_not_lt (by rw [← hl]; exact hi)), List.set_eq_of_length_le (Nat.le_of_not_lt hi)]
    exact s
theorem XIs.loc {X : Cx} (hx : XIs C X) {x : Str} (hl : Loc C.sc x) : Loc X.env.scope x := by rw [hx.sc]; exact hl
theorem XIs.sto {X : Cx} (hx : XIs C X) {x : Str} (h : C.top = true ∨ C.sc.names.lookup x = some .local) : X.fn x = true ∨ X.env.scope.names.lookup x = some .local := by
  rcases h with h | h
  · exact .inl (hx.fn h x)
  · exact .inr (by rw [hx.sc]; exact h)
theorem s_set {i : Nat} {x : Str} {p : Pos} (h : EV C e ρ (fun o ρ1 => Φ .nx (ρ1.set i (some o))) (fun c ρ1 => Φ (.exc c) ρ1)) (hP : i ∉ P := by decide) (hN : C.N[i]? = some x := by rfl) (hl : Loc C.sc x := by first | exact .inl rfl | exact .inr rfl)
    (hst : C.top = true ∨ C.sc.names.lookup x = some .local := by first | exact .inl rfl | exact .inr rfl)
    (hs : ∀ env : Env, env.scope = C.sc → swapsWith e (some (.Name x p)) pos.line env = pure false := by intro _ _; rfl) : S1 C P (.Assign [.Name x p] e pos) ρ Φ := by
  intro X hx W tk po σ F H fp D s k
  refine w_s (ps_set hx.nd (by rw [hx.N]; exact hN) (hx.loc hl) pe_w (hs _ hx.sc) (hx.sto hst)) ((h X hx W tk σ F H fp s k.xp).mono fun v H1 ⟨o, ρ1, F1, fp1, S, q, s1, r, d, m⟩ => ?_)
  obtain ⟨fp2, s2, m2⟩ := s1.store r d i
  refine k.nx _ _ F1 H1 fp2 q s2 (fun j hj => ?_) (m.less m2)
  rw [List.getElem?_set_ne (fun z => hP (by rw [z]; exact hj))]
/-- an assignment to a target of any form -/
def TGt (C : Ctx) (tg : Expr) (sl : List Nat) (d : D) (ρ : Rho) (k : Rho → Prop) : Prop :=
  ∀ X, XIs C X → C.su = none → ∀ σ F H fp v, SR C.G.K F H σ ρ fp → At C.G.K F v d → wG X tg v σ H (fun σ' H' => H' = H ∧ ∃ ρ' fp', k ρ' ∧ SR C.G.K F H σ' ρ' fp' ∧ (∀ q, own fp' q → own fp q) ∧ σ'.length = σ.length ∧ ∀ j, j ∉ sl → σ'[j]? = σ[j]?)
def wGs (X : Cx) (ts : List Expr) : TGs := fun vs σ H Q => ∀ pins s us, Inv X pins σ H s → Vals vs us → wpAny (model X.prog X.w) X.A (assignInOrder ((assignEach ts X.env).map (·.2)) us) (fun _ s' => ∃ σ' H', Inv X pins σ' H' s' ∧ Q σ' H') X.xe s
theorem pgs_w {X : Cx} {ts : List Expr} : PGs X ts (wGs X ts) := ⟨fun pins s _ _ _ us _ I r h => h pins s us I r⟩
theorem w_gs {X : Cx} {ts : List Expr} {t : TGs} (p : PGs X ts t) {vs σ H Q} (h : t vs σ H Q) : wGs X ts vs σ H Q := fun pins s us I r => p.run pins s σ H vs us Q I r h
theorem wG.mono {X : Cx} {tg : Expr} {v σ H} {Q Q' : L2.St → Hp → Prop} (h : wG X tg v σ H Q) (k : ∀ σ H, Q σ H → Q' σ H) : wG X tg v σ H Q' := fun pins s u I r =>
  thn (h pins s u I r) fun _ _ ⟨σ', H', I', q⟩ => ⟨σ', H', I', k _ _ q⟩
theorem wGs.mono {X : Cx} {ts : List Expr} {v σ H} {Q Q' : L2.St → Hp → Prop} (h : wGs X ts v σ H Q) (k : ∀ σ H, Q σ H → Q' σ H) : wGs X ts v σ H Q' := fun pins s u I r =>
  thn (h pins s u I r) fun _ _ ⟨σ', H', I', q⟩ => ⟨σ', H', I', k _ _ q⟩
def TGs' (C : Ctx) (ts : List Expr) (sl : List Nat) (ds : List D) (ρ : Rho) (k : Rho → Prop) : Prop :=
  ∀ X, XIs C X → C.su = none → ∀ σ F H fp vs, SR C.G.K F H σ ρ fp → AtL C.G.K F vs ds → wGs X ts vs σ H (fun σ' H' => H' = H ∧ ∃ ρ' fp', k ρ' ∧ SR C.G.K F H σ' ρ' fp' ∧ (∀ q, own fp' q → own fp q) ∧ σ'.length = σ.length ∧ ∀ j, j ∉ sl → σ'[j]? = σ[j]?)
theorem tg_name {i : Nat} {x : Str} {p : Pos} {d : D} {k : Rho → Prop} (q : k (ρ.set i (some (.fz d)))) (hN : C.N[i]? = some x := by rfl) (hl : Loc C.sc x := by first | exact .inl rfl | exact .inr rfl)
    (hst : C.top = true ∨ C.sc.names.lookup x = some .local := by first | exact .inl rfl | exact .inr rfl) : TGt C (.Name x p) [i] d ρ k := by
  intro X hx hsu σ F H fp v s a
  refine w_g (pg_name hx.nd (by rw [hx.N]; exact hN) (hx.loc hl) (hx.sto hst)) ?_
  obtain ⟨fp2, s2, m2⟩ := s.store (S := []) (.fz a) (fun _ z => by cases z) i
  refine ⟨rfl, _, fp2, q, s2, fun q hq => (m2 q hq).elim id fun z => (by cases z), List.length_set, fun j hj => ?_⟩
  rw [List.getElem?_set_ne (fun z => hj (by simp [z]))]
theorem tgs_nil {k : Rho → Prop} (q : k ρ) : TGs' C [] [] [] ρ k := by
  intro X hx hsu σ F H fp vs s a
  cases a
  exact w_gs pgs_nil ⟨rfl, rfl, ρ, fp, q, s, fun _ h => h, rfl, fun _ _ => rfl⟩
theorem tgs_cons {t : Expr} {ts : List Expr} {sl sl' : List Nat} {d : D} {ds : List D} {k : Rho → Prop} (h : TGt C t sl d ρ (fun ρ1 => TGs' C ts sl' ds ρ1 k))
    (hs : ∀ env, (assignEach (t :: ts) env).map (·.2) = assign t env :: (assignEach ts env).map (·.2) := by intro _; rfl) : TGs' C (t :: ts) (sl ++ sl') (d :: ds) ρ k := by
  intro X hx hsu σ F H fp vs s a
  cases a with
  | cons a1 a2 =>
    refine w_gs (pgs_cons pg_w pgs_w (hs _)) ⟨_, _, rfl, (h X hx hsu σ F H fp _ s a1).mono fun σ1 H1 ⟨e, ρ1, fp1, q, s1, m1, l1, n1⟩ => ?_⟩
    subst e
    refine wGs.mono (q X hx hsu σ1 F H1 fp1 _ s1 a2) fun σ2 H2 ⟨e, ρ2, fp2, q2, s2, m2, l2, n2⟩ => ?_
    subst e
    exact ⟨rfl, ρ2, fp2, q2, s2, fun q h => m1 q (m2 q h), l2.trans l1, fun j hj => by
      simp only [List.mem_append, not_or] at hj
      exact (n2 j hj.2).trans (n1 j hj.1)⟩
theorem tg_tup {es : List Expr} {n : Nat} {p : Pos} {sl : List Nat} {ds : List D} {k : Rho → Prop} (h : TGs' C es sl ds ρ k) (hn : ∀ env, (assignEach es env).length = ds.length := by intro _; rfl)
    (hst : ∀ env, (assignEach es env).findIdx? (·.1) = none := by intro _; rfl) : TGt C (.Tuple es n p) sl (.tup ds) ρ k := by
  intro X hx hsu σ F H fp v s a
  cases a with
  | tup hh t =>
    refine w_g (pg_tup (hx.calm hsu) pgs_w rfl (hst _)) ⟨_, _, rfl, (by rw [hx.K]; exact s.ex.t hh), by rw [hn]; exact t.length, ?_⟩
    exact h X hx hsu σ F H fp _ s t
theorem s_asg {tg : Expr} {sl : List Nat} (h : EV C e ρ (fun o ρ1 => TGt C tg sl o.frz ρ1 (fun ρ2 => Φ .nx ρ2)) (fun c ρ1 => Φ (.exc c) ρ1)) (hP : ∀ j ∈ sl, j ∉ P := by decide) (hsu : C.su = none := by rfl)
    (hs : ∀ env : Env, env.scope = C.sc → swapsWithSole [tg] e pos.line env = pure false := by intro _ _; rfl) (hw : ∀ env : Env, env.scope = C.sc → swappedStores [tg] e env = pure none := by intro _ _; rfl)
    (h1 : ∀ env, (assignEach [tg] env).map (·.2) = [assign tg env] := by intro _; rfl) : S1 C P (.Assign [tg] e pos) ρ Φ := by
  intro X hx W tk po σ F H fp D s k
  refine w_s (ps_asg pe_w pg_w (hs _ hx.sc) (hw _ hx.sc) (h1 _)) ((EV.d (k := fun d ρ1 => TGt C tg sl d ρ1 (fun ρ2 => Φ .nx ρ2)) h hx tk s k.xp).mono fun v H1 ⟨d, ρ1, F1, fp1, q, s1, a1, m1⟩ => ?_)
  refine (q X hx hsu σ F1 H1 fp1 v s1 a1).mono fun σ2 H2 ⟨e, ρ2, fp2, q2, s2, m2, l2, n2⟩ => ?_
  subst e
  exact k.nx ρ2 σ2 F1 H2 fp2 q2 s2 (fun j hj => n2 j fun z => hP j z hj) (m1.less m2)

/-! ### what is walked -/
def Gw (F H F' H' : Hp) : Prop := Ex F F' ∧ Ex F' H' ∧ ∀ q o, H q = some o → H' q = some o ∧ F' q = F q
theorem Gw.mv {F H F' H' : Hp} (g : Gw F H F' H') {A : Addr → Prop} : Mv A F H A F' H' := ⟨g.1, fun q o h _ => g.2.2 q o h, fun _ h => .inl h⟩
theorem Gw.sr {K : PySem.W.Frag} {F H F' H' : Hp} {σ : L2.St} {fp : Nat → List Addr} (g : Gw F H F' H') (s : SR K F H σ ρ fp) : SR K F' H' σ ρ fp :=
  s.mono g.1 g.2.1 (fun q hq => by
    obtain ⟨h1, u, h2⟩ := s.owned hq
    rw [(g.2.2 q u h2).2]; exact h1) fun q hq => by
    obtain ⟨h1, u, h2⟩ := s.owned hq
    rw [h2]; exact (g.2.2 q u h2).1
theorem Gw.refl {F H : Hp} (e : Ex F H) : Gw F H F H := ⟨Ex.refl F, e, fun _ _ h => ⟨h, rfl⟩⟩
theorem Gw.new {F H : Hp} (e : Ex F H) {p : Addr} (hp : H p = none) (o : HO) : Gw F H (upd F p o) (upd H p o) := by
  refine ⟨Ex.new (e.free hp), fun a u h => ?_, fun q u h => ?_⟩
  · by_cases z : a = p
    · subst z
      rw [upd_same] at h ⊢
      exact h
    · rw [upd_ne z] at h ⊢
      exact e a u h
  · have z : q ≠ p := ne_of_none h hp
    exact ⟨by rw [upd_ne z]; exact h, upd_ne z⟩
/-- the items ds are walked, whatever is new meanwhile -/
def ItOk (K : PySem.W.Frag) (J : It) (ds : List D) (F1 : Hp) : Prop := ∀ (i : Nat) F' H', Ex F1 F' → Ex F' H' →
  (∀ d, ds[i]? = some d → J.go i H' ∧ ∀ x H'', J.yld i H' x H'' → ∃ F'', At K F'' x d ∧ Gw F' H' F'' H'') ∧ (ds.length ≤ i → J.stop i H')
def EI (C : Ctx) (tg iter : Expr) (ρ : Rho) (k : List D → Rho → Prop) (Ξ : Exc → Rho → Prop) : Prop :=
  ∀ X, XIs C X → ∀ W, Takes X W → ∀ σ F H fp, SR C.G.K F H σ ρ fp → XP C.G W σ (own fp) F H Ξ → wI X tg iter σ H (fun J H1 => ∃ ds ρ1 F1 fp1, k ds ρ1 ∧ SR C.G.K F1 H1 σ ρ1 fp1 ∧ Mv (own fp) F H (own fp1) F1 H1 ∧ ItOk C.G.K J ds F1)
section
variable {Ξ : Exc → Rho → Prop} {tg : Expr} {k : List D → Rho → Prop}
theorem it_list {K : PySem.W.Frag} {p : Addr} {vs : List V} {ds : List D} {F1 : Hp} (h : F1 p = some (.lst vs)) (t : AtL K F1 vs ds) : ItOk K (Itl K p) ds F1 := by
  intro i F' H' e1 e2
  have hh : SqL K H' p vs := .inl (.inl (e2 _ _ (e1 _ _ h)))
  refine ⟨fun d hd => ?_, fun hi => ⟨vs, hh, by rw [t.length]; exact hi⟩⟩
  obtain ⟨v, ev, av⟩ := t.get hd
  refine ⟨⟨vs, v, hh, ev⟩, fun x H'' ⟨eh, y⟩ => ?_⟩
  subst eh
  have ex := y vs hh
  rw [ev] at ex
  cases ex
  exact ⟨F', av.mono e1, Gw.refl e2⟩
theorem it_tup {K : PySem.W.Frag} {p : Addr} {vs : List V} {ds : List D} {F1 : Hp} (h : SqT K F1 p vs) (t : AtL K F1 vs ds) : ItOk K (Itt K p) ds F1 := by
  intro i F' H' e1 e2
  have hh : SqT K H' p vs := e2.t (e1.t h)
  refine ⟨fun d hd => ?_, fun hi => ⟨vs, hh, by rw [t.length]; exact hi⟩⟩
  obtain ⟨v, ev, av⟩ := t.get hd
  refine ⟨⟨vs, v, hh, ev⟩, fun x H'' ⟨eh, y⟩ => ?_⟩
  subst eh
  have ex := y vs hh
  rw [ev] at ex
  cases ex
  exact ⟨F', av.mono e1, Gw.refl e2⟩
/-- a list | a tuple | a text | a range | pairs -/
theorem ei_lst (h : EV C e ρ (fun o ρ1 => ∃ ds, o.frz = .lst ds ∧ k ds ρ1) Ξ) : EI C tg e ρ k Ξ := by
  intro X hx W tk σ F H fp s x
  refine w_i (pi_list pe_w) ((EV.d (k := fun d ρ1 => ∃ ds, d = .lst ds ∧ k ds ρ1) h hx tk s x).mono fun v H1 ⟨d, ρ1, F1, fp1, ⟨ds, ed, q⟩, s1, a1, m1⟩ => ?_)
  subst ed
  cases a1 with
  | lst hh t => exact ⟨_, rfl, ⟨_, .inl (.inl (s1.ex _ _ hh))⟩, ds, ρ1, F1, fp1, q, s1, m1, by rw [hx.K]; exact it_list hh t⟩
theorem ei_scr (h : EV C e ρ (fun o ρ1 => ∃ ns, o.frz = .scr ns ∧ k (ns.map .int) ρ1) Ξ) : EI C tg e ρ k Ξ := by
  intro X hx W tk σ F H fp s x
  refine w_i (pi_list pe_w) ((EV.d (k := fun d ρ1 => ∃ ns, d = .scr ns ∧ k (ns.map .int) ρ1) h hx tk s x).mono fun v H1 ⟨d, ρ1, F1, fp1, ⟨ns, ed, q⟩, s1, a1, m1⟩ => ?_)
  subst ed
  cases a1 with
  | @scr pa _ hh =>
    refine ⟨_, rfl, ⟨_, (by rw [hx.K]; exact s1.ex.l hh)⟩, _, ρ1, F1, fp1, q, s1, m1, ?_⟩
    intro i F' H' e1 e2
    have h2 : SqL X.K H' pa (ns.map V.int) := by rw [hx.K]; exact e2.l (e1.l hh)
    refine ⟨fun d hd => ?_, fun hi => ⟨_, h2, by simpa using hi⟩⟩
    rw [List.getElem?_map] at hd
    cases q2 : ns[i]? with
    | none => rw [q2] at hd; cases hd
    | some n =>
      rw [q2] at hd
      cases hd
      have ev : (ns.map V.int)[i]? = some (.int n) := by rw [List.getElem?_map, q2]; rfl
      refine ⟨⟨_, _, h2, ev⟩, fun x H'' ⟨eh, y⟩ => ?_⟩
      subst eh
      have ex := y _ h2
      rw [ev] at ex
      cases ex
      exact ⟨F', .int n, Gw.refl e2⟩
theorem ei_tup (h : EV C e ρ (fun o ρ1 => ∃ ds, o.frz = .tup ds ∧ k ds ρ1) Ξ) : EI C tg e ρ k Ξ := by
  intro X hx W tk σ F H fp s x
  refine w_i (pi_tup pe_w) ((EV.d (k := fun d ρ1 => ∃ ds, d = .tup ds ∧ k ds ρ1) h hx tk s x).mono fun v H1 ⟨d, ρ1, F1, fp1, ⟨ds, ed, q⟩, s1, a1, m1⟩ => ?_)
  subst ed
  cases a1 with
  | tup hh t => exact ⟨_, rfl, ⟨_, (by rw [hx.K]; exact s1.ex.t hh)⟩, ds, ρ1, F1, fp1, q, s1, m1, by rw [hx.K]; exact it_tup hh t⟩
def signs (z : Str) : List D := z.cps.toList.map fun c => .str ⟨#[c]⟩
theorem ei_str (h : EV C e ρ (fun o ρ1 => ∃ z, o.frz = .str z ∧ k (signs z) ρ1) Ξ) : EI C tg e ρ k Ξ := by
  intro X hx W tk σ F H fp s x
  refine w_i (pi_str pe_w) ((EV.d (k := fun d ρ1 => ∃ z, d = .str z ∧ k (signs z) ρ1) h hx tk s x).mono fun v H1 ⟨d, ρ1, F1, fp1, ⟨z, ed, q⟩, s1, a1, m1⟩ => ?_)
  subst ed
  cases a1
  refine ⟨z, rfl, _, ρ1, F1, fp1, q, s1, m1, ?_⟩
  intro i F' H' e1 e2
  have hl : (signs z).length = z.cps.size := by simp [signs]
  refine ⟨fun d hd => ?_, fun hi => by rw [hl] at hi; exact hi⟩
  have hi : i < z.cps.size := by rw [← hl]; exact (List.getElem?_eq_some_iff.mp hd).1
  refine ⟨hi, fun x H'' ⟨eh, c, hc, ex⟩ => ?_⟩
  subst eh
  subst ex
  unfold signs at hd
  rw [List.getElem?_map, Array.getElem?_toList, hc] at hd
  cases hd
  exact ⟨F', .str _, Gw.refl e2⟩
def rngD (lo : Int) (n : Nat) : List D := (List.range n).map fun (i : Nat) => D.int (lo + i)
theorem it_rng {K : PySem.W.Frag} {lo : Int} {n : Nat} {F1 : Hp} : ItOk K (Itr lo n) (rngD lo n) F1 := by
  intro i F' H' e1 e2
  have hl : (rngD lo n).length = n := by simp [rngD]
  refine ⟨fun d hd => ?_, fun hi => by rw [hl] at hi; exact hi⟩
  have hi : i < n := by rw [← hl]; exact (List.getElem?_eq_some_iff.mp hd).1
  refine ⟨hi, fun x H'' ⟨eh, ex⟩ => ?_⟩
  subst eh
  subst ex
  have e : (rngD lo n)[i]? = some (.int (lo + i)) := by
    unfold rngD
    rw [List.getElem?_map, List.getElem?_range hi]; rfl
  rw [e] at hd
  cases hd
  exact ⟨F', .int _, Gw.refl e2⟩
theorem ei_rng1 {a : Expr} {p : Pos} (hm : C.G.mg "range" = none) (h : EV C a ρ (fun o ρ1 => ∃ j, o.frz = .int j ∧ (-(2 ^ 62) ≤ j ∧ j < 2 ^ 62) ∧ k (rngD 0 j.toNat) ρ1) Ξ) (hg : C.sc.names.lookup ("range" : Str) = some .globalImplicit := by rfl)
    (hs : ∀ env, starEach [a] env = [(false, eval a env)] := by intro _; rfl) : EI C tg (.Call (.Name "range" p) [a] [] pos) ρ k Ξ := by
  intro X hx W tk σ F H fp s x
  refine w_i (pi_range1 (hx.gl hg) (by rw [hx.mg]; exact hm) (pa_cons pe_w pa_nil (hs _)) (hs _)) ((EV.d (k := fun d ρ1 => ∃ j, d = .int j ∧ (-(2 ^ 62) ≤ j ∧ j < 2 ^ 62) ∧ k (rngD 0 j.toNat) ρ1) h hx tk s x).mono fun v H1 ⟨d, ρ1, F1, fp1, ⟨j, ed, ⟨l1, l2⟩, q⟩, s1, a1, m1⟩ => ?_)
  subst ed
  cases a1
  exact ⟨j, rfl, l1, l2, _, ρ1, F1, fp1, q, s1, m1, it_rng⟩
theorem ei_rng2 {a b : Expr} {p : Pos} (hm : C.G.mg "range" = none) (h : EV C a ρ (fun o ρ1 => EV C b ρ1 (fun o2 ρ2 => ∃ i j, o.frz = .int i ∧ o2.frz = .int j ∧ (-(2 ^ 62) ≤ i ∧ i < 2 ^ 62 ∧ -(2 ^ 62) ≤ j ∧ j < 2 ^ 62) ∧ k (rngD i (j - i).toNat) ρ2) Ξ) Ξ) (hg : C.sc.names.lookup ("range" : Str) = some .globalImplicit := by rfl)
    (hs : ∀ env, starEach [a, b] env = [(false, eval a env), (false, eval b env)] := by intro _; rfl) (hs2 : ∀ env, starEach [b] env = [(false, eval b env)] := by intro _; rfl) : EI C tg (.Call (.Name "range" p) [a, b] [] pos) ρ k Ξ := by
  intro X hx W tk σ F H fp s x
  refine w_i (pi_range2 (hx.gl hg) (by rw [hx.mg]; exact hm) (pa_cons pe_w (pa_cons pe_w pa_nil (hs2 _)) (by rw [hs, hs2])) (hs _) (hs2 _)) ((EV.d (k := fun d ρ1 => EV C b ρ1 (fun o2 ρ2 => ∃ i j, d = .int i ∧ o2.frz = .int j ∧ (-(2 ^ 62) ≤ i ∧ i < 2 ^ 62 ∧ -(2 ^ 62) ≤ j ∧ j < 2 ^ 62) ∧ k (rngD i (j - i).toNat) ρ2) Ξ) h hx tk s x).mono fun v H1 ⟨d, ρ1, F1, fp1, h1, s1, a1, m1⟩ => ?_)
  refine (EV.d (k := fun d2 ρ2 => ∃ i j, d = .int i ∧ d2 = .int j ∧ (-(2 ^ 62) ≤ i ∧ i < 2 ^ 62 ∧ -(2 ^ 62) ≤ j ∧ j < 2 ^ 62) ∧ k (rngD i (j - i).toNat) ρ2) h1 hx tk s1 (x.along m1)).mono fun u H2 ⟨d2, ρ2, F2, fp2, ⟨i, j, e1, e2, l, q⟩, s2, a2, m2⟩ => ?_
  subst e1
  subst e2
  cases a1
  cases a2
  exact ⟨i, j, rfl, l, _, ρ2, F2, fp2, q, s2, m1.trans m2, it_rng⟩
def numbered (ds : List D) : List D := (ds.zipIdx).map fun p => .tup [.int (p.2 : Nat), p.1]
theorem ei_enum {a : Expr} {p tpos : Pos} {elts : List Expr} {kk : Nat} (hm : C.G.mg "enumerate" = none) (h : EV C a ρ (fun o ρ1 => ∃ ds, o.frz = .lst ds ∧ k (numbered ds) ρ1) Ξ) (hg : C.sc.names.lookup ("enumerate" : Str) = some .globalImplicit := by rfl)
    (hs : ∀ env, starEach [a] env = [(false, eval a env)] := by intro _; rfl) : EI C (.Tuple elts kk tpos) (.Call (.Name "enumerate" p) [a] [] pos) ρ k Ξ := by
  intro X hx W tk σ F H fp s x
  refine w_i (pi_enum (hx.gl hg) (by rw [hx.mg]; exact hm) (pa_cons pe_w pa_nil (hs _)) (hs _)) ((EV.d (k := fun d ρ1 => ∃ ds, d = .lst ds ∧ k (numbered ds) ρ1) h hx tk s x).mono fun v H1 ⟨d, ρ1, F1, fp1, ⟨ds, ed, q⟩, s1, a1, m1⟩ => ?_)
  subst ed
  cases a1 with
  | @lst pa vs _ hh t =>
    refine ⟨_, vs, rfl, .inl (.inl (s1.ex _ _ hh)), _, ρ1, F1, fp1, q, s1, m1, ?_⟩
    intro i F' H' e1 e2
    have h2 : SqL X.K H' pa vs := .inl (.inl (e2 _ _ (e1 _ _ hh)))
    have hl : (numbered ds).length = ds.length := by simp [numbered]
    refine ⟨fun d hd => ?_, fun hi => ⟨vs, h2, by rw [t.length, ← hl]; exact hi⟩⟩
    unfold numbered at hd
    rw [List.getElem?_map, List.getElem?_zipIdx] at hd
    cases q2 : ds[i]? with
    | none => rw [q2] at hd; cases hd
    | some dd =>
      rw [q2] at hd
      obtain ⟨v, ev, av⟩ := t.get q2
      refine ⟨⟨vs, v, h2, ev⟩, fun y H'' ⟨T, w, ey, hT, eh, hw⟩ => ?_⟩
      subst ey eh
      have e3 := hw vs h2
      rw [ev] at e3
      cases e3
      have ed : d = .tup [.int ((0 + i : Nat) : Int), dd] := by
        have : some (D.tup [.int ((0 + i : Nat) : Int), dd]) = some d := hd
        exact (Option.some.inj this).symm
      subst ed
      have g := Gw.new e2 hT (.tup [.int (i : Nat), v])
      refine ⟨_, .tup (.inl (.inl upd_same)) (.cons ?_ (.cons (av.mono (e1.trans g.1)) .nil)), g⟩
      rw [Nat.zero_add]
      exact .int _
theorem ei_zip {a b : Expr} {p tpos : Pos} {elts : List Expr} {kk : Nat} (hm : C.G.mg "zip" = none) (h : EV C a ρ (fun o ρ1 => EV C b ρ1 (fun o2 ρ2 => ∃ ds es, o.frz = .lst ds ∧ o2.frz = .lst es ∧ k (List.zipWith (fun d e => .tup [d, e]) ds es) ρ2) Ξ) Ξ) (hg : C.sc.names.lookup ("zip" : Str) = some .globalImplicit := by rfl)
    (hs : ∀ env, starEach [a, b] env = (false, eval a env) :: starEach [b] env := by intro _; rfl) (hs2 : ∀ env, starEach [b] env = (false, eval b env) :: starEach [] env := by intro _; rfl) (hpl : ∀ env, (backTo pos (starEach [b] env)).any (·.1) = false := by intro _; rfl) :
    EI C (.Tuple elts kk tpos) (.Call (.Name "zip" p) [a, b] [] pos) ρ k Ξ := by
  intro X hx W tk σ F H fp s x
  refine w_i (pi_zip (hx.gl hg) (by rw [hx.mg]; exact hm) (pa_cons pe_w (pa_cons pe_w pa_nil (hs2 _)) (hs _)) (hs _) (hpl _)) ((EV.d (k := fun d ρ1 => EV C b ρ1 (fun o2 ρ2 => ∃ ds es, d = .lst ds ∧ o2.frz = .lst es ∧ k (List.zipWith (fun d e => .tup [d, e]) ds es) ρ2) Ξ) h hx tk s x).mono fun v H1 ⟨d, ρ1, F1, fp1, h1, s1, a1, m1⟩ => ?_)
  refine (EV.d (k := fun d2 ρ2 => ∃ ds es, d = .lst ds ∧ d2 = .lst es ∧ k (List.zipWith (fun d e => .tup [d, e]) ds es) ρ2) h1 hx tk s1 (x.along m1)).mono fun u H2 ⟨d2, ρ2, F2, fp2, ⟨ds, es, e1, e2, q⟩, s2, a2, m2⟩ => ?_
  subst e1
  subst e2
  have a1 := a1.mono m2.ef
  cases a1 with
  | @lst pa vs _ hh t =>
    cases a2 with
    | @lst pb ws _ hh2 t2 =>
      refine ⟨pa, pb, vs, ws, rfl, .inl (.inl (s2.ex _ _ hh)), .inl (.inl (s2.ex _ _ hh2)), _, ρ2, F2, fp2, q, s2, m1.trans m2, ?_⟩
      intro i F' H' e1 e2
      have h1 : SqL X.K H' pa vs := .inl (.inl (e2 _ _ (e1 _ _ hh)))
      have h2 : SqL X.K H' pb ws := .inl (.inl (e2 _ _ (e1 _ _ hh2)))
      refine ⟨fun d hd => ?_, fun hi => ⟨vs, ws, h1, h2, ?_⟩⟩
      · rw [List.getElem?_zipWith] at hd
        cases q1 : ds[i]? with
        | none => rw [q1] at hd; cases hd
        | some d1 =>
          cases q2 : es[i]? with
          | none => rw [q1, q2] at hd; cases hd
          | some d2 =>
            rw [q1, q2] at hd
            have hd' : D.tup [d1, d2] = d := Option.some.inj hd
            subst hd'
            obtain ⟨v1, ev1, av1⟩ := t.get q1
            obtain ⟨v2, ev2, av2⟩ := t2.get q2
            refine ⟨⟨vs, ws, v1, v2, h1, h2, ev1, ev2⟩, fun y H'' ⟨T, w1, w2, ey, hT, eh, hw1, hw2⟩ => ?_⟩
            subst ey eh
            have e3 := hw1 vs h1
            rw [ev1] at e3
            cases e3
            have e4 := hw2 ws h2
            rw [ev2] at e4
            cases e4
            have g := Gw.new e2 hT (.tup [v1, v2])
            exact ⟨_, .tup (.inl (.inl upd_same)) (.cons (av1.mono (e1.trans g.1)) (.cons (av2.mono (e1.trans g.1)) .nil)), g⟩
      · rw [List.length_zipWith] at hi
        rw [t.length, t2.length]
        omega
end

/-! ### for -/
def forΦ (n : Rho → Prop) (Φ : Fl → Rho → Prop) : Fl → Rho → Prop
  | .nx, ρ => n ρ
  | .cont, ρ => n ρ
  | .brk, ρ => Φ .nx ρ
  | fl, ρ => Φ fl ρ
def forΦ' (fg : List Nat) (n : Rho → Prop) (Φ : Fl → Rho → Prop) : Fl → Rho → Prop
  | .nx, ρ => n (wipeR ρ fg)
  | .cont, ρ => n (wipeR ρ fg)
  | .brk, ρ => Φ .nx ρ
  | fl, ρ => Φ fl ρ
/-- what a loop over ds asks; fg: slots that are forgotten at each turn's head and behind the loop -/
def ForAsk (C : Ctx) (P : List Nat) (tg : Expr) (sl : List Nat) (body : List Stmt) (fg : List Nat) (Φ : Fl → Rho → Prop) (ds : List D) (ρ1 : Rho) : Prop :=
  ∃ Iv : Nat → Rho → Prop, Iv 0 (wipeR ρ1 fg) ∧ (∀ i d ρ', ds[i]? = some d → Iv i ρ' → TGt C tg sl d ρ' (fun ρ2 => SV C P body ρ2 (forΦ' fg (Iv (i + 1)) Φ))) ∧ ∀ ρ', Iv ds.length ρ' → Φ .nx ρ'
theorem s_for {tg iter : Expr} {sl : List Nat} (fg : List Nat)
    (h : EI C tg iter ρ (ForAsk C P tg sl body fg Φ) (fun c ρ1 => Φ (.exc c) ρ1))
    (hP : ∀ j ∈ sl, j ∉ P := by decide) (hsu : C.su = none := by rfl) (hs : ∀ env x, foldedSetIterable iter env x = pure x := by intro _ _; rfl) : S1 C P (.For tg iter body [] pos) ρ Φ := by
  intro X hx W tk po σ F H fp D s k
  refine w_s (ps_for po (hx.calm hsu) pi_w pg_w pss_w (hs _)) ?_
  intro pins st I
  refine thn (h X hx W tk σ F H fp s k.xp pins st I) fun v s1 h1 => thn h1 fun itv s2 h2 => ?_
  obtain ⟨it, fpi, tn, J, H2, e, I2, T, st2, f2, ds, ρ1, F1, fp1, ⟨Iv, iv0, turn, done⟩, sr1, m1, ok⟩ := h2
  refine ⟨it, fpi, tn, J, H2, e, I2, T, st2, f2, ?_⟩
  have wp : ∀ {F H : Hp} {σ : L2.St} {ρ : Rho} {fp : Nat → List Addr}, SR C.G.K F H σ ρ fp → SR C.G.K F H σ (wipeR ρ fg) (wipeF fp fg) := fun s => s.wiped rfl fun _ _ => rfl
  refine ⟨fun i m σ' H' => m = ds.length - i ∧ i ≤ ds.length ∧ ∃ ρ' F' fp', Iv i ρ' ∧ SR C.G.K F' H' σ' ρ' fp' ∧ Pin P σ σ' ∧ Mv (own fp) F H (own fp') F' H' ∧ Ex F1 F', ⟨_, rfl, Nat.zero_le _, _, F1, wipeF fp1 fg, iv0, wp sr1, .refl, m1.less fun q => own_wipeF, Ex.refl _⟩, ?_⟩
  rintro i m σ' H' ⟨hm, hi, ρ', F', fp', iv, sr, pn, mv, ex⟩
  by_cases hlt : i < ds.length
  · refine .inr ?_
    obtain ⟨d, hd⟩ : ∃ d, ds[i]? = some d := ⟨_, List.getElem?_eq_getElem hlt⟩
    obtain ⟨go, yld⟩ := (ok i F' H' ex sr.ex).1 d hd
    refine ⟨go, fun σ'' H'' => ∃ m', m' = ds.length - (i + 1) ∧ i + 1 ≤ ds.length ∧ ∃ ρ' F' fp', Iv (i + 1) ρ' ∧ SR C.G.K F' H'' σ'' ρ' fp' ∧ Pin P σ σ'' ∧ Mv (own fp) F H (own fp') F' H'' ∧ Ex F1 F', fun σ'' H'' ⟨m', e1, w⟩ => ⟨m', by omega, e1, w⟩, fun x H'' hy => ?_⟩
    obtain ⟨F'', ax, g⟩ := yld x H'' hy
    have sr2 := g.sr sr
    refine (turn i d ρ' hd iv X hx hsu σ' F'' H'' fp' x sr2 ax).mono fun σ2 H3 ⟨eh, ρ2, fp2, q2, s3, m3, l3, n3⟩ => ?_
    subst eh
    have pn2 : Pin P σ σ2 := fun j hj => (n3 j fun z => hP j z hj).trans (pn j hj)
    have mv2 : Mv (own fp) F H (own fp2) F'' H3 := (mv.trans g.mv).less m3
    have kk := k.along pn2 mv2
    refine q2 X hx W tk po σ2 F'' H3 fp2 _ s3 ⟨kk.exc, ?_, fun ρ' σ' F' H' fp' q s' p' m' => kk.nx ρ' σ' F' H' fp' q s' p' m', ?_, kk.rt⟩
    · intro ρ4 σ4 F4 H4 fp4 q s4 p4 m4
      exact ⟨_, rfl, hlt, _, F4, wipeF fp4 fg, q, wp s4, pn2.trans p4, (mv2.trans m4).less fun q => own_wipeF, (ex.trans g.1).trans m4.ef⟩
    · intro ρ4 σ4 F4 H4 fp4 q s4 p4 m4
      exact ⟨_, rfl, hlt, _, F4, wipeF fp4 fg, q, wp s4, pn2.trans p4, (mv2.trans m4).less fun q => own_wipeF, (ex.trans g.1).trans m4.ef⟩
  · have e : i = ds.length := by omega
    subst e
    exact .inl ⟨(ok _ F' H' ex sr.ex).2 (Nat.le_refl _), k.nx ρ' σ' F' H' fp' (done ρ' iv) sr pn mv⟩
/-! ### while -/
theorem s_while (Iv : Nat → Rho → Prop) (m0 : Nat) (h0 : Iv m0 ρ)
    (hs : ∀ m ρ', Iv m ρ' → ET C c ρ' (fun b ρ1 => (b = true → SV C P body ρ1 (forΦ (fun ρ2 => ∃ m', m' < m ∧ Iv m' ρ2) Φ)) ∧ (b = false → Φ .nx ρ1)) (fun c ρ1 => Φ (.exc c) ρ1)) : S1 C P (.While c body [] pos) ρ Φ := by
  intro X hx W tk po σ F H fp D s k
  refine w_s (ps_while po pt_w pss_w) ?_
  refine ⟨fun m σ' H' => ∃ ρ' F' fp', Iv m ρ' ∧ SR C.G.K F' H' σ' ρ' fp' ∧ Pin P σ σ' ∧ Mv (own fp) F H (own fp') F' H', ⟨m0, ρ, F, fp, h0, s, .refl, .refl⟩, ?_⟩
  rintro m σ' H' ⟨ρ', F', fp', iv, sr, pn, mv⟩
  refine wT.mono (hs m ρ' iv X hx W tk σ' F' H' fp' sr (k.along pn mv).xp) fun b H1 ⟨ρ1, F1, fp1, ⟨q1, q2⟩, s1, m1⟩ => ?_
  have mv1 := mv.trans m1
  have kk := k.along pn mv1
  cases b with
  | true =>
    rw [if_pos rfl]
    refine ⟨fun σ'' H'' => ∃ m', m' < m ∧ ∃ ρ' F' fp', Iv m' ρ' ∧ SR C.G.K F' H'' σ'' ρ' fp' ∧ Pin P σ σ'' ∧ Mv (own fp) F H (own fp') F' H'', fun σ'' H'' h => h, ?_⟩
    refine q1 rfl X hx W tk po σ' F1 H1 fp1 _ s1 ⟨kk.exc, ?_, fun ρ' σ' F' H' fp' q s' p' m' => kk.nx ρ' σ' F' H' fp' q s' p' m', ?_, kk.rt⟩
    · rintro ρ4 σ4 F4 H4 fp4 ⟨m', hm, q⟩ s4 p4 m4
      exact ⟨m', hm, ρ4, F4, fp4, q, s4, pn.trans p4, mv1.trans m4⟩
    · rintro ρ4 σ4 F4 H4 fp4 ⟨m', hm, q⟩ s4 p4 m4
      exact ⟨m', hm, ρ4, F4, fp4, q, s4, pn.trans p4, mv1.trans m4⟩
  | false => exact kk.nx ρ1 σ' F1 H1 fp1 (q2 rfl) s1 .refl .refl
end
end Fr

set_option Elab.async false
set_option linter.all false
set_option maxRecDepth 100000
set_option maxHeartbeats 2000000
/-! Fr7: list comprehensions. -/
namespace Fr
open PySem PySem.Spec PyProof.Rows L2

/-- an object that no slot holds is written -/
theorem SR.updO {K : PySem.W.Frag} {F H : Hp} {σ : L2.St} {ρ : Rho} {fp : Nat → List Addr} (s : SR K F H σ ρ fp) {p : Addr} (hf : F p = none) (ho : ¬ own fp p) (o : HO) : SR K F (upd H p o) σ ρ fp := by
  refine s.mono (Ex.refl F) (fun a u h => ?_) (fun q hq => (s.owned hq).1) fun q hq => upd_ne fun z => ho (z ▸ hq)
  rw [upd_ne fun z => by rw [z, hf] at h; cases h]
  exact s.ex a u h
theorem Rep.updO {K : PySem.W.Frag} {F H : Hp} {v : V} {o : O} {S : List Addr} (r : Rep K F H v o S) {p : Addr} (hp : p ∉ S) (u : HO) : Rep K F (upd H p u) v o S :=
  r.mono (Ex.refl F) (fun q hq => (r.none q hq).1) fun q hq => upd_ne fun z => hp (z ▸ hq)
theorem Reps.updO {K : PySem.W.Frag} {F H : Hp} {vs : List V} {os : List O} {S : List Addr} (r : Reps K F H vs os S) {p : Addr} (hp : p ∉ S) (o : HO) : Reps K F (upd H p o) vs os S :=
  r.mono (Ex.refl F) (fun q hq => (r.none q hq).1) fun q hq => upd_ne fun z => hp (z ▸ hq)

def Ctx.blk (C : Ctx) (scope : Scope) : Ctx := { C with sc := relS scope C.sc, top := false }
theorem XIs.blk {C : Ctx} {X B : Cx} {scope : Scope} (hx : XIs C X) (hsu : C.su = none) (h : BlkIs X scope B) : XIs (C.blk scope) B := by
  obtain ⟨s, H, cl, Ca, fp, xe, rfl⟩ := h
  refine ⟨hx.P, hx.w, hx.K, hx.mg, hx.base, hx.N, hx.nd, ?_, fun _ => hx.rm hsu, fun _ => hx.calm hsu, hx.un, fun a c e => ?_, (by intro e; cases e), (by intro e; cases e)⟩
  · show relS scope X.env.scope = relS scope C.sc
    rw [hx.sc]
  · have e' : C.su = some (a, c) := e
    rw [hsu] at e'
    cases e'
def ETs (C : Ctx) (ifs : List Expr) (ρ : Rho) (k : Bool → Rho → Prop) (Ξ : Exc → Rho → Prop) : Prop := match ifs with
  | [] => k true ρ
  | [c] => ET C c ρ k Ξ
  | _ => False
theorem ETs.run {C : Ctx} {ifs : List Expr} {ρ : Rho} {k : Bool → Rho → Prop} {Ξ : Exc → Rho → Prop} (h : ETs C ifs ρ k Ξ) {X : Cx} (hx : XIs C X) {W : WX} (tk : Takes X W) {σ : L2.St} {F H : Hp} {fp : Nat → List Addr} (s : SR C.G.K F H σ ρ fp)
    (x : XP C.G W σ (own fp) F H Ξ) : wTs X ifs σ H (BP C.G.K σ (own fp) F H k) := by
  match ifs, h with
  | [], h => exact w_ts pts_nil ⟨ρ, F, fp, h, s, Mv.refl⟩
  | [c], h => exact w_ts (pts_one pt_w) (h X hx W tk σ F H fp s x)
theorem wTs.mono {X : Cx} {ifs : List Expr} {σ H} {Q Q' : Bool → Hp → Prop} (h : wTs X ifs σ H Q) (k : ∀ v H', Q v H' → Q' v H') : wTs X ifs σ H Q' := fun pins s I =>
  thn (h pins s I) fun _ _ ⟨H', I', q⟩ => ⟨H', I', k _ _ q⟩

theorem TGt.imp {C : Ctx} {tg : Expr} {sl : List Nat} {d : D} {ρ : Rho} {k k' : Rho → Prop} (h : TGt C tg sl d ρ k) (hk : ∀ ρ, k ρ → k' ρ) : TGt C tg sl d ρ k' := fun X hx hsu σ F H fp v s a =>
  (h X hx hsu σ F H fp v s a).mono fun _ _ ⟨e, ρ', fp', q, r⟩ => ⟨e, ρ', fp', hk _ q, r⟩
theorem ET.imp {C : Ctx} {c : Expr} {ρ : Rho} {Ξ : Exc → Rho → Prop} {k k' : Bool → Rho → Prop} (h : ET C c ρ k Ξ) (hk : ∀ b ρ, k b ρ → k' b ρ) : ET C c ρ k' Ξ := fun X hx W tk σ F H fp s x =>
  wT.mono (h X hx W tk σ F H fp s x) fun _ _ ⟨ρ', F', fp', q, r⟩ => ⟨ρ', F', fp', hk _ _ q, r⟩
section
variable {C : Ctx} {ρ : Rho} {Ξ Ξb : Exc → Rho → Prop} {elt tg iter : Expr} {ifs : List Expr} {scope : Scope} {vs sl : List Nat} {X : Cx} {W : WX} {σ : L2.St} {F H : Hp} {fp : Nat → List Addr} {Q : VK} {kk : List O → Rho → Prop}
/-- what a comprehension asks of its items -/
def LcAsk (C : Ctx) (scope : Scope) (tg elt : Expr) (ifs : List Expr) (sl vs : List Nat) (Ξb : Exc → Rho → Prop) (kk : List O → Rho → Prop) (ds : List D) (ρ1 : Rho) : Prop :=
  ds.length ≤ 16000000 ∧ ∃ Iv : Nat → List O → Rho → Prop, Iv 0 [] (wipeR ρ1 vs) ∧ (∀ i d acc ρ', ds[i]? = some d → Iv i acc ρ' → TGt (C.blk scope) tg sl d ρ' (fun ρ2 => ETs (C.blk scope) ifs ρ2 (fun b ρ3 =>
    (b = true → EV (C.blk scope) elt ρ3 (fun o ρ4 => Iv (i + 1) (acc ++ [o]) (wipeR ρ4 vs)) Ξb) ∧ (b = false → Iv (i + 1) acc (wipeR ρ3 vs))) Ξb)) ∧ ∀ acc ρ', Iv ds.length acc ρ' → kk acc (wipeR ρ' vs)
theorem lc_ask {W0 : WX} (hx : XIs C X) (hsu : C.su = none) (tk : Takes X W) (sr : SR C.G.K F H σ ρ fp) (x : XP C.G W σ (own fp) F H Ξ) (hsl : ∀ j ∈ sl, j ∈ vs)
    (hΞ : ∀ c ρ' F' H' fp' cls d, Ξb c ρ' → SR C.G.K F' H' σ (wipeR ρ' vs) fp' → XR C.G c cls d F' H' → Mv (own fp) F H (own fp') F' H' → W0 cls d σ H')
    (h : EI C tg iter ρ (LcAsk C scope tg elt ifs sl vs Ξb kk) Ξ)
    (hq : ∀ acc ρ' D F' H' fp' S, kk acc ρ' → SR C.G.K F' H' σ ρ' fp' → Rep C.G.K F' H' (.ref D) (.lst acc) S → (∀ q ∈ S, ¬ own fp' q) → Mv (own fp) F H (fun q => own fp' q ∨ q ∈ S) F' H' → Q (.ref D) H') :
    wI X tg iter σ H fun J H1 => ∀ D, H1 D = none → ∃ Wv : Nat → Nat → Hp → Prop, (∃ m, Wv 0 m (upd H1 D (.lst []))) ∧ ∀ i m H, Wv i m H →
      (J.stop i H ∧ Q (.ref D) H) ∨ (J.go i H ∧ ∃ Nx : Hp → Prop, (∀ H', Nx H' → ∃ m', m' < m ∧ Wv (i + 1) m' H') ∧ ∀ B, BlkIs X scope B → Takes B (fun cls d _ H' => W0 cls d σ H') → ∀ x H', J.yld i H x H' →
        wG B tg x (wipe σ vs) H' fun σ2 H2 => wipe σ2 vs = wipe σ vs ∧ wTs B ifs σ2 H2 fun b H3 =>
          if b = true then wE B elt σ2 H3 fun y H4 => ∃ acc, H4 D = some (.lst acc) ∧ acc.length < sizeLine ∧ Nx (upd H4 D (.lst (acc ++ [y]))) else Nx H3) := by
  intro pins st I
  refine thn (h X hx W tk σ F H fp sr x pins st I) fun v s1 h1 => thn h1 fun itv s2 h2 => ?_
  obtain ⟨it, fpi, tn, J, H2, e, I2, T, st2, f2, ds, ρ1, F1, fp1, ⟨hsz, Iv, iv0, turn, done⟩, sr1, m1, ok⟩ := h2
  refine ⟨it, fpi, tn, J, H2, e, I2, T, st2, f2, fun Dl hD => ?_⟩
  have hbl : (wipe σ vs).length = σ.length := wipe_length _ _
  have hF1 : F1 Dl = none := sr1.ex.free hD
  refine ⟨fun i m H' => m = ds.length - i ∧ i ≤ ds.length ∧ ∃ (acc : List O) (ρ' : Rho) (F' : Hp) (fp' : Nat → List Addr) (us : List V) (S : List Addr), Iv i acc ρ' ∧ SR C.G.K F' H' (wipe σ vs) ρ' fp' ∧ H' Dl = some (.lst us) ∧ F' Dl = none ∧ Reps C.G.K F' H' us acc S ∧ Dl ∉ S ∧
      (∀ q ∈ S, ¬ own fp' q) ∧ ¬ own fp' Dl ∧ Mv (own fp) F H (fun q => own fp' q ∨ q ∈ S ∨ q = Dl) F' H' ∧ Ex F1 F' ∧ acc.length ≤ i, ⟨_, rfl, Nat.zero_le _, [], _, F1, wipeF fp1 vs, [], [], iv0,
      (sr1.newO hD (.lst [])).wiped hbl (fun i hi => wipe_out hi), upd_same, hF1, .nil, by simp, fun _ z => (by cases z), fun z => own_ne sr1 hD (own_wipeF z) rfl, ?_, Ex.refl _, Nat.le_refl _⟩, ?_⟩
  · refine m1.trans ((Mv.newO hD (.lst [])).less fun q hq => ?_)
    rcases hq with z | z | z
    · exact .inl (own_wipeF z)
    · cases z
    · exact .inr z
  rintro i m H' ⟨hm, hi, acc, ρ', F', fp', us, S, iv, sr', hDl, hFl, rs, nDS, dS, nD, mv, ex, hal⟩
  by_cases hlt : i < ds.length
  · refine .inr ?_
    obtain ⟨d, hd⟩ : ∃ d, ds[i]? = some d := ⟨_, List.getElem?_eq_getElem hlt⟩
    obtain ⟨go, yld⟩ := (ok i F' H' ex sr'.ex).1 d hd
    refine ⟨go, fun H'' => i + 1 ≤ ds.length ∧ ∃ (acc : List O) (ρ' : Rho) (F' : Hp) (fp' : Nat → List Addr) (us : List V) (S : List Addr), Iv (i + 1) acc ρ' ∧ SR C.G.K F' H'' (wipe σ vs) ρ' fp' ∧ H'' Dl = some (.lst us) ∧ F' Dl = none ∧ Reps C.G.K F' H'' us acc S ∧ Dl ∉ S ∧
      (∀ q ∈ S, ¬ own fp' q) ∧ ¬ own fp' Dl ∧ Mv (own fp) F H (fun q => own fp' q ∨ q ∈ S ∨ q = Dl) F' H'' ∧ Ex F1 F' ∧ acc.length ≤ i + 1, fun H'' w => ⟨ds.length - (i + 1), by omega, rfl, w⟩, ?_⟩
    intro B hB tkB y H'' hy
    obtain ⟨F'', ax, g⟩ := yld y H'' hy
    have hxB := hx.blk hsu hB
    have sr2 := g.sr sr'
    have rs2 := rs.along (g.mv (A := own fp')) dS
    have hDl2 : H'' Dl = some (.lst us) := (g.2.2 _ _ hDl).1
    have hFl2 : F'' Dl = none := by rw [(g.2.2 _ _ hDl).2]; exact hFl
    refine (turn i d acc ρ' hd iv B hxB hsu (wipe σ vs) F'' H'' fp' y sr2 ax).mono fun σ2 H3 ⟨eh, ρ2, fp2, q2, s3, m3, l3, n3⟩ => ?_
    subst eh
    have hoff : ∀ j, j ∉ vs → σ2[j]? = σ[j]? := fun j hj => by
      rw [n3 j fun z => hj (hsl j z), wipe_out hj]
    have hlen : σ2.length = σ.length := l3.trans hbl
    have hw2 : wipe σ2 vs = wipe σ vs := wipe_congr hlen hoff
    refine ⟨hw2, ?_⟩
    have xB : XP C.G (fun cls d _ H' => W0 cls d σ H') σ2 (own fp2) F'' H3 Ξb := fun c ρ5 F5 H5 fp5 cls d q5 s5 xr m5 => by
      refine hΞ c ρ5 F5 H5 (wipeF fp5 vs) cls d q5 (s5.wiped hlen.symm fun j hj => (hoff j hj).symm) xr ?_
      have mA : Mv (own fp) F H (own fp2) F'' H3 := (mv.trans g.mv).less fun q hq => .inl (m3 q hq)
      exact (mA.trans m5).less fun q hq => own_wipeF hq
    have back : ∀ {F5 H5 : Hp} {fp5 : Nat → List Addr} {B5 : Addr → Prop}, Mv (own fp2) F'' H3 B5 F5 H5 → (∀ q, own fp5 q → B5 q) → Reps C.G.K F5 H5 us acc S ∧ H5 Dl = some (.lst us) ∧ F5 Dl = none ∧ ¬ own fp5 Dl ∧ (∀ q ∈ S, ¬ own fp5 q) ∧ (∀ q ∈ S, ¬ B5 q) ∧ ¬ B5 Dl := fun {F5 H5 fp5 B5} m5 hb => by
      have d2 : ∀ q ∈ S, ¬ own fp2 q := fun q hq z => dS q hq (m3 q z)
      have nD2 : ¬ own fp2 Dl := fun z => nD (m3 _ z)
      have offS := m5.off d2 fun q hq => (rs2.none q hq).2
      have offD : ¬ B5 Dl := fun z => by
        rcases m5.new _ z with w | w
        · exact nD2 w
        · rw [hDl2] at w; cases w
      obtain ⟨a1, a2⟩ := m5.keep _ _ hDl2 nD2
      exact ⟨rs2.along m5 d2, a1, by rw [a2]; exact hFl2, fun z => offD (hb _ z), fun q hq z => offS q hq (hb _ z), offS, offD⟩
    refine wTs.mono (q2.run hxB tkB s3 xB) fun b H5 ⟨ρ5, F5, fp5, ⟨hy5, hn5⟩, s5, m5⟩ => ?_
    cases b with
    | false =>
      obtain ⟨r5, e5, f5, o5, d5, _, _⟩ := back m5 (fp5 := fp5) fun _ z => z
      refine ⟨hlt, acc, _, F5, wipeF fp5 vs, us, S, hn5 rfl, s5.wiped (by rw [hbl, hlen]) (fun j hj => by rw [wipe_out hj, hoff j hj]), e5, f5, r5, nDS, fun q hq z => d5 q hq (own_wipeF z), fun z => o5 (own_wipeF z), ?_, (ex.trans g.1).trans m5.ef, Nat.le_succ_of_le hal⟩
      refine (mv.trans g.mv).trans ⟨m5.ef, fun q o hq hn => m5.keep q o hq fun z => hn (.inl (m3 q z)), fun q hq => ?_⟩
      rcases hq with z | z | z
      · exact (m5.new q (own_wipeF z)).imp (fun w => .inl (m3 q w)) id
      · exact .inl (.inr (.inl z))
      · exact .inl (.inr (.inr z))
    | true =>
      rw [if_pos rfl]
      refine ((hy5 rfl) B hxB _ tkB σ2 F5 H5 fp5 s5 (xB.along m5)).mono fun y6 H6 ⟨o6, ρ6, F6, fp6, S6, q6, s6, r6, d6, m6⟩ => ?_
      have m56 := m5.trans m6
      obtain ⟨r7, e7, f7, o7, d7, offS, offD⟩ := back m56 (fp5 := fp6) fun _ z => .inl z
      have nD6 : Dl ∉ S6 := fun z => offD (.inr z)
      have hal' : us.length = acc.length := r7.length
      refine ⟨us, e7, ?_, hlt, acc ++ [o6], _, F6, wipeF fp6 vs, us ++ [y6], S ++ (S6 ++ []), q6, ?_, upd_same, f7, ?_, ?_, ?_, fun z => o7 (own_wipeF z), ?_, (ex.trans g.1).trans m56.ef, ?_⟩
      · rw [hal']; have : ds.length ≤ 16000000 := hsz; have : (16000000 : Nat) < sizeLine := by decide
        omega
      · exact (s6.updO f7 (fun z => o7 z) _).wiped (by rw [hbl, hlen]) (fun j hj => by rw [wipe_out hj, hoff j hj])
      · exact (r7.updO nDS _).append (.cons (Rep.updO r6 nD6 _) .nil (fun _ _ z => by cases z)) (fun q hq z => by
          rcases List.mem_append.mp z with w | w
          · exact offS q hq (.inr w)
          · cases w)
      · intro z
        rcases List.mem_append.mp z with w | w
        · exact nDS w
        · rw [List.append_nil] at w; exact nD6 w
      · intro q hq z
        rcases List.mem_append.mp hq with w | w
        · exact d7 q w (own_wipeF z)
        · rw [List.append_nil] at w; exact d6 q w (own_wipeF z)
      · refine (mv.trans g.mv).trans ⟨m56.ef, fun q o hq hn => ?_, fun q hq => ?_⟩
        · have hne : q ≠ Dl := fun z => hn (.inr (.inr z))
          rw [upd_ne hne]
          exact m56.keep q o hq fun z => hn (.inl (m3 q z))
        · rcases hq with z | z | z
          · exact (m56.new q (.inl (own_wipeF z))).imp (fun w => .inl (m3 q w)) id
          · rcases List.mem_append.mp z with w | w
            · exact .inl (.inr (.inl w))
            · rw [List.append_nil] at w
              exact (m56.new q (.inr w)).imp (fun w => .inl (m3 q w)) id
          · exact .inl (.inr (.inr z))
      · rw [List.length_append]; exact Nat.add_le_add_right hal 1
  · have ei : i = ds.length := by omega
    subst ei
    refine .inl ⟨(ok _ F' H' ex sr'.ex).2 (Nat.le_refl _), ?_⟩
    refine hq acc (wipeR ρ' vs) Dl F' H' (wipeF fp' vs) (Dl :: S) (done acc ρ' iv) (sr'.wiped hbl.symm fun j hj => (wipe_out hj).symm) (.lst hDl hFl nDS rs) (fun q hq z => ?_) (mv.less fun q hq => ?_)
    · rcases List.mem_cons.mp hq with w | w
      · subst w
        exact nD (own_wipeF z)
      · exact dS q w (own_wipeF z)
    · rcases hq with z | z
      · exact .inl (own_wipeF z)
      · rcases List.mem_cons.mp z with w | w
        · exact .inr (.inr w)
        · exact .inr (.inl w)
end
section
variable {C : Ctx} {ρ : Rho} {Ξ : Exc → Rho → Prop} {elt tg iter : Expr} {ifs : List Expr} {scope : Scope} {sl : List Nat} {pos : Pos} {k : O → Rho → Prop} {P : List Nat} {Φ : Fl → Rho → Prop}
theorem XIs.bok {X : Cx} {own : List (Str × Nat)} (hx : XIs C X) (ok : blkC C.N C.sc scope own = true) : BlkOk X.N X.env.scope scope own := by
  rw [hx.N, hx.sc]
  exact blkOk_by ok
theorem ev_lc (own : List (Str × Nat))
    (h : EI C tg iter ρ (LcAsk C scope tg elt ifs sl (own.map (·.2)) (fun c ρ' => Ξ c (wipeR ρ' (own.map (·.2)))) (fun acc ρ' => k (.lst acc) ρ')) Ξ)
    (hsl : ∀ j ∈ sl, j ∈ own.map (·.2) := by decide) (ok : blkC C.N C.sc scope own = true := by kernel_rfl) (ht : C.top = true := by rfl) (hsu : C.su = none := by rfl) (hs : ∀ env x, foldedSetIterable iter env x = pure x := by intro _ _; rfl) : EV C (.ListComp elt [⟨tg, iter, ifs, 0⟩] scope pos) ρ k Ξ := by
  intro X hx W tk σ F H fp s x pins st I
  rw [eval_ListComp]
  refine lc_coreX (W := W) (own := own) (.inl ⟨tk, hx.top ht⟩) (hx.calm hsu) hx.nd I (hx.bok ok) (hs _)
    (lc_ask (kk := fun acc ρ' => k (.lst acc) ρ') (Ξb := fun c ρ' => Ξ c (wipeR ρ' (own.map (·.2)))) (W0 := W) (Q := VP C.G.K σ (Fr.own fp) F H k) hx hsu tk s x hsl (fun c ρ' F' H' fp' cls d q s' xr m => x c _ F' H' fp' cls d q s' xr m) h
      fun acc ρ' D F' H' fp' S q s' r d m => ⟨.lst acc, ρ', F', fp', S, q, s', r, d, m⟩) ?_
  intro D C' s' m H' I' q hn f
  refine ⟨m, hn, fun h'' sb => ?_⟩
  obtain ⟨f0, f1, f2, f3, f4, f5⟩ := f
  exact ⟨.ref D, H', I'.turned (t' := s'.toks) (fun b o hb e => (sb.2 b hb).trans e) f0 f1 f3 f4 f5, rfl, q⟩
theorem ev_lcN (own : List (Str × Nat))
    (h : EI C tg iter ρ (LcAsk C scope tg elt ifs sl (own.map (·.2)) (fun _ _ => False) (fun acc ρ' => k (.lst acc) ρ')) Ξ)
    (hsl : ∀ j ∈ sl, j ∈ own.map (·.2) := by decide) (ok : blkC C.N C.sc scope own = true := by kernel_rfl) (hsu : C.su = none := by rfl) (hs : ∀ env x, foldedSetIterable iter env x = pure x := by intro _ _; rfl) : EV C (.ListComp elt [⟨tg, iter, ifs, 0⟩] scope pos) ρ k Ξ := by
  intro X hx W tk σ F H fp s x pins st I
  rw [eval_ListComp]
  refine lc_coreX (W := fun _ _ _ _ => False) (own := own) (.inr fun _ _ _ _ z => z) (hx.calm hsu) hx.nd I (hx.bok ok) (hs _)
    (lc_ask (kk := fun acc ρ' => k (.lst acc) ρ') (Ξb := fun _ _ => False) (W0 := fun _ _ _ _ => False) (Q := VP C.G.K σ (Fr.own fp) F H k) hx hsu tk s x hsl (fun c ρ' F' H' fp' cls d q _ _ _ => q) h
      fun acc ρ' D F' H' fp' S q s' r d m => ⟨.lst acc, ρ', F', fp', S, q, s', r, d, m⟩) ?_
  intro D C' s' m H' I' q hn f
  refine ⟨m, hn, fun h'' sb => ?_⟩
  obtain ⟨f0, f1, f2, f3, f4, f5⟩ := f
  exact ⟨.ref D, H', I'.turned (t' := s'.toks) (fun b o hb e => (sb.2 b hb).trans e) f0 f1 f3 f4 f5, rfl, q⟩
/-- name = [..], the name a local -/
theorem s_setLc {i : Nat} {y : Str} {py spos : Pos} (own : List (Str × Nat))
    (h : EI C tg iter ρ (LcAsk C scope tg elt ifs sl (own.map (·.2)) (fun c ρ' => Φ (.exc c) (wipeR ρ' (own.map (·.2)))) (fun acc ρ' => Φ .nx (ρ'.set i (some (.lst acc))))) (fun c ρ1 => Φ (.exc c) ρ1))
    (hP : i ∉ P := by decide) (hN : C.N[i]? = some y := by rfl) (hl : C.sc.names.lookup y = some .local := by rfl) (hk : C.sc.kind = .function := by rfl) (hln : (py.line == pos.line) = true := by rfl)
    (ha : (scope.names.any fun (n, k) => n == y && (k == .local || k == .cell)) = false := by decide +kernel)
    (hsl : ∀ j ∈ sl, j ∈ own.map (·.2) := by decide) (ok : blkC C.N C.sc scope own = true := by kernel_rfl) (ht : C.top = true := by rfl) (hsu : C.su = none := by rfl) (hs : ∀ env x, foldedSetIterable iter env x = pure x := by intro _ _; rfl) :
    S1 C P (.Assign [.Name y py] (.ListComp elt [⟨tg, iter, ifs, 0⟩] scope pos) spos) ρ Φ := by
  intro X hx W tk po σ F H fp D s k pins st I
  have hyl : X.env.scope.names.lookup y = some .local := by rw [hx.sc]; exact hl
  rw [exec_Assign_Name_used _ _ _ _ (sw_true (by rw [hx.sc]; exact hk) hyl hln ha)]
  refine wpAny_bind (wpAny_standAt (wpAny_bind ?_))
  show wpAny _ X.A (do let _ ← comprehension (.ListComp elt [⟨tg, iter, ifs, 0⟩] scope pos) scope X.env (firstIterPos [⟨tg, iter, ifs, 0⟩] pos) (newList []) false (eval iter X.env) (some (assign (.Name y py) X.env))) _ _ st
  refine wpAny_bind (thn (lc_coreX (W := W) (own := own) (Q := fun v H' => D.nx (σ.set i (some v)) H') (Qf := fun _ s' => SP X pins D .next s') (.inl ⟨tk, hx.top ht⟩) (hx.calm hsu) hx.nd I (hx.bok ok) (hs _)
    (lc_ask (kk := fun acc ρ' => Φ .nx (ρ'.set i (some (.lst acc)))) (Ξb := fun c ρ' => Φ (.exc c) (wipeR ρ' (own.map (·.2)))) (W0 := W) (Q := fun v H' => D.nx (σ.set i (some v)) H') hx hsu tk s k.xp hsl (fun c ρ' F' H' fp' cls d q s' xr m => k.xp c _ F' H' fp' cls d q s' xr m) h
      fun acc ρ' Dl F' H' fp' S q s' r d m => ?_) fun L C' s' m H' I' q hn f => ?_) fun _ s' hq => wpAny_pure (wpAny_pure hq))
  · obtain ⟨fp2, s2, m2⟩ := s'.store r d i
    refine k.nx _ _ F' H' fp2 q s2 (fun j hj => ?_) (m.less m2)
    rw [List.getElem?_set_ne (fun z => hP (by rw [z]; exact hj))]
  show wpAny _ _ (assign (.Name y py) X.env (.ref L)) _ _ _
  refine wpAny_assign_Name (store_ok2 (v := V.ref L) I' hx.nd (by rw [hx.N]; exact hN) (.inl hyl) rfl (fun s2 I2 ⟨a, sb, ha⟩ => ?_) (.inr hyl))
  obtain ⟨f0, f1, f2, f3, f4, f5⟩ := f
  have haC : C' ≠ a := by
    rcases ha with z | z
    · rw [z]; exact f1
    · exact fun e => f4 y a z e.symm
  refine ⟨m, hn.sameBut sb haC, fun h3 sb3 => ?_⟩
  exact ⟨_, H', I2.turned (t' := s2.toks) (fun b o hb e => (sb3.2 b hb).trans e) f0 f1 f3 f4 f5, q⟩
theorem ets_nil {k : Bool → Rho → Prop} (h : k true ρ) : ETs C [] ρ k Ξ := h
theorem ets_one {c : Expr} {k : Bool → Rho → Prop} (h : ET C c ρ k Ξ) : ETs C [c] ρ k Ξ := h
/-- each item by f, nothing else -/
theorem lc_map {vs : List Nat} {Ξb : Exc → Rho → Prop} {kk : List O → Rho → Prop} {ds : List D} {ρ1 : Rho} (f : D → O) (hl : ds.length ≤ 16000000)
    (turn : ∀ d ∈ ds, TGt (C.blk scope) tg sl d (wipeR ρ1 vs) (fun ρ2 => EV (C.blk scope) elt ρ2 (fun o ρ4 => o = f d ∧ wipeR ρ4 vs = wipeR ρ1 vs) Ξb)) (done : kk (ds.map f) (wipeR (wipeR ρ1 vs) vs)) : LcAsk C scope tg elt [] sl vs Ξb kk ds ρ1 := by
  refine ⟨hl, fun i acc ρ' => acc = (ds.take i).map f ∧ ρ' = wipeR ρ1 vs, ⟨by simp, rfl⟩, ?_, ?_⟩
  · rintro i d acc ρ' hd ⟨ea, er⟩
    subst ea er
    refine TGt.imp (turn d (List.mem_of_getElem? hd)) fun ρ2 h2 => ets_nil ⟨fun _ => h2.mono fun o ρ4 ⟨e1, e2⟩ => ⟨?_, e2⟩, fun z => by cases z⟩
    subst e1
    rw [List.take_succ, hd]
    simp
  · rintro acc ρ' ⟨ea, er⟩
    subst ea er
    rw [List.take_length]
    exact done
/-- each item by f, where f says none the element raises -/
theorem lc_try {vs : List Nat} {Ξb : Exc → Rho → Prop} {kk : List O → Rho → Prop} {ds : List D} {ρ1 : Rho} (f : D → Option O) (hl : ds.length ≤ 16000000)
    (turn : ∀ d ∈ ds, TGt (C.blk scope) tg sl d (wipeR ρ1 vs) (fun ρ2 => EV (C.blk scope) elt ρ2 (fun o ρ4 => f d = some o ∧ wipeR ρ4 vs = wipeR ρ1 vs) Ξb)) (done : ∀ acc, ds.map f = acc.map some → kk acc (wipeR (wipeR ρ1 vs) vs)) : LcAsk C scope tg elt [] sl vs Ξb kk ds ρ1 := by
  refine ⟨hl, fun i acc ρ' => (ds.take i).map f = acc.map some ∧ ρ' = wipeR ρ1 vs, ⟨by simp, rfl⟩, ?_, ?_⟩
  · rintro i d acc ρ' hd ⟨ea, er⟩
    subst er
    refine TGt.imp (turn d (List.mem_of_getElem? hd)) fun ρ2 h2 => ets_nil ⟨fun _ => h2.mono fun o ρ4 ⟨e1, e2⟩ => ⟨?_, e2⟩, fun z => by cases z⟩
    rw [List.take_succ, hd, List.map_append, ea]
    simp [e1]
  · rintro acc ρ' ⟨ea, er⟩
    subst er
    rw [List.take_length] at ea
    exact done acc ea
/-- those that p takes, by f -/
theorem lc_filter {c : Expr} {vs : List Nat} {Ξb : Exc → Rho → Prop} {kk : List O → Rho → Prop} {ds : List D} {ρ1 : Rho} (p : D → Bool) (f : D → O) (hl : ds.length ≤ 16000000)
    (turn : ∀ d ∈ ds, TGt (C.blk scope) tg sl d (wipeR ρ1 vs) (fun ρ2 => ET (C.blk scope) c ρ2 (fun b ρ3 => b = p d ∧ wipeR ρ3 vs = wipeR ρ1 vs ∧ (p d = true → EV (C.blk scope) elt ρ3 (fun o ρ4 => o = f d ∧ wipeR ρ4 vs = wipeR ρ1 vs) Ξb)) Ξb)) (done : kk ((ds.filter p).map f) (wipeR (wipeR ρ1 vs) vs)) :
    LcAsk C scope tg elt [c] sl vs Ξb kk ds ρ1 := by
  refine ⟨hl, fun i acc ρ' => acc = ((ds.take i).filter p).map f ∧ ρ' = wipeR ρ1 vs, ⟨by simp, rfl⟩, ?_, ?_⟩
  · rintro i d acc ρ' hd ⟨ea, er⟩
    subst ea er
    refine TGt.imp (turn d (List.mem_of_getElem? hd)) fun ρ2 h2 => ets_one (ET.imp h2 fun b ρ3 ⟨e1, e2, e3⟩ => ⟨fun hb => ?_, fun hb => ⟨?_, e2⟩⟩)
    · subst e1
      refine (e3 hb).mono fun o ρ4 ⟨e4, e5⟩ => ⟨?_, e5⟩
      subst e4
      rw [List.take_succ, hd]
      simp [List.filter_append, hb]
    · subst e1
      rw [List.take_succ, hd]
      simp [List.filter_append, hb]
  · rintro acc ρ' ⟨ea, er⟩
    subst ea er
    rw [List.take_length]
    exact done
end
end Fr

set_option Elab.async false
set_option linter.all false
set_option maxRecDepth 100000
set_option maxHeartbeats 2000000
/-! Fr8: a def keeps its spec; the law's end. -/
namespace Fr
open PySem PySem.Spec PyProof.Rows L2

def NoF {K : PySem.W.Frag} : Nat → List Addr := fun _ => []
def shF (S : List Addr) (fp : Nat → List Addr) : Nat → List Addr
  | 0 => S
  | n + 1 => fp n
/-- the slots of a def's start -/
theorem SR.start {K : PySem.W.Frag} {F H : Hp} (ex : Ex F H) : ∀ {vs : List V} {os : List O} {S : List Addr} (n : Nat), Reps K F H vs os S →
    ∃ fp, SR K F H (vs.map some ++ List.replicate n none) (os.map some ++ List.replicate n none) fp ∧ ∀ q, own fp q → q ∈ S
  | _, _, _, n, .nil => ⟨fun _ => [], ⟨by simp, ex, fun i o h => by
      simp only [List.map_nil, List.nil_append, List.getElem?_replicate] at h
      split at h <;> (cases h), fun _ _ => rfl, fun _ _ _ _ h => (by cases h)⟩, fun q ⟨j, h⟩ => (by cases h)⟩
  | _, _, _, n, @Reps.cons _ _ _ v vs o os S T r t d => by
    obtain ⟨fp, s, m⟩ := SR.start ex n t
    refine ⟨shF S fp, ⟨by have := s.len; simpa using this, ex, fun i o' h => ?_, fun i h => ?_, fun a b hab q hq hq' => ?_⟩, fun q ⟨j, h⟩ => ?_⟩
    · cases i with
      | zero =>
        have e : o = o' := by simpa using h
        subst e
        exact ⟨v, by simp, r⟩
      | succ i =>
        obtain ⟨w, e, r'⟩ := s.slot i o' (by simpa using h)
        exact ⟨w, by simpa using e, r'⟩
    · cases i with
      | zero => exact absurd (by simp) (h o)
      | succ i => exact s.nil i fun o' z => h o' (by simpa using z)
    · cases a with
      | zero =>
        cases b with
        | zero => exact hab rfl
        | succ b => exact d q hq (m q ⟨b, hq'⟩)
      | succ a =>
        cases b with
        | zero => exact d q hq' (m q ⟨a, hq⟩)
        | succ b => exact s.dis a b (fun e => hab (by rw [e])) q hq hq'
    · cases j with
      | zero => exact List.mem_append_left _ h
      | succ j => exact List.mem_append_right _ (m q ⟨j, h⟩)
/-- the arguments as they are at a def's end: frozen ones stay, the others are read from the pinned slots P -/
def Outs (P : List Nat) (ρ : Rho) : Nat → List O → List O → Prop
  | _, [], [] => True
  | j, o :: os, o' :: os' => ((∃ d, o = .fz d ∧ o' = .fz d) ∨ (j ∈ P ∧ ρ[j]? = some (some o'))) ∧ Outs P ρ (j + 1) os os'
  | _, _, _ => False
def retΦ (P : List Nat) (os : List O) (k : O → List O → Prop) (Ξ : Exc → List O → Prop) : Fl → Rho → Prop
  | .nx, ρ => ∃ os', Outs P ρ 0 os os' ∧ k (.fz .non) os'
  | .ret o, ρ => ∃ os', Outs P ρ 0 os os' ∧ k o os'
  | .exc c, ρ => ∃ os', Outs P ρ 0 os os' ∧ Ξ c os'
  | _, _ => False
theorem Outs.reps {K : PySem.W.Frag} {F H F' H' : Hp} {σ' : L2.St} {ρ' : Rho} {fp' : Nat → List Addr} {P : List Nat} (s : SR K F' H' σ' ρ' fp') (ef : Ex F F') : ∀ {vs : List V} {os os' : List O} {S : List Addr} (j : Nat), Reps K F H vs os S → Outs P ρ' j os os' →
    (∀ i v, i + j ∈ P → vs[i]? = some v → σ'[i + j]? = some (some v)) → ∃ A', Reps K F' H' vs os' A' ∧ ∀ q ∈ A', ∃ i, j ≤ i ∧ q ∈ fp' i
  | _, _, [], _, j, .nil, _, _ => ⟨[], .nil, fun q h => by cases h⟩
  | _, _, _ :: _, _, j, .nil, h, _ => h.elim
  | _, _, [], _, j, .cons _ _ _, h, _ => h.elim
  | _, _, o' :: os', _, j, @Reps.cons _ _ _ v vs o os S T r t d, ⟨h1, h2⟩, hp => by
    obtain ⟨A2, r2, m2⟩ := Outs.reps s ef (j + 1) t h2 fun i w hi e => by
      have := hp (i + 1) w (by rw [Nat.add_right_comm]; exact hi) (by simpa using e)
      rw [Nat.add_right_comm] at this
      exact this
    rcases h1 with ⟨dd, e1, e2⟩ | ⟨hj, e⟩
    · subst e1 e2
      refine ⟨A2, ?_, fun q hq => ?_⟩
      · exact Reps.cons (S := []) (.fz (r.at_fz.mono ef)) r2 (fun _ z => by cases z)
      · obtain ⟨i, h, h'⟩ := m2 q hq
        exact ⟨i, by omega, h'⟩
    · obtain ⟨w, ew, rw'⟩ := s.slot j o' e
      have := hp 0 v (by rw [Nat.zero_add]; exact hj) rfl
      rw [Nat.zero_add, ew] at this
      cases this
      refine ⟨fp' j ++ A2, .cons rw' r2 fun q hq hm => ?_, fun q hq => ?_⟩
      · obtain ⟨i, h, h'⟩ := m2 q hm
        exact s.dis j i (by omega) q hq h'
      · rcases List.mem_append.mp hq with z | z
        · exact ⟨j, Nat.le_refl _, z⟩
        · obtain ⟨i, h, h'⟩ := m2 q z
          exact ⟨i, by omega, h'⟩
theorem hr_un {lv : Nat} {A : Around} (hr : Room lv A) : A.units + 64 < cLine := by have := hr.un; omega
/-- THE RULE for a def -/
theorem fn_def {G : Gx} {x qual : Str} {params : Arguments} {body : List Stmt} {scope : Scope} {f : Addr} {fd : FuncData} {ps N : List Str} {lv : Nat} {dv : List V} {S : FSpec} {P : List Nat}
    (F : FunD G.K x qual params body scope dv [] f fd) (sc : FnScope N ps scope) 
    (hS : ∀ os k Ξ, S os k Ξ → os.length = ps.length ∧ SV { G := G, lv := lv, N := N, sc := scope, top := true } P body (os.map some ++ List.replicate (N.length - os.length) none) (retΦ P os k Ξ)) : FnOk G.P G.w G.K G.mg G.base (L2.CX G.P G.w) (lv + 1) f fd ps (spOf G S) := by
  refine FunD.ok F sc (fun vs H Q E h => ?_) fun cdv A outer s H vs Q E hr h => ?_
  · obtain ⟨os, F0, A0, k, Ξ, _, r, h1, _⟩ := h
    rw [r.length]
    exact (hS os k Ξ h1).1
  · obtain ⟨os, F0, A0, k, Ξ, ex, r, h1, hQ, hE⟩ := h
    obtain ⟨hl, hv⟩ := hS os k Ξ h1
    refine ⟨_, pss_w, ?_⟩
    have hlen : vs.length = os.length := r.length
    obtain ⟨fp, s0, m0⟩ := SR.start ex (N.length - vs.length) r
    have hx : XIs { G := G, lv := lv, N := N, sc := scope, top := true } (cxOf (L2.CX G.P G.w) G.P G.w G.K G.mg G.base N qual scope f cdv A outer s H E) :=
      ⟨rfl, rfl, rfl, rfl, rfl, rfl, sc.nd, rfl, fun _ => hr, fun _ => rfl, hr_un hr, (by intro a c e; cases e), fun _ => ⟨rfl, rfl⟩, fun _ x => rfl⟩
    refine hv _ hx (fun cls d _ H => E cls d H) (L2.takes_of rfl rfl rfl rfl) (L2.passes_of rfl) _ F0 H fp _ (by rw [← hlen]; exact s0) ?_
    have fin : ∀ {σ' : L2.St} {ρ' : Rho} {F' H' : Hp} {fp' : Nat → List Addr} {os' : List O}, SR G.K F' H' σ' ρ' fp' → Ex F0 F' → Pin P (L2.start N vs) σ' → Outs P ρ' 0 os os' → ∃ A', Reps G.K F' H' vs os' A' ∧ ∀ q ∈ A', own fp' q := fun {σ' ρ' F' H' fp' os'} s' ef p o => by
      obtain ⟨A', r', m'⟩ := Outs.reps s' ef 0 r o fun i v hi e => by
        rw [p _ hi]
        unfold L2.start
        rw [Nat.add_zero, List.getElem?_append_left (by rw [List.length_map]; exact (List.getElem?_eq_some_iff.mp e).1), List.getElem?_map, e]
        rfl
      exact ⟨A', r', fun q hq => let ⟨i, _, h⟩ := m' q hq; ⟨i, h⟩⟩
    have base : ∀ {B : Addr → Prop} {F' H' : Hp}, Mv (own fp) F0 H B F' H' → Mv (· ∈ A0) F0 H B F' H' := fun m => m.more m0
    refine ⟨?_, ?_, fun _ _ _ _ _ z => z.elim, fun _ _ _ _ _ z => z.elim, ?_⟩
    · rintro c ρ' σ' F' H' fp' cls d ⟨os', o, q⟩ s' p xr m
      obtain ⟨A', r', ma⟩ := fin s' m.ef p o
      exact hE c os' cls d F' H' A' q s'.ex r' xr ((base m).less ma)
    · rintro ρ' σ' F' H' fp' ⟨os', o, q⟩ s' p m
      obtain ⟨A', r', ma⟩ := fin s' m.ef p o
      exact hQ _ os' _ F' H' A' [] q s'.ex r' (.fz .non) (fun _ z => by cases z) ((base m).less fun q hq => hq.elim (ma q) fun z => by cases z)
    · rintro o0 ρ' σ' v F' H' fp' T ⟨os', o, q⟩ s' p rv dv m
      obtain ⟨A', r', ma⟩ := fin s' m.ef p o
      exact hQ _ os' _ F' H' A' T q s'.ex r' rv (fun q hq z => dv q hq (ma q z)) ((base m).less fun q hq => hq.elim (fun z => .inl (ma q z)) .inr)
theorem fok_def {G : Gx} {x qual : Str} {params : Arguments} {body : List Stmt} {scope : Scope} {f : Addr} {fd : FuncData} {ps N : List Str} {lv : Nat} {dvs : List D} {dv : List V} {S : FSpec} {P : List Nat}
    (F : FunD G.K x qual params body scope dv [] f fd) (sc : FnScope N ps scope) (hm : G.mg x = some (.ref f)) (hb : ∃ ds, Vals dv ds ∧ Binds G.K fd ps ds) (hdv : ∀ F, AtL G.K F dv dvs)
    (hS : ∀ os k Ξ, S os k Ξ → os.length = ps.length ∧ SV { G := G, lv := lv, N := N, sc := scope, top := true } P body (os.map some ++ List.replicate (N.length - os.length) none) (retΦ P os k Ξ)) : FOK G (lv + 1) x dvs S := by
  obtain ⟨ds, hd, hb⟩ := hb
  exact ⟨f, fd, ps, ds, dv, lv + 1, hm, F.kp, hb, hd, hdv, Nat.le_refl _, fn_def F sc hS⟩
end Fr

set_option Elab.async false
set_option linter.all false
set_option maxRecDepth 100000
set_option maxHeartbeats 2000000
/-! Fr9: raise, try, isinstance of a caught error. -/
namespace Fr
open PySem PySem.Spec PyProof.Rows L2

/-- an own error class without fields, X('m') -/
def ExcK (G : Gx) (x : Str) : Prop := ∃ a, G.mg x = some (.ref a) ∧ PySem.W.excIn G.K a He.veBase "ValueError.__new__" = true ∧ PySem.W.keepIn G.K (.ref a) = true ∧ PySem.W.subIn G.K (.ref a) (.type "BaseException") = some true ∧ PySem.W.typeIn G.K (.ref a) = some (.type "type")
/-- does the clause 'except x' take an error of class c -/
def Hnd (G : Gx) (c x : Str) (b : Bool) : Prop := ∃ a cx, G.mg c = some (.ref a) ∧ G.mg x = some (.ref cx) ∧ PySem.W.exmOne G.K (.ref a) (.ref cx) = some b
/-- isinstance(e, x), e of class c -/
def IsE (G : Gx) (c x : Str) (b : Bool) : Prop := ∃ a cx, G.mg c = some (.ref a) ∧ G.mg x = some (.ref cx) ∧ ExcC G.K a ∧ PySem.W.kitOne G.K (.ref a) (.ref cx) = some b
theorem SR.slots {K : PySem.W.Frag} {F H : Hp} {σ σ' : L2.St} {ρ : Rho} {fp : Nat → List Addr} (s : SR K F H σ ρ fp) (hl : σ'.length = σ.length) (h : ∀ (j : Nat) (o : O), ρ[j]? = some (some o) → σ'[j]? = σ[j]?) : SR K F H σ' ρ fp :=
  ⟨by rw [hl]; exact s.len, s.ex, fun i o e => by
    obtain ⟨v, e1, r⟩ := s.slot i o e
    exact ⟨v, by rw [h i o e]; exact e1, r⟩, s.nil, s.dis⟩
theorem SR.gone {K : PySem.W.Frag} {F H : Hp} {σ : L2.St} {ρ : Rho} {fp : Nat → List Addr} (s : SR K F H σ ρ fp) (i : Nat) : SR K F H (σ.set i none) (ρ.set i none) (wo fp i) :=
  (s.drop i).slots List.length_set fun j o e => by
    rcases set_get e with ⟨_, z⟩ | ⟨hn, _⟩
    · cases z
    · rw [List.getElem?_set_ne hn]
section
variable {C : Ctx} {P : List Nat} {ρ : Rho} {Φ : Fl → Rho → Prop} {body suite : List Stmt} {b₀ : Stmt}
theorem s_raise {x m : Str} {j : Nat} {p p2 p3 pos : Pos} (ek : ExcK C.G x) (h : Φ (.exc { name := x }) ρ) (hsu : C.su = none := by rfl) (hg : C.sc.names.lookup x = some .globalImplicit := by rfl) (hdb : (x == ("__debug__" : Str)) = false := by decide) :
    S1 C P (.Raise (some (.Call (.Name x p) [.Constant (.str m) j p2] [] p3)) none pos) ρ Φ := by
  intro X hx W tk po σ F H fp D s k
  obtain ⟨a, gm, hin, kp, hsub, hty⟩ := ek
  refine w_s (L2.ps_raise (hx.calm hsu) tk (L2.pmk_own PySem.F.excBase_ValueError (by rw [hx.K]; exact hin) (by rw [hx.mg]; exact gm) (by rw [hx.K]; exact kp) (raises_own (by rw [hx.K]; exact hsub) (by rw [hx.K]; exact hty)) (hx.gl hg) hdb)) ?_
  exact k.exc _ ρ σ F H fp _ _ h s .refl ⟨a, gm, rfl, rfl⟩ .refl
theorem XIs.tr {X : Cx} (hx : XIs C X) (hsu : C.su = none) (pn : List (Addr × Obj)) (xe : Value → Shared → Prop) : XIs C (X.tr pn xe) :=
  ⟨hx.P, hx.w, hx.K, hx.mg, hx.base, hx.N, hx.nd, hx.sc, fun h => hx.rm h, fun h => hx.calm h, hx.un, (fun a c e => by rw [hsu] at e; cases e), hx.top, hx.fn⟩
def Ctx.inSu (C : Ctx) (a : Addr) (c : Exc) : Ctx := { C with su := some (a, c) }
theorem XIs.inSu {X : Cx} (hx : XIs C X) {a : Addr} {c : Exc} {oe : Obj} {pn : List (Addr × Obj)} {cls : Value} {d : Option Addr} {F H : Hp} (hz : Zc cls d oe) (hf : ∃ vs, oe.data = .fields vs) (xr : XR C.G c cls d F H) : XIs (C.inSu a c) (X.suite a ((a, oe) :: pn)) := by
  refine ⟨hx.P, hx.w, hx.K, hx.mg, hx.base, hx.N, hx.nd, hx.sc, (fun h => by cases h), (fun h => by cases h), hx.un, fun a' c' e => ?_, hx.top, hx.fn⟩
  have e' : some (a, c) = some (a', c') := e
  cases e'
  obtain ⟨ca, g, e1, e2⟩ := xr
  refine ⟨X, oe, pn, cls, d, rfl, hz, hf, ca, g, e1, ?_⟩
  revert e2
  cases c.fld with
  | none => exact id
  | some q => exact fun ⟨dd, _, e, _⟩ => ⟨dd, e⟩
def suΦ (i : Nat) (Φ : Fl → Rho → Prop) : Fl → Rho → Prop
  | .exc _, _ => False
  | .ret o, ρ => Φ (.ret o) ρ
  | fl, ρ => Φ fl (ρ.set i none)
def tryΦ (C : Ctx) (P : List Nat) (x : Str) (i : Nat) (suite : List Stmt) (Φ : Fl → Rho → Prop) : Fl → Rho → Prop
  | .exc c, ρ => (Hnd C.G c.name x true ∧ ∀ a, SV (C.inSu a c) P suite (ρ.set i (some (.fz (.exn a)))) (suΦ i Φ)) ∨ (Hnd C.G c.name x false ∧ Φ (.exc c) ρ)
  | fl, ρ => Φ fl ρ
theorem s_try_as {x n : Str} {i : Nat} {np pos pos' : Pos} (h : SV C P body ρ (tryΦ C P x i (b₀ :: suite) Φ)) (hP : i ∉ P := by decide) (hN : C.N[i]? = some n := by rfl) (hl : C.sc.names.lookup n = some .local := by rfl)
    (hx0 : ∃ cx, C.G.mg x = some (.ref cx)) (hg : C.sc.names.lookup x = some .globalImplicit := by rfl) (hdb : (x == ("__debug__" : Str)) = false := by decide) (ht : C.top = true := by rfl) (hsu : C.su = none := by rfl) :
    S1 C P (.Try body [.ExceptHandler (some (.Name x np)) (some n) (b₀ :: suite) pos'] [] [] pos) ρ Φ := by
  intro X hx W tk po σ F H fp D s k
  obtain ⟨cx, gx⟩ := hx0
  refine w_s (L2.ps_try_as (c := .ref cx) (i := i) (Wout := W) (tb := fun W' D σ H => ∀ pn xe, Takes (X.tr pn xe) W' → PassesOwn (model X.prog X.w) X.A X.env xe → wSs (X.tr pn xe) body D σ H)
    (ts := fun a cls d D σ H => ∀ oe pn, Zc cls d oe → (∃ vs, oe.data = .fields vs) → wSs (X.suite a ((a, oe) :: pn)) (b₀ :: suite) D σ H)
    (hx.top ht).1 (hx.top ht).2 hx.nd (by rw [hx.N]; exact hN) (by show X.env.scope.names.lookup n = _; rw [hx.sc]; exact hl) ⟨hx.gl hg, hdb, .inl (by rw [hx.mg]; exact gx)⟩ tk
    (fun W' pn xe tk' po' => ⟨fun pins st σ H D I q => q pn xe tk' po' pins st I⟩) (fun a oe cls d pn hz hf => ⟨fun pins st σ H D I q => q oe pn hz hf pins st I⟩)) ?_
  intro pn xe tk' po'
  refine h (X.tr pn xe) (hx.tr hsu pn xe) _ tk' po' σ F H fp D s ⟨?_, fun ρ' => k.nx ρ', fun ρ' => k.bk ρ', fun ρ' => k.ct ρ', fun o => k.rt o⟩
  intro c ρ' σ' F' H' fp' cls d q s' p' xr m
  obtain ⟨ca, gm, ec, _⟩ := id xr
  have fix : ∀ {b : Bool}, Hnd C.G c.name x b → PySem.W.exmOne X.K cls (.ref cx) = some b := fun {b} ⟨a1, a2, g1, g2, e⟩ => by
    rw [gm] at g1; cases g1
    rw [gx] at g2; cases g2
    rw [hx.K, ec]; exact e
  rcases q with ⟨hh, q⟩ | ⟨hh, q⟩
  · refine ⟨true, fix hh, fun _ a na oe pn' hz hf => ?_, fun z => by cases z⟩
    obtain ⟨fp2, s2, m2⟩ := s'.store (S := []) (.fz (.exn (a := a))) (fun _ z => by cases z) i
    have m2' : Mv (own fp) F H (own fp2) F' H' := m.less fun q hq => (m2 q hq).elim id fun z => by cases z
    have p2 : Pin P σ (σ'.set i (some (.ref a))) := fun j hj => by
      rw [List.getElem?_set_ne (fun z => hP (by rw [z]; exact hj))]
      exact p' j hj
    have k2 := k.along p2 m2'
    have gone : ∀ {σ3 : L2.St} {j : Nat}, j ∈ P → (σ3.set i none)[j]? = σ3[j]? := fun {σ3 j} hj => List.getElem?_set_ne (fun z => hP (by rw [z]; exact hj))
    refine q a (X.suite a ((a, oe) :: pn')) (hx.inSu hz hf xr) (fun _ _ _ _ => False) (takes0) PassesOwn.never _ F' H' fp2 _ s2 ⟨fun _ _ _ _ _ _ _ _ z => z.elim, ?_, ?_, ?_, ?_⟩
    · intro ρ3 σ3 F3 H3 fp3 q3 s3 p3 m3
      exact k2.nx _ _ F3 H3 _ q3 (s3.gone i) (fun j hj => (gone hj).trans (p3 j hj)) (m3.less fun q hq => own_wo hq)
    · intro ρ3 σ3 F3 H3 fp3 q3 s3 p3 m3
      exact k2.bk _ _ F3 H3 _ q3 (s3.gone i) (fun j hj => (gone hj).trans (p3 j hj)) (m3.less fun q hq => own_wo hq)
    · intro ρ3 σ3 F3 H3 fp3 q3 s3 p3 m3
      exact k2.ct _ _ F3 H3 _ q3 (s3.gone i) (fun j hj => (gone hj).trans (p3 j hj)) (m3.less fun q hq => own_wo hq)
    · intro o ρ3 σ3 v F3 H3 fp3 S q3 s3 p3 r3 d3 m3
      exact k2.rt o ρ3 σ3 v F3 H3 fp3 S q3 s3 p3 r3 d3 m3
  · exact ⟨false, fix hh, (fun z => by cases z), fun _ => k.exc c ρ' σ' F' H' fp' cls d q s' p' xr m⟩
def suΦ0 (Φ : Fl → Rho → Prop) : Fl → Rho → Prop
  | .exc _, _ => False
  | fl, ρ => Φ fl ρ
def tryΦ0 (C : Ctx) (P : List Nat) (x : Str) (suite : List Stmt) (Φ : Fl → Rho → Prop) : Fl → Rho → Prop
  | .exc c, ρ => (Hnd C.G c.name x true ∧ ∀ a, SV (C.inSu a c) P suite ρ (suΦ0 Φ)) ∨ (Hnd C.G c.name x false ∧ Φ (.exc c) ρ)
  | fl, ρ => Φ fl ρ
theorem s_try {x : Str} {np pos pos' : Pos} (h : SV C P body ρ (tryΦ0 C P x (b₀ :: suite) Φ))
    (hx0 : ∃ cx, C.G.mg x = some (.ref cx)) (hg : C.sc.names.lookup x = some .globalImplicit := by rfl) (hdb : (x == ("__debug__" : Str)) = false := by decide) (ht : C.top = true := by rfl) (hsu : C.su = none := by rfl) :
    S1 C P (.Try body [.ExceptHandler (some (.Name x np)) none (b₀ :: suite) pos'] [] [] pos) ρ Φ := by
  intro X hx W tk po σ F H fp D s k
  obtain ⟨cx, gx⟩ := hx0
  refine w_s (L2.ps_try_only (c := .ref cx) (Wout := W) (tb := fun W' D σ H => ∀ pn xe, Takes (X.tr pn xe) W' → PassesOwn (model X.prog X.w) X.A X.env xe → wSs (X.tr pn xe) body D σ H)
    (ts := fun a cls d D σ H => ∀ oe pn, Zc cls d oe → (∃ vs, oe.data = .fields vs) → wSs (X.suite a ((a, oe) :: pn)) (b₀ :: suite) D σ H)
    (hx.top ht).1 (hx.top ht).2 ⟨hx.gl hg, hdb, .inl (by rw [hx.mg]; exact gx)⟩ tk
    (fun W' pn xe tk' po' => ⟨fun pins st σ H D I q => q pn xe tk' po' pins st I⟩) (fun a oe cls d pn hz hf => ⟨fun pins st σ H D I q => q oe pn hz hf pins st I⟩)) ?_
  intro pn xe tk' po'
  refine h (X.tr pn xe) (hx.tr hsu pn xe) _ tk' po' σ F H fp D s ⟨?_, fun ρ' => k.nx ρ', fun ρ' => k.bk ρ', fun ρ' => k.ct ρ', fun o => k.rt o⟩
  intro c ρ' σ' F' H' fp' cls d q s' p' xr m
  obtain ⟨ca, gm, ec, _⟩ := id xr
  have fix : ∀ {b : Bool}, Hnd C.G c.name x b → PySem.W.exmOne X.K cls (.ref cx) = some b := fun {b} ⟨a1, a2, g1, g2, e⟩ => by
    rw [gm] at g1; cases g1
    rw [gx] at g2; cases g2
    rw [hx.K, ec]; exact e
  rcases q with ⟨hh, q⟩ | ⟨hh, q⟩
  · refine ⟨true, fix hh, fun _ a na oe pn' hz hf => ?_, fun z => by cases z⟩
    have k2 := k.along p' m
    exact q a (X.suite a ((a, oe) :: pn')) (hx.inSu hz hf xr) (fun _ _ _ _ => False) (takes0) PassesOwn.never _ F' H' fp' _ s' ⟨fun _ _ _ _ _ _ _ _ z => z.elim, fun ρ' => k2.nx ρ', fun ρ' => k2.bk ρ', fun ρ' => k2.ct ρ', fun o => k2.rt o⟩
  · exact ⟨false, fix hh, (fun z => by cases z), fun _ => k.exc c ρ' σ' F' H' fp' cls d q s' p' xr m⟩
/-- isinstance(e, x) in the suite -/
theorem ev_isE {x n : Str} {i : Nat} {a : Addr} {c : Exc} {b : Bool} {p p1 p2 pos : Pos} {k : O → Rho → Prop} {Ξ : Exc → Rho → Prop} (is : IsE C.G c.name x b) (hm : C.G.mg "isinstance" = none) (hsu : C.su = some (a, c)) (hr : ρ[i]? = some (some (.fz (.exn a)))) (q : k (.fz (.bl b)) ρ) (hf : c.fld = none := by rfl) (hN : C.N[i]? = some n := by rfl)
    (hv : Vis C.sc n := by first | exact .inl rfl | exact .inr (.inl rfl) | exact .inr (.inr rfl)) (hd : (n == ("__debug__" : Str)) = false := by decide) (hcd : (n == ("__classdict__" : Str)) = false := by decide)
    (hg : C.sc.names.lookup ("isinstance" : Str) = some .globalImplicit := by rfl) (hgx : C.sc.names.lookup x = some .globalImplicit := by rfl) (hdx : (x == ("__debug__" : Str)) = false := by decide) : EV C (.Call (.Name "isinstance" p) [.Name n p1, .Name x p2] [] pos) ρ k Ξ := by
  intro X hx W tk σ F H fp s xx
  obtain ⟨ad, ax, g1, g2, ec, ek⟩ := is
  obtain ⟨X0, oe, pn, cls, d, e, hz, hfs, ca, gc, ecl, hfl⟩ := hx.exn a c hsu
  rw [g1] at gc
  cases gc
  rw [hf] at hfl
  have hfl' : d = none := hfl
  subst hfl' ecl e
  obtain ⟨v, ev, r⟩ := s.slot i _ hr
  have av := r.at_fz
  cases av
  refine w_e (pe_callB (call_isE (X := X0) (D := ad) (by rw [show X0.K = C.G.K from hx.K]; exact ec) hz hfs) (hx.gl hg) (by rw [hx.mg]; exact hm) (by decide +kernel) (pa_cons (pe_var (i := i) (by rw [hx.N]; exact hN) (hx.vis hv) hd hcd) (pa_cons (pe_glob (hx.gl hgx) (by rw [hx.mg]; exact g2) (v := .ref ax) rfl hdx) pa_nil (by rfl)) (by rfl)) (by decide) (by decide) (by rfl) (by rfl)) ?_
  refine ⟨_, ev, .ref ax, .ref ax, b, rfl, fun u hu => hu.symm ▸ rfl, (by rw [show X0.K = C.G.K from hx.K]; exact ek), ?_⟩
  exact fin_d s (.bl b) q
end
end Fr

set_option Elab.async false
set_option linter.all false
set_option maxRecDepth 100000
set_option maxHeartbeats 2000000
/-! Fr10: a slot's own list is written. -/
namespace Fr
open PySem PySem.Spec PyProof.Rows L2

section
variable {K : PySem.W.Frag} {F H : Hp} {σ : L2.St} {ρ : Rho} {fp : Nat → List Addr} {i : Nat} {os : List O}
theorem Rep.inv_lst' {v : V} {S : List Addr} (r : Rep K F H v (.lst os) S) : ∃ p vs T, v = .ref p ∧ H p = some (.lst vs) ∧ F p = Option.none ∧ p ∉ T ∧ S = p :: T ∧ Reps K F H vs os T := by
  generalize ho : O.lst os = o at r
  cases r with
  | fz a => cases ho
  | lst h1 h2 h3 t => cases ho; exact ⟨_, _, _, rfl, h1, h2, h3, rfl, t⟩
  | dic _ _ _ _ _ => cases ho
theorem SR.atL (s : SR K F H σ ρ fp) (h : ρ[i]? = some (some (.lst os))) : ∃ p vs T, σ[i]? = some (some (.ref p)) ∧ H p = some (.lst vs) ∧ F p = none ∧ p ∉ T ∧ fp i = p :: T ∧ Reps K F H vs os T := by
  obtain ⟨v, e, r⟩ := s.slot i _ h
  obtain ⟨p, vs, T, rfl, h1, h2, h3, h4, t⟩ := r.inv_lst'
  exact ⟨p, vs, T, e, h1, h2, h3, h4, t⟩
theorem SR.wrL (s : SR K F H σ ρ fp) {p : Addr} {T S T' : List Addr} {vs' : List V} {os' : List O} (e : σ[i]? = some (some (.ref p))) (hp : H p ≠ none) (hF : F p = none) (hT : p ∉ T) (hfp : fp i = p :: T) (dS : ∀ q ∈ S, ¬ own fp q)
    (r : Reps K F H vs' os' T') (sub : ∀ q ∈ T', q ∈ T ∨ q ∈ S) : ∃ fp', SR K F (upd H p (.lst vs')) σ (ρ.set i (some (.lst os'))) fp' ∧ (∀ q, own fp' q → own fp q ∨ q ∈ S) ∧ own fp p := by
  have op : own fp p := ⟨i, by rw [hfp]; exact List.mem_cons_self⟩
  have nT' : p ∉ T' := fun z => by
    rcases sub p z with w | w
    · exact hT w
    · exact dS p w op
  have nwo : ¬ own (wo fp i) p := not_wo s (by rw [hfp]; exact List.mem_cons_self)
  have s1 := (s.drop i).updO hF nwo (.lst vs')
  have hi : i < ρ.length := by rw [s.len]; exact (List.getElem?_eq_some_iff.mp e).1
  have dd : ∀ q ∈ p :: T', ¬ own (wo fp i) q := fun q hq => by
    rcases List.mem_cons.mp hq with z | z
    · rw [z]; exact nwo
    · rcases sub q z with w | w
      · exact not_wo s (by rw [hfp]; exact List.mem_cons_of_mem _ w)
      · exact fun y => dS q w (own_wo y)
  have s2 := s1.put (σ' := σ) (v := .ref p) (o := .lst os') (S := p :: T') (i := i) (.lst upd_same hF nT' (r.updO nT' _)) dd (by rw [List.length_set]; exact hi) rfl e (fun _ _ => rfl)
  rw [List.set_set] at s2
  refine ⟨_, s2, fun q hq => ?_, op⟩
  rcases own_wi hq with z | z
  · exact .inl (own_wo z)
  · rcases List.mem_cons.mp z with w | w
    · rw [w]; exact .inl op
    · rcases sub q w with y | y
      · exact .inl ⟨i, by rw [hfp]; exact List.mem_cons_of_mem _ y⟩
      · exact .inr y
theorem Mv.wr {A B : Addr → Prop} {p : Addr} {o : HO} (ap : A p) (h : ∀ q, B q → A q) : Mv A F H B F (upd H p o) :=
  ⟨Ex.refl F, fun q u e n => ⟨by rw [upd_ne (fun z => n (by rw [z]; exact ap))]; exact e, rfl⟩, fun q hq => .inl (h q hq)⟩
theorem Reps.set {v : V} {o : O} {S : List Addr} (r : Rep K F H v o S) : ∀ {vs : List V} {os : List O} {T : List Addr} (j : Nat), Reps K F H vs os T → (∀ q ∈ S, q ∉ T) → ∃ T', Reps K F H (vs.set j v) (os.set j o) T' ∧ ∀ q ∈ T', q ∈ T ∨ q ∈ S
  | _, _, _, _, .nil, _ => ⟨[], .nil, fun q h => by cases h⟩
  | _, _, _, 0, @Reps.cons _ _ _ w ws p ps A B h t d, x => ⟨S ++ B, .cons r t fun q hq z => x q hq (List.mem_append_right _ z), fun q hq => (List.mem_append.mp hq).elim .inr fun z => .inl (List.mem_append_right _ z)⟩
  | _, _, _, j + 1, @Reps.cons _ _ _ w ws p ps A B h t d, x => by
    obtain ⟨T', t', m⟩ := Reps.set r j t fun q hq z => x q hq (List.mem_append_right _ z)
    refine ⟨A ++ T', .cons h t' fun q hq z => ?_, fun q hq => ?_⟩
    · rcases m q z with y | y
      · exact d q hq y
      · exact x q y (List.mem_append_left _ hq)
    · rcases List.mem_append.mp hq with z | z
      · exact .inl (List.mem_append_left _ z)
      · exact (m q z).imp (List.mem_append_right _) id
theorem Reps.dropLast : ∀ {vs : List V} {os : List O} {T : List Addr}, Reps K F H vs os T → ∃ T', Reps K F H vs.dropLast os.dropLast T' ∧ ∀ q ∈ T', q ∈ T
  | _, _, _, .nil => ⟨[], .nil, fun _ h => h⟩
  | _, _, _, @Reps.cons _ _ _ w ws p ps A B h t d => by
    cases t with
    | nil => exact ⟨[], .nil, fun _ z => by cases z⟩
    | @cons w2 ws2 p2 ps2 A2 B2 h2 t2 d2 =>
      obtain ⟨T', t', m⟩ := Reps.dropLast (Reps.cons h2 t2 d2)
      exact ⟨A ++ T', .cons h t' fun q hq z => d q hq (m q z), fun q hq => (List.mem_append.mp hq).elim (List.mem_append_left _) fun z => List.mem_append_right _ (m q z)⟩
theorem Reps.getFz : ∀ {vs : List V} {os : List O} {T : List Addr} {j : Nat} {d : D}, Reps K F H vs os T → os[j]? = some (.fz d) → ∃ w, vs[j]? = some w ∧ At K F w d
  | _, _, _, _, _, .nil, e => by simp at e
  | _, _, _, 0, _, .cons h _ _, e => by simp at e; subst e; exact ⟨_, rfl, h.at_fz⟩
  | _, _, _, j + 1, _, .cons _ t _, e => by
    obtain ⟨w, e1, a⟩ := Reps.getFz (j := j) t (by simpa using e)
    exact ⟨w, by simpa using e1, a⟩
end
section
variable {C : Ctx} {P : List Nat} {ρ : Rho} {Φ : Fl → Rho → Prop} {k : O → Rho → Prop} {Ξ : Exc → Rho → Prop} {e ie : Expr} {i : Nat} {x : Str} {p p1 pos apos cpos : Pos}
/-- x[ie] = e -/
theorem s_setix (h : EV C e ρ (fun o ρ1 => (∃ o0, ρ1[i]? = some (some o0)) ∧ EV C ie ρ1 (fun oi ρ2 => ∃ os z j, ρ2[i]? = some (some (.lst os)) ∧ oi.frz = .int z ∧ ixN os.length z = some j ∧ Φ .nx (ρ2.set i (some (.lst (os.set j o))))) (fun c ρ2 => Φ (.exc c) ρ2)) (fun c ρ1 => Φ (.exc c) ρ1))
    (hN : C.N[i]? = some x := by rfl) (hv : Vis C.sc x := by first | exact .inl rfl | exact .inr (.inl rfl) | exact .inr (.inr rfl)) (hd : (x == ("__debug__" : Str)) = false := by decide) (hcd : (x == ("__classdict__" : Str)) = false := by decide)
    (ha : ∀ env v, assign (.Subscript (.Name x p) ie p1) env v = (do
      let ov ← holding [v] (eval (.Name x p) env)
      let iv ← holding [v, ov] (eval ie env)
      standAt p1
      holding [v, ov, iv] (setItem ov iv v)
      release [v, ov, iv] []) := by intro _ _; rfl)
    (hs : ∀ env : Env, env.scope = C.sc → swapsWithSole [.Subscript (.Name x p) ie p1] e pos.line env = pure false := by intro _ _; rfl) (hw : ∀ env : Env, env.scope = C.sc → swappedStores [.Subscript (.Name x p) ie p1] e env = pure none := by intro _ _; rfl)
    (h1 : ∀ env, (assignEach [.Subscript (.Name x p) ie p1] env).map (·.2) = [assign (.Subscript (.Name x p) ie p1) env] := by intro _; rfl) : S1 C P (.Assign [.Subscript (.Name x p) ie p1] e pos) ρ Φ := by
  intro X hx W tk po σ F H fp D s k
  refine w_s (ps_asg pe_w (pg_sub (pe_var (i := i) (by rw [hx.N]; exact hN) (hx.vis hv) hd hcd) pe_w set_list (ha _)) (hs _ hx.sc) (hw _ hx.sc) (h1 _)) ?_
  refine (h X hx W tk σ F H fp s k.xp).mono fun v H1 ⟨o, ρ1, F1, fp1, S, ⟨⟨o0, hr0⟩, q1⟩, s1, r1, d1, m1⟩ => ?_
  have hix := q1 X hx W tk σ F1 H1 fp1 s1 (k.xp.along (m1.less fun q z => .inl z))
  have body : ∀ {w : V}, σ[i]? = some (some w) → wE X ie σ H1 fun iv H2 => rSetL w iv v H2 fun H3 => D.nx σ H3 := fun {w} ew => by
    refine hix.mono fun iv H2 ⟨oi, ρ2, F2, fp2, S2, ⟨os, z, j, hr, ez, hj, hq⟩, s2, r2, d2, m2⟩ => ?_
    obtain ⟨F3, s3, a3, ex3, k3⟩ := s2.freeze r2 d2
    rw [ez] at a3
    cases a3
    have hS1 : ∀ q ∈ S, ∃ u, H1 q = some u := fun q hq => (r1.none q hq).2
    have off := m2.off d1 hS1
    have r1' := (r1.along m2 d1)
    have dS : ∀ q ∈ S, ¬ own fp2 q := fun q hq z => off q hq (.inl z)
    have offS2 : ∀ q ∈ S, q ∉ S2 := fun q hq z => off q hq (.inr z)
    have r3 : Rep C.G.K F3 H2 v o S := r1'.mono ex3 (fun q hq => by rw [k3 q (offS2 q hq)]; exact (r1'.none q hq).1) fun _ _ => rfl
    obtain ⟨pp, vs, T, es, hH, hF, hnT, hfp, t⟩ := s3.atL hr
    rw [ew] at es
    cases es
    obtain ⟨T', t', sub⟩ := Reps.set r3 j t fun q hq z => dS q hq ⟨i, by rw [hfp]; exact List.mem_cons_of_mem _ z⟩
    obtain ⟨fp3, s4, m4, op⟩ := s3.wrL ew (by rw [hH]; simp) hF hnT hfp dS t' sub
    refine ⟨pp, vs, z, j, rfl, rfl, hH, by rw [t.length]; exact hj, ?_⟩
    refine k.nx _ σ F3 _ fp3 hq s4 .refl ?_
    have mA : Mv (own fp) F H (fun q => own fp2 q ∨ q ∈ S) F3 H2 := by
      refine ⟨(m1.ef.trans m2.ef).trans ex3, fun q u hq hn => ?_, fun q hq => ?_⟩
      · obtain ⟨a1, a2⟩ := m1.keep q u hq hn
        have hn1 : ¬ own fp1 q := fun z => by
          rcases m1.new q (.inl z) with w | w
          · exact hn w
          · rw [hq] at w; cases w
        obtain ⟨b1, b2⟩ := m2.keep q u a1 hn1
        refine ⟨b1, ?_⟩
        rw [← a2, ← b2]
        refine k3 q fun z => ?_
        rcases m2.new q (.inr z) with w | w
        · exact hn1 w
        · rw [a1] at w; cases w
      · rcases hq with z | z
        · rcases m2.new q (.inl z) with w | w
          · exact m1.new q (.inl w)
          · by_cases hA : own fp q
            · exact .inl hA
            · refine .inr ?_
              cases e : H q with
              | none => rfl
              | some u => rw [(m1.keep q u e hA).1] at w; cases w
        · exact m1.new q (.inr z)
    exact mA.trans (Mv.wr (.inl op) fun q hq => m4 q hq)
  obtain ⟨w, ew, _⟩ := s1.slot i _ hr0
  exact ⟨w, ew, body ew⟩

theorem Mv.own2 {A : Addr → Prop} {F H F1 H1 : Hp} {B : Addr → Prop} {S : List Addr} (m : Mv A F H (fun q => B q ∨ q ∈ S) F1 H1) {p : Addr} {o : HO} {B' : Addr → Prop} (ap : B p) (h : ∀ q, B' q → B q ∨ q ∈ S) : Mv A F H B' F1 (upd H1 p o) :=
  m.trans (Mv.wr (A := fun q => B q ∨ q ∈ S) (.inl ap) h)
/-- x.append(e) -/
theorem ev_append (h : EV C e ρ (fun o ρ1 => ∃ os, ρ1[i]? = some (some (.lst os)) ∧ os.length < 16000000 ∧ k (.fz .non) (ρ1.set i (some (.lst (os ++ [o]))))) Ξ) (hr0 : ∃ os, ρ[i]? = some (some (.lst os)))
    (hN : C.N[i]? = some x := by rfl) (hv : Vis C.sc x := by first | exact .inl rfl | exact .inr (.inl rfl) | exact .inr (.inr rfl)) (hd : (x == ("__debug__" : Str)) = false := by decide) (hcd : (x == ("__classdict__" : Str)) = false := by decide)
    (hbase : ∀ env, attributeBase (.Name x p) "append" env (eval (.Name x p) env) = eval (.Name x p) env := by intro _; rfl)
    (hfew : ∀ env, ((backTo cpos (starEach [e] env)).all (fun x => !x.1) && (backToKw cpos (keywordEach [] env)).all (fun x => x.1.isSome) && decide ([e].length + ([] : List Keyword).length + (if ([] : List Keyword).isEmpty then 0 else 1) < 30)) = true := by intro _; rfl)
    (hline : (apos.endLine == cpos.line) = true := by rfl) (he : ∀ env, starEach [e] env = (false, eval e env) :: starEach [] env := by intro _; rfl) (hpl : ∀ env, (backTo cpos (starEach [] env)).any (·.1) = false := by intro _; rfl) :
    EV C (.Call (.Attribute (.Name x p) "append" apos) [e] [] cpos) ρ k Ξ := by
  intro X hx W tk σ F H fp s xx
  obtain ⟨os0, hr0⟩ := hr0
  obtain ⟨p0, vs0, T0, e0, hH0, _⟩ := s.atL hr0
  refine w_e (pe_bm PySem.F.plainAttrs_list PySem.F.slot_list_append PySem.F.type_list_append (mt_append : MtR X "list.append" rAppend) (pe_var (i := i) (by rw [hx.N]; exact hN) (hx.vis hv) hd hcd) (pa_cons pe_w pa_nil (he _)) (hbase _) (hfew _) hline (he _) (hpl _)) ?_
  refine ⟨.ref p0, e0, .inl ⟨rfl, vs0, .inl (.inl hH0)⟩, ?_⟩
  refine (h X hx W tk σ F H fp s xx).mono fun v H1 ⟨o, ρ1, F1, fp1, S, ⟨os, hr, hl, q⟩, s1, r1, d1, m1⟩ => ?_
  obtain ⟨pp, vs, T, es, hH, hF, hnT, hfp, t⟩ := s1.atL hr
  rw [e0] at es
  cases es
  have dTS : ∀ q ∈ T, q ∉ S := fun q hq z => d1 q z ⟨i, by rw [hfp]; exact List.mem_cons_of_mem _ hq⟩
  obtain ⟨fp3, s4, m4, op⟩ := s1.wrL e0 (by rw [hH]; simp) hF hnT hfp d1 (T' := T ++ (S ++ [])) (t.append (.cons r1 .nil (fun _ _ z => by cases z)) fun q hq z => by
    rcases List.mem_append.mp z with w | w
    · exact dTS q hq w
    · cases w) fun q hq => by
    rcases List.mem_append.mp hq with w | w
    · exact .inl w
    · rw [List.append_nil] at w; exact .inr w
  refine ⟨p0, vs, v, rfl, rfl, hH, ?_, ⟨_, _, F1, fp3, [], q, s4, .fz .non, fun _ z => (by cases z), ?_⟩⟩
  · rw [t.length]; have : (16000000 : Nat) < sizeLine := by decide
    omega
  · exact Mv.own2 m1 op fun q hq => hq.elim (m4 q) fun z => by cases z
/-- x.extend(e): e a list, taken frozen -/
theorem ev_extend (h : EV C e ρ (fun o ρ1 => ∃ os ds, ρ1[i]? = some (some (.lst os)) ∧ o.frz = .lst ds ∧ os.length + ds.length ≤ 16000000 ∧ k (.fz .non) (ρ1.set i (some (.lst (os ++ ds.map .fz))))) Ξ) (hr0 : ∃ os, ρ[i]? = some (some (.lst os)))
    (hN : C.N[i]? = some x := by rfl) (hv : Vis C.sc x := by first | exact .inl rfl | exact .inr (.inl rfl) | exact .inr (.inr rfl)) (hd : (x == ("__debug__" : Str)) = false := by decide) (hcd : (x == ("__classdict__" : Str)) = false := by decide)
    (hbase : ∀ env, attributeBase (.Name x p) "extend" env (eval (.Name x p) env) = eval (.Name x p) env := by intro _; rfl)
    (hfew : ∀ env, ((backTo cpos (starEach [e] env)).all (fun x => !x.1) && (backToKw cpos (keywordEach [] env)).all (fun x => x.1.isSome) && decide ([e].length + ([] : List Keyword).length + (if ([] : List Keyword).isEmpty then 0 else 1) < 30)) = true := by intro _; rfl)
    (hline : (apos.endLine == cpos.line) = true := by rfl) (he : ∀ env, starEach [e] env = (false, eval e env) :: starEach [] env := by intro _; rfl) (hpl : ∀ env, (backTo cpos (starEach [] env)).any (·.1) = false := by intro _; rfl) :
    EV C (.Call (.Attribute (.Name x p) "extend" apos) [e] [] cpos) ρ k Ξ := by
  intro X hx W tk σ F H fp s xx
  obtain ⟨os0, hr0⟩ := hr0
  obtain ⟨p0, vs0, T0, e0, hH0, _⟩ := s.atL hr0
  refine w_e (pe_bm PySem.F.plainAttrs_list PySem.F.slot_list_extend PySem.F.type_list_extend (mt_extend : MtR X "list.extend" rExtend) (pe_var (i := i) (by rw [hx.N]; exact hN) (hx.vis hv) hd hcd) (pa_cons pe_w pa_nil (he _)) (hbase _) (hfew _) hline (he _) (hpl _)) ?_
  refine ⟨.ref p0, e0, .inl ⟨rfl, vs0, .inl (.inl hH0)⟩, ?_⟩
  refine (EV.d (k := fun d ρ1 => ∃ os ds, ρ1[i]? = some (some (.lst os)) ∧ d = .lst ds ∧ os.length + ds.length ≤ 16000000 ∧ k (.fz .non) (ρ1.set i (some (.lst (os ++ ds.map .fz))))) h hx tk s xx).mono fun v H1 ⟨d, ρ1, F1, fp1, ⟨os, ds, hr, ed, hl, q⟩, s1, a1, m1⟩ => ?_
  subst ed
  cases a1 with
  | @lst pa ws _ hh tt =>
    obtain ⟨pp, vs, T, es, hH, hF, hnT, hfp, t⟩ := s1.atL hr
    rw [e0] at es
    cases es
    obtain ⟨fp3, s4, m4, op⟩ := s1.wrL (S := []) e0 (by rw [hH]; simp) hF hnT hfp (fun _ z => by cases z) (T' := T) (reps_append_fz t tt) fun q hq => .inl hq
    refine ⟨p0, pa, vs, ws, rfl, rfl, hH, s1.ex _ _ hh, ?_, ⟨_, _, F1, fp3, [], q, s4, .fz .non, fun _ z => (by cases z), ?_⟩⟩
    · rw [t.length, tt.length]; have : (16000000 : Nat) ≤ sizeLine := by decide
      omega
    · exact (m1.trans (Mv.wr op fun q hq => hq.elim (fun z => (m4 q z).elim id fun w => by cases w) fun z => by cases z))
/-- x.pop(): the last item, frozen -/
theorem ev_pop {os : List O} {d : D} (hr : ρ[i]? = some (some (.lst os))) (hl : os.getLast? = some (.fz d)) (q : k (.fz d) (ρ.set i (some (.lst os.dropLast))))
    (hN : C.N[i]? = some x := by rfl) (hv : Vis C.sc x := by first | exact .inl rfl | exact .inr (.inl rfl) | exact .inr (.inr rfl)) (hd : (x == ("__debug__" : Str)) = false := by decide) (hcd : (x == ("__classdict__" : Str)) = false := by decide)
    (hbase : ∀ env, attributeBase (.Name x p) "pop" env (eval (.Name x p) env) = eval (.Name x p) env := by intro _; rfl) (hline : (apos.endLine == cpos.line) = true := by rfl) : EV C (.Call (.Attribute (.Name x p) "pop" apos) [] [] cpos) ρ k Ξ := by
  intro X hx W tk σ F H fp s xx
  obtain ⟨p0, vs, T, e0, hH, hF, hnT, hfp, t⟩ := s.atL hr
  refine w_e (pe_bm0 PySem.F.plainAttrs_list PySem.F.slot_list_pop PySem.F.type_list_pop (mt_pop : MtR X "list.pop" rPop) (pe_var (i := i) (by rw [hx.N]; exact hN) (hx.vis hv) hd hcd) (hbase _) hline) ?_
  refine ⟨.ref p0, e0, .inl ⟨rfl, vs, .inl (.inl hH)⟩, ?_⟩
  have hg : os[os.length - 1]? = some (.fz d) := by rw [← List.getLast?_eq_getElem?]; exact hl
  obtain ⟨w, ew, aw⟩ := t.getFz hg
  obtain ⟨T', t', sub⟩ := t.dropLast
  obtain ⟨fp3, s4, m4, op⟩ := s.wrL (S := []) e0 (by rw [hH]; simp) hF hnT hfp (fun _ z => by cases z) t' fun q hq => .inl (sub q hq)
  refine ⟨p0, vs, w, rfl, rfl, hH, by rw [t.length]; exact ew, ⟨_, _, F, fp3, [], q, s4, .fz aw, fun _ z => (by cases z), ?_⟩⟩
  exact Mv.wr op fun q hq => hq.elim (fun z => (m4 q z).elim id fun w => by cases w) fun z => by cases z
end

@[simp] theorem isi_non_int : isiD (.non) "int" = false := by show isiS "NoneType" "int" = false; decide +kernel
@[simp] theorem isi_non_bool : isiD (.non) "bool" = false := by show isiS "NoneType" "bool" = false; decide +kernel
@[simp] theorem isi_non_str : isiD (.non) "str" = false := by show isiS "NoneType" "str" = false; decide +kernel
@[simp] theorem isi_non_tuple : isiD (.non) "tuple" = false := by show isiS "NoneType" "tuple" = false; decide +kernel
@[simp] theorem isi_non_list : isiD (.non) "list" = false := by show isiS "NoneType" "list" = false; decide +kernel
@[simp] theorem isi_non_dict : isiD (.non) "dict" = false := by show isiS "NoneType" "dict" = false; decide +kernel
@[simp] theorem ex_non : D.ex (.non) = false := rfl
@[simp] theorem isi_bl_int {b : Bool} : isiD (.bl b) "int" = true := by show isiS "bool" "int" = true; decide +kernel
@[simp] theorem isi_bl_bool {b : Bool} : isiD (.bl b) "bool" = true := by show isiS "bool" "bool" = true; decide +kernel
@[simp] theorem isi_bl_str {b : Bool} : isiD (.bl b) "str" = false := by show isiS "bool" "str" = false; decide +kernel
@[simp] theorem isi_bl_tuple {b : Bool} : isiD (.bl b) "tuple" = false := by show isiS "bool" "tuple" = false; decide +kernel
@[simp] theorem isi_bl_list {b : Bool} : isiD (.bl b) "list" = false := by show isiS "bool" "list" = false; decide +kernel
@[simp] theorem isi_bl_dict {b : Bool} : isiD (.bl b) "dict" = false := by show isiS "bool" "dict" = false; decide +kernel
@[simp] theorem ex_bl {b : Bool} : D.ex (.bl b) = false := rfl
@[simp] theorem isi_int_int {i : Int} : isiD (.int i) "int" = true := by show isiS "int" "int" = true; decide +kernel
@[simp] theorem isi_int_bool {i : Int} : isiD (.int i) "bool" = false := by show isiS "int" "bool" = false; decide +kernel
@[simp] theorem isi_int_str {i : Int} : isiD (.int i) "str" = false := by show isiS "int" "str" = false; decide +kernel
@[simp] theorem isi_int_tuple {i : Int} : isiD (.int i) "tuple" = false := by show isiS "int" "tuple" = false; decide +kernel
@[simp] theorem isi_int_list {i : Int} : isiD (.int i) "list" = false := by show isiS "int" "list" = false; decide +kernel
@[simp] theorem isi_int_dict {i : Int} : isiD (.int i) "dict" = false := by show isiS "int" "dict" = false; decide +kernel
@[simp] theorem ex_int {i : Int} : D.ex (.int i) = false := rfl
@[simp] theorem isi_str_int {z : Str} : isiD (.str z) "int" = false := by show isiS "str" "int" = false; decide +kernel
@[simp] theorem isi_str_bool {z : Str} : isiD (.str z) "bool" = false := by show isiS "str" "bool" = false; decide +kernel
@[simp] theorem isi_str_str {z : Str} : isiD (.str z) "str" = true := by show isiS "str" "str" = true; decide +kernel
@[simp] theorem isi_str_tuple {z : Str} : isiD (.str z) "tuple" = false := by show isiS "str" "tuple" = false; decide +kernel
@[simp] theorem isi_str_list {z : Str} : isiD (.str z) "list" = false := by show isiS "str" "list" = false; decide +kernel
@[simp] theorem isi_str_dict {z : Str} : isiD (.str z) "dict" = false := by show isiS "str" "dict" = false; decide +kernel
@[simp] theorem ex_str {z : Str} : D.ex (.str z) = false := rfl
@[simp] theorem isi_tup_int {xs : List D} : isiD (.tup xs) "int" = false := by show isiS "tuple" "int" = false; decide +kernel
@[simp] theorem isi_tup_bool {xs : List D} : isiD (.tup xs) "bool" = false := by show isiS "tuple" "bool" = false; decide +kernel
@[simp] theorem isi_tup_str {xs : List D} : isiD (.tup xs) "str" = false := by show isiS "tuple" "str" = false; decide +kernel
@[simp] theorem isi_tup_tuple {xs : List D} : isiD (.tup xs) "tuple" = true := by show isiS "tuple" "tuple" = true; decide +kernel
@[simp] theorem isi_tup_list {xs : List D} : isiD (.tup xs) "list" = false := by show isiS "tuple" "list" = false; decide +kernel
@[simp] theorem isi_tup_dict {xs : List D} : isiD (.tup xs) "dict" = false := by show isiS "tuple" "dict" = false; decide +kernel
@[simp] theorem ex_tup {xs : List D} : D.ex (.tup xs) = false := rfl
@[simp] theorem isi_lst_int {xs : List D} : isiD (.lst xs) "int" = false := by show isiS "list" "int" = false; decide +kernel
@[simp] theorem isi_lst_bool {xs : List D} : isiD (.lst xs) "bool" = false := by show isiS "list" "bool" = false; decide +kernel
@[simp] theorem isi_lst_str {xs : List D} : isiD (.lst xs) "str" = false := by show isiS "list" "str" = false; decide +kernel
@[simp] theorem isi_lst_tuple {xs : List D} : isiD (.lst xs) "tuple" = false := by show isiS "list" "tuple" = false; decide +kernel
@[simp] theorem isi_lst_list {xs : List D} : isiD (.lst xs) "list" = true := by show isiS "list" "list" = true; decide +kernel
@[simp] theorem isi_lst_dict {xs : List D} : isiD (.lst xs) "dict" = false := by show isiS "list" "dict" = false; decide +kernel
@[simp] theorem ex_lst {xs : List D} : D.ex (.lst xs) = false := rfl
@[simp] theorem isi_dic_int {ks : List Key} {xs : List D} : isiD (.dic ks xs) "int" = false := by show isiS "dict" "int" = false; decide +kernel
@[simp] theorem isi_dic_bool {ks : List Key} {xs : List D} : isiD (.dic ks xs) "bool" = false := by show isiS "dict" "bool" = false; decide +kernel
@[simp] theorem isi_dic_str {ks : List Key} {xs : List D} : isiD (.dic ks xs) "str" = false := by show isiS "dict" "str" = false; decide +kernel
@[simp] theorem isi_dic_tuple {ks : List Key} {xs : List D} : isiD (.dic ks xs) "tuple" = false := by show isiS "dict" "tuple" = false; decide +kernel
@[simp] theorem isi_dic_list {ks : List Key} {xs : List D} : isiD (.dic ks xs) "list" = false := by show isiS "dict" "list" = false; decide +kernel
@[simp] theorem isi_dic_dict {ks : List Key} {xs : List D} : isiD (.dic ks xs) "dict" = true := by show isiS "dict" "dict" = true; decide +kernel
@[simp] theorem ex_dic {ks : List Key} {xs : List D} : D.ex (.dic ks xs) = false := rfl
@[simp] theorem isi_scr_int {ns : List Int} : isiD (.scr ns) "int" = false := by show isiS "list" "int" = false; decide +kernel
@[simp] theorem isi_scr_bool {ns : List Int} : isiD (.scr ns) "bool" = false := by show isiS "list" "bool" = false; decide +kernel
@[simp] theorem isi_scr_str {ns : List Int} : isiD (.scr ns) "str" = false := by show isiS "list" "str" = false; decide +kernel
@[simp] theorem isi_scr_tuple {ns : List Int} : isiD (.scr ns) "tuple" = false := by show isiS "list" "tuple" = false; decide +kernel
@[simp] theorem isi_scr_list {ns : List Int} : isiD (.scr ns) "list" = true := by show isiS "list" "list" = true; decide +kernel
@[simp] theorem isi_scr_dict {ns : List Int} : isiD (.scr ns) "dict" = false := by show isiS "list" "dict" = false; decide +kernel
@[simp] theorem ex_scr {ns : List Int} : D.ex (.scr ns) = false := rfl
@[simp] theorem ty_non_N : (D.non.ty == "NoneType") = true := rfl
@[simp] theorem ty_tup_N {xs : List D} : ((D.tup xs).ty == "NoneType") = false := by show ("tuple" == "NoneType") = false; decide +kernel
@[simp] theorem ty_bl_N {b : Bool} : ((D.bl b).ty == "NoneType") = false := by show ("bool" == "NoneType") = false; decide +kernel
@[simp] theorem ty_int_N {i : Int} : ((D.int i).ty == "NoneType") = false := by show ("int" == "NoneType") = false; decide +kernel
@[simp] theorem ty_str_N {z : Str} : ((D.str z).ty == "NoneType") = false := by show ("str" == "NoneType") = false; decide +kernel
@[simp] theorem ty_lst_N {xs : List D} : ((D.lst xs).ty == "NoneType") = false := by show ("list" == "NoneType") = false; decide +kernel
theorem frz_map (f : D → O) : ∀ ds : List D, (O.lst (ds.map f)).frz = .lst (ds.map fun d => (f d).frz)
  | [] => by simp
  | d :: ds => by
    have h := frz_map f ds
    rw [frz_lst] at h ⊢
    rw [List.map_cons, frzL_cons, List.map_cons]
    injection h with h
    rw [h]
theorem frz_fzs (ds : List D) : (O.lst (ds.map .fz)).frz = .lst ds := by rw [frz_lst, frzL_fz]
theorem lg_ok {n : Int} (h0 : -1000000000000000000 ≤ n) (h1 : n ≤ 1000000000000000000) : n.natAbs.log2 < 1920 := by
  by_cases e : n.natAbs = 0
  · rw [e]; decide
  · exact Nat.lt_trans ((Nat.log2_lt e).mpr (show n.natAbs < 2 ^ 60 by omega)) (by decide)
section
variable {C : Ctx} {ρ : Rho} {Ξ : Exc → Rho → Prop} {a b c : Expr} {op op' : CmpOp} {pos : Pos}
/-- a chain whose last part is plain -/
theorem et_chainV {k : Bool → Rho → Prop} (h : EV C a ρ (fun x ρ1 => EV C b ρ1 (fun y ρ2 => ∃ dz, (∀ k' : O → Rho → Prop, k' (.fz dz) ρ2 → EV C c ρ2 k' Ξ) ∧ ∃ r r', Cmp op x.frz y.frz r ∧ Cmp op' y.frz dz r' ∧ k (r && r') ρ2) Ξ) Ξ)
    (hm : lastMarks [op, op'] [b, c] = false := by with_unfolding_all rfl) : ET C (.Compare a [op, op'] [b, c] pos) ρ k Ξ :=
  et_chain (EV.mono h fun x ρ1 h1 => EV.mono h1 fun y ρ2 ⟨dz, hc, r, r', c1, c2, q⟩ => ⟨r, c1, fun e => hc _ ⟨r', c2, by subst e; exact q⟩, fun e => by subst e; exact q⟩) hm
theorem ev_chainV {k : O → Rho → Prop} (h : EV C a ρ (fun x ρ1 => EV C b ρ1 (fun y ρ2 => ∃ dz, (∀ k' : O → Rho → Prop, k' (.fz dz) ρ2 → EV C c ρ2 k' Ξ) ∧ ∃ r r', Cmp op x.frz y.frz r ∧ Cmp op' y.frz dz r' ∧ k (.fz (.bl (r && r'))) ρ2) Ξ) Ξ)
    (hm : lastMarks [op, op'] [b, c] = false := by with_unfolding_all rfl) : EV C (.Compare a [op, op'] [b, c] pos) ρ k Ξ :=
  ev_chain (EV.mono h fun x ρ1 h1 => EV.mono h1 fun y ρ2 ⟨dz, hc, r, r', c1, c2, q⟩ => ⟨r, c1, fun e => hc _ ⟨r', c2, by subst e; exact q⟩, fun e => by subst e; exact q⟩) hm
end
theorem signs_at {z : Str} {j : Nat} {d : D} (h : (signs z)[j]? = some d) : ∃ c, z.cps.toList[j]? = some c ∧ d = .str ⟨#[c]⟩ := by
  unfold signs at h
  rw [List.getElem?_map] at h
  cases e : z.cps.toList[j]? with
  | none => rw [e] at h; cases h
  | some c =>
    rw [e] at h
    exact ⟨c, rfl, (Option.some.inj h).symm⟩
theorem sz {n : Nat} (h : n ≤ 16000000) : n ≤ sizeLine := Nat.le_trans h (by decide)
/-- a slot is lent, the arguments behind it may still write it -/
theorem eva_borL {C : Ctx} {es : List Expr} {ρ : Rho} {k : List AO → Rho → Prop} {Ξ : Exc → Rho → Prop} {i : Nat} {x : Str} {pos : Pos} (hr : ∃ o, ρ[i]? = some (some o)) (h : EVA C es ρ (fun as ρ2 => ∃ o, ρ2[i]? = some (some o) ∧ k ((o, some i) :: as) (ρ2.set i none)) Ξ) (hN : C.N[i]? = some x := by rfl) (hv : Vis C.sc x := by first | exact .inl rfl | exact .inr (.inl rfl) | exact .inr (.inr rfl))
    (hd : (x == ("__debug__" : Str)) = false := by decide) (hcd : (x == ("__classdict__" : Str)) = false := by decide) : EVA C (.Name x pos :: es) ρ k Ξ := by
  intro X hx W tk σ F H fp s xx
  obtain ⟨o0, hr0⟩ := hr
  obtain ⟨v, e, _⟩ := s.slot i _ hr0
  refine w_a (pa_cons (pe_var (i := i) (by rw [hx.N]; exact hN) (hx.vis hv) hd hcd) pa_w (by rfl)) ⟨v, e, ?_⟩
  refine wA.mono (h X hx W tk σ F H fp s xx) fun vs H1 ⟨as, ρ1, F1, fp1, S1, ⟨o, hr1, q⟩, s1, r1, d1, m1, b1⟩ => ?_
  obtain ⟨v', e', r'⟩ := s1.slot i _ hr1
  rw [e] at e'
  cases e'
  refine ⟨(o, some i) :: as, ρ1.set i none, F1, wo fp1 i, fp1 i ++ S1, q, s1.drop i, .cons r' r1 (fun q hq z => d1 q z ⟨i, hq⟩), fun q hq => ?_, ?_, fun j i' o' hj => ?_⟩
  · rcases List.mem_append.mp hq with z | z
    · exact not_wo s1 z
    · exact fun w => d1 q z (own_wo w)
  · refine m1.less fun q hq => ?_
    rcases hq with z | z
    · exact .inl (own_wo z)
    · rcases List.mem_append.mp z with w | w
      · exact .inl ⟨i, w⟩
      · exact .inr w
  · cases j with
    | zero =>
      have e2 : (o, some i) = (o', some i') := by simpa using hj
      cases e2
      exact ⟨v, rfl, e⟩
    | succ j =>
      obtain ⟨w, e1, e2⟩ := b1 j i' o' (by simpa using hj)
      exact ⟨w, by simpa using e1, e2⟩
/-- a statement behind which only R is known -/
theorem sv_join {C : Ctx} {P : List Nat} {st : Stmt} {rest : List Stmt} {ρ : Rho} {Φ : Fl → Rho → Prop} (R : Rho → Prop) (h1 : S1 C P st ρ (thn' R Φ)) (h2 : ∀ ρ', R ρ' → SV C P rest ρ' Φ) : SV C P (st :: rest) ρ Φ :=
  sv_cons (h1.mono fun fl ρ' q => by
    cases fl with
    | nx => exact h2 ρ' q
    | _ => exact q)
section
variable {C : Ctx} {ρ : Rho} {Ξ : Exc → Rho → Prop} {tg : Expr} {k : List D → Rho → Prop} {pos : Pos}
theorem ei_zipT {a b : Expr} {p tpos : Pos} {elts : List Expr} {kk : Nat} (hm : C.G.mg "zip" = none) (h : EV C a ρ (fun o ρ1 => EV C b ρ1 (fun o2 ρ2 => ∃ ds es, o.frz = .tup ds ∧ o2.frz = .tup es ∧ k (List.zipWith (fun d e => .tup [d, e]) ds es) ρ2) Ξ) Ξ) (hg : C.sc.names.lookup ("zip" : Str) = some .globalImplicit := by rfl)
    (hs : ∀ env, starEach [a, b] env = (false, eval a env) :: starEach [b] env := by intro _; rfl) (hs2 : ∀ env, starEach [b] env = (false, eval b env) :: starEach [] env := by intro _; rfl) (hpl : ∀ env, (backTo pos (starEach [b] env)).any (·.1) = false := by intro _; rfl) :
    EI C (.Tuple elts kk tpos) (.Call (.Name "zip" p) [a, b] [] pos) ρ k Ξ := by
  intro X hx W tk σ F H fp s x
  refine w_i (RZ.pi_zipA (hx.gl hg) (by rw [hx.mg]; exact hm) (pa_cons pe_w (pa_cons pe_w pa_nil (hs2 _)) (hs _)) (hs _) (hpl _)) ((EV.d (k := fun d ρ1 => EV C b ρ1 (fun o2 ρ2 => ∃ ds es, d = .tup ds ∧ o2.frz = .tup es ∧ k (List.zipWith (fun d e => .tup [d, e]) ds es) ρ2) Ξ) h hx tk s x).mono fun v H1 ⟨d, ρ1, F1, fp1, h1, s1, a1, m1⟩ => ?_)
  refine (EV.d (k := fun d2 ρ2 => ∃ ds es, d = .tup ds ∧ d2 = .tup es ∧ k (List.zipWith (fun d e => .tup [d, e]) ds es) ρ2) h1 hx tk s1 (x.along m1)).mono fun u H2 ⟨d2, ρ2, F2, fp2, ⟨ds, es, e1, e2, q⟩, s2, a2, m2⟩ => ?_
  subst e1
  subst e2
  have a1 := a1.mono m2.ef
  cases a1 with
  | @tup pa vs _ hh t =>
    cases a2 with
    | @tup pb ws _ hh2 t2 =>
      refine ⟨pa, pb, vs, ws, rfl, .inr ⟨(by rw [hx.K]; exact s2.ex.t hh), (by rw [hx.K]; exact s2.ex.t hh2), _, ρ2, F2, fp2, q, s2, m1.trans m2, ?_⟩⟩
      intro i F' H' e1 e2
      have h1 : SqT X.K H' pa vs := by rw [hx.K]; exact e2.t (e1.t hh)
      have h2 : SqT X.K H' pb ws := by rw [hx.K]; exact e2.t (e1.t hh2)
      refine ⟨fun d hd => ?_, fun hi => ⟨vs, ws, h1, h2, ?_⟩⟩
      · rw [List.getElem?_zipWith] at hd
        cases q1 : ds[i]? with
        | none => rw [q1] at hd; cases hd
        | some d1 =>
          cases q2 : es[i]? with
          | none => rw [q1, q2] at hd; cases hd
          | some d2 =>
            rw [q1, q2] at hd
            have hd' : D.tup [d1, d2] = d := Option.some.inj hd
            subst hd'
            obtain ⟨v1, ev1, av1⟩ := t.get q1
            obtain ⟨v2, ev2, av2⟩ := t2.get q2
            refine ⟨⟨vs, ws, v1, v2, h1, h2, ev1, ev2⟩, fun y H'' ⟨T, w1, w2, ey, hT, eh, hw1, hw2⟩ => ?_⟩
            subst ey eh
            have e3 := hw1 vs h1
            rw [ev1] at e3
            cases e3
            have e4 := hw2 ws h2
            rw [ev2] at e4
            cases e4
            have g := Gw.new e2 hT (.tup [v1, v2])
            exact ⟨_, .tup (.inl (.inl upd_same)) (.cons (av1.mono (e1.trans g.1)) (.cons (av2.mono (e1.trans g.1)) .nil)), g⟩
      · rw [List.length_zipWith] at hi
        rw [t.length, t2.length]
        omega
end
/-- a slot's own value is frozen from here on -/
theorem sv_frz {C : Ctx} {P : List Nat} {sts : List Stmt} {ρ : Rho} {Φ : Fl → Rho → Prop} {i : Nat} {o : O} (hr : ρ[i]? = some (some o)) (h : SV C P sts (ρ.set i (some (.fz o.frz))) Φ) : SV C P sts ρ Φ := by
  intro X hx W tk po σ F H fp D s k
  obtain ⟨v, e, r⟩ := s.slot i _ hr
  obtain ⟨F2, s2, a2, e2, k2⟩ := (s.drop i).freeze r fun q hq => not_wo s hq
  have hi : i < ρ.length := by rw [s.len]; exact (List.getElem?_eq_some_iff.mp e).1
  have s3 := s2.put (σ' := σ) (v := v) (o := .fz o.frz) (S := []) (i := i) (.fz a2) (fun _ z => by cases z) (by rw [List.length_set]; exact hi) rfl e (fun _ _ => rfl)
  rw [List.set_set] at s3
  refine h X hx W tk po σ F2 H _ D s3 (k.along .refl ⟨e2, fun q u hq hn => ⟨hq, k2 q fun z => hn ⟨i, z⟩⟩, fun q hq => ?_⟩)
  rcases own_wi hq with z | z
  · exact .inl (own_wo z)
  · cases z
theorem ET.cut {C : Ctx} {c : Expr} {ρ : Rho} {k : Bool → Rho → Prop} {Ξ : Exc → Rho → Prop} (v : Bool) (h : ET C c ρ (fun b ρ' => b = v ∧ ρ' = ρ) Ξ) (q : k v ρ) : ET C c ρ k Ξ := by
  intro X hx W tk σ F H fp s x
  refine wT.mono (h X hx W tk σ F H fp s x) fun b H' ⟨ρ', F', fp', ⟨e1, e2⟩, s', m'⟩ => ?_
  subst e1 e2
  exact ⟨_, F', fp', q, s', m'⟩
theorem EV.cut {C : Ctx} {e : Expr} {ρ : Rho} {k : O → Rho → Prop} {Ξ : Exc → Rho → Prop} (v : O) (h : EV C e ρ (fun o ρ' => o = v ∧ ρ' = ρ) Ξ) (q : k v ρ) : EV C e ρ k Ξ :=
  h.mono fun o ρ' ⟨e1, e2⟩ => by subst e1 e2; exact q
theorem Outs.same {P : List Nat} {ρ : Rho} : ∀ (os : List O) (j : Nat), (os.all fun o => match o with | .fz _ => true | _ => false) = true → Outs P ρ j os os
  | [], _, _ => trivial
  | o :: os, j, h => by
    simp only [List.all_cons, Bool.and_eq_true] at h
    refine ⟨.inl ?_, Outs.same os (j + 1) h.2⟩
    cases o with
    | fz d => exact ⟨d, rfl, rfl⟩
    | _ => cases h.1
section
variable {P : List Nat} {os : List O} {k : O → List O → Prop} {Ξ : Exc → List O → Prop} {ρ : Rho} {o o0 o1 : O} {c : Exc}
/-- the ends of a def all of whose arguments are frozen -/
theorem ret_f (q : k o os) (h : (os.all fun o => match o with | .fz _ => true | _ => false) = true := by rfl) : retΦ P os k Ξ (.ret o) ρ := ⟨os, Outs.same os 0 h, q⟩
theorem exc_f (q : Ξ c os) (h : (os.all fun o => match o with | .fz _ => true | _ => false) = true := by rfl) : retΦ P os k Ξ (.exc c) ρ := ⟨os, Outs.same os 0 h, q⟩
theorem nx_f (q : k (.fz .non) os) (h : (os.all fun o => match o with | .fz _ => true | _ => false) = true := by rfl) : retΦ P os k Ξ .nx ρ := ⟨os, Outs.same os 0 h, q⟩
/-- .. whose first argument is lent -/
theorem ret_p (hr : ρ[0]? = some (some o1)) (q : k o (o1 :: os)) (hP : 0 ∈ P := by decide) (h : (os.all fun o => match o with | .fz _ => true | _ => false) = true := by rfl) : retΦ P (o0 :: os) k Ξ (.ret o) ρ := ⟨o1 :: os, ⟨.inr ⟨hP, hr⟩, Outs.same os 1 h⟩, q⟩
theorem exc_p (hr : ρ[0]? = some (some o1)) (q : Ξ c (o1 :: os)) (hP : 0 ∈ P := by decide) (h : (os.all fun o => match o with | .fz _ => true | _ => false) = true := by rfl) : retΦ P (o0 :: os) k Ξ (.exc c) ρ := ⟨o1 :: os, ⟨.inr ⟨hP, hr⟩, Outs.same os 1 h⟩, q⟩
end
def DefIn (G : Gx) (x : Str) (st : Stmt) : Prop := ∃ f fd, FunD G.K x x (defArgs st) (defBody st) (defScope st) [] [] f fd ∧ G.mg x = some (.ref f)
theorem fok_in {G : Gx} {x : Str} {st : Stmt} {ps N : List Str} {lv : Nat} {S : FSpec} {P : List Nat} (h : DefIn G x st) (sc : FnScope N ps (defScope st))
    (hb : ∀ (kV doc pm : Value) (an : Option Addr) (cdv ct : Value) (us : List Value), us.length = ps.length → bindArgs (PySem.W.fnOf x x (defArgs st) (defBody st) (defScope st) .none kV doc pm an cdv ct) ⟨us, []⟩ = pure (ps.zip us))
    (hS : ∀ os k Ξ, S os k Ξ → os.length = ps.length ∧ SV { G := G, lv := lv, N := N, sc := defScope st, top := true } P (defBody st) (os.map some ++ List.replicate (N.length - os.length) none) (retΦ P os k Ξ)) : FOK G (lv + 1) x [] S := by
  obtain ⟨f, fd, F, hm⟩ := h
  refine fok_def F sc hm ⟨[], .nil, ?_⟩ (fun _ => .nil) hS
  exact F.bindsN hb
/-- a loop whose turns change nothing but the forgotten slots -/
theorem for_each {C : Ctx} {P : List Nat} {tg : Expr} {sl : List Nat} {body : List Stmt} {fg : List Nat} {Φ : Fl → Rho → Prop} {ds : List D} {ρ1 : Rho} (J : Nat → Prop) (h0 : J 0)
    (turn : ∀ i d, ds[i]? = some d → J i → TGt C tg sl d (wipeR ρ1 fg) (fun ρ2 => SV C P body ρ2 (forΦ' fg (fun ρ => J (i + 1) ∧ ρ = wipeR ρ1 fg) Φ))) (done : J ds.length → Φ .nx (wipeR ρ1 fg)) : ForAsk C P tg sl body fg Φ ds ρ1 :=
  ⟨fun i ρ' => J i ∧ ρ' = wipeR ρ1 fg, ⟨h0, rfl⟩, fun i d ρ' hd ⟨hj, e⟩ => by subst e; exact turn i d hd hj, fun ρ' ⟨hj, e⟩ => by subst e; exact done hj⟩
end Fr

set_option Elab.async false
set_option linter.all false
set_option maxRecDepth 100000
set_option maxHeartbeats 2000000
/-! Fr11: what every law's pen and take promise. -/
namespace Fr
open PySem PySem.Spec PyProof.Rows L2
def penO (cs : List Int) (a g : Int) : O := .lst [.fz (.lst (cs.map .int)), .fz (.int a), .fz (.int g)]
def S_pen : FSpec := fun os k Ξ => ∃ ns : List Int, os = [.fz (.scr ns)] ∧ ∀ cs : List Int, cs.length ≤ 63 → k (penO cs 0 0) os
def S_take : FSpec := fun os k Ξ => ∃ (cs : List Int) (a g upto : Int), os = [penO cs a g, .fz (.int upto)] ∧ cs.length ≤ 63 ∧ 0 ≤ a ∧ a ≤ 100000 ∧ 0 ≤ g ∧ 0 < upto ∧ upto < 1073741824 ∧
  ∀ r a' g' : Int, 0 ≤ r → r < upto → a ≤ a' → a' ≤ a + 1 → 0 ≤ g' → k (.fz (.int r)) [penO cs a' g', .fz (.int upto)]
theorem cells_eq (ns : List Int) : ∃ cs : List Int, cs.length ≤ 63 ∧ cutD (ns.map D.int) none (some 63) = cs.map D.int := by
  refine ⟨(ns.drop (HT.sIx (ns.map D.int).length 0 none)).take (HT.sIx (ns.map D.int).length (ns.map D.int).length (some 63) - HT.sIx (ns.map D.int).length 0 none), ?_, ?_⟩
  · rw [List.length_take]
    simp only [HT.sIx]
    simp
    omega
  · unfold cutD
    rw [List.map_take, List.map_drop]
theorem sq_bound {a : Int} (h0 : 0 ≤ a) (h1 : a ≤ 100000) : 0 ≤ 7919 * a * a ∧ 7919 * a * a ≤ 79190000000000 := by
  have h2 : 0 ≤ a * a := Int.mul_nonneg h0 h0
  have h3 : a * a ≤ 100000 * 100000 := Int.mul_le_mul h1 h1 h0 (by decide)
  rw [Int.mul_assoc]
  omega
theorem pow_nonneg' {i : Int} (h : 0 ≤ i) (n : Nat) : 0 ≤ i ^ n := Int.pow_nonneg h
theorem cpow_ok {i j : Int} (h0 : 0 ≤ i) (h1 : i < 18446744073709551616) (h2 : 0 ≤ j) (h3 : j ≤ 1000) : CPow i j := ⟨h2, by omega, by omega⟩
theorem at_mod {cs : List Int} {a : Int} (h : cs ≠ []) : ∃ c, L2.atI (cs.map D.int) (a % ((cs.map D.int).length : Int)) = some (.int c) := by
  have hl : 0 < ((cs.map D.int).length : Int) := by
    rw [List.length_map]
    have := List.length_pos_iff.mpr h
    omega
  have h0 := Int.emod_nonneg a (Int.ne_of_gt hl)
  have h1 := Int.emod_lt_of_pos a hl
  generalize a % ((cs.map D.int).length : Int) = z at h0 h1 ⊢
  unfold L2.atI L2.ixN
  rw [if_pos h0, if_pos h1]
  have h2 : z.toNat < cs.length := by rw [List.length_map] at h1; omega
  exact ⟨cs[z.toNat], by simp [h2]⟩
theorem great_ok {b : Bool} {n : Int} (h : (b && decide (10 ^ (18 : Int).toNat ≤ (if n < 0 then -n else n))) = true) : 0 ≤ 2 * ((if n < 0 then -n else n) - 10 ^ (18 : Int).toNat) + (if (decide (n < 0)) = true then 1 else 0) := by
  rw [Bool.and_eq_true] at h
  have h2 := of_decide_eq_true h.2
  generalize (10 : Int) ^ (18 : Int).toNat = t at h2 ⊢
  generalize (if n < 0 then -n else n) = m at h2 ⊢
  split <;> omega
theorem pyL_ints : ∀ cs : List Int, pyL (cs.map .int) = cs.map PyData.int
  | [] => by rw [List.map_nil, pyL, List.map_nil]
  | c :: cs => by rw [List.map_cons, pyL, D.py, pyL_ints cs, List.map_cons]
theorem ok_ints (cs : List Int) : (D.lst (cs.map .int)).ok = true := by
  show SeqAt.shaped (D.lst (cs.map .int)).py = true
  rw [D.py, pyL_ints]
  exact PySem.W.shaped_ints cs
theorem cells_ne {cs : List Int} (h : (!(D.lst (cs.map .int)).eq (.lst [])) = true) : cs ≠ [] := by
  rintro rfl
  exact absurd h (by decide)
theorem at_int (ns : List Int) {r : Int} (h0 : 0 ≤ r) (h1 : r < (ns.length : Int)) : ∃ v, v ∈ ns ∧ L2.atI (ns.map D.int) r = some (.int v) := by
  have h2 : r.toNat < ns.length := by omega
  refine ⟨ns[r.toNat], List.getElem_mem h2, ?_⟩
  unfold L2.atI L2.ixN
  rw [if_pos h0, if_pos (by rw [List.length_map]; exact h1)]
  simp [h2]
end Fr

set_option Elab.async false
set_option linter.all false
set_option maxRecDepth 100000
set_option maxHeartbeats 2000000
/-! Fr12: a try whose body raises nothing; the module's tables of texts and of defs. -/
namespace Fr
open PySem PySem.Spec PyProof.Rows L2
def noX (Φ : Fl → Rho → Prop) : Fl → Rho → Prop
  | .exc _, _ => False
  | fl, ρ => Φ fl ρ
theorem XIs.nox {C : Ctx} {X : Cx} (hx : XIs C X) (hsu : C.su = none) : XIs C X.nox :=
  ⟨hx.P, hx.w, hx.K, hx.mg, hx.base, hx.N, hx.nd, hx.sc, fun h => hx.rm h, fun h => hx.calm h, hx.un, (fun a c e => by rw [hsu] at e; cases e), hx.top, hx.fn⟩
/-- try: a body that raises nothing; the clauses are never looked at -/
theorem s_thru {C : Ctx} {P : List Nat} {ρ : Rho} {Φ : Fl → Rho → Prop} {body : List Stmt} {h₀ : ExceptHandler} {hs : List ExceptHandler} {pos : Pos} (h : SV C P body ρ (noX Φ)) (hsu : C.su = none := by rfl) : S1 C P (.Try body (h₀ :: hs) [] [] pos) ρ Φ := by
  intro X hx W tk po σ F H fp D s k
  refine w_s (ps_try_thru0 (pss_w (X := X.nox))) ?_
  refine h X.nox (hx.nox hsu) (fun _ _ _ _ => False) takes0 PassesOwn.never σ F H fp D s ⟨fun _ _ _ _ _ _ _ _ z => z.elim, fun ρ' => k.nx ρ', fun ρ' => k.bk ρ', fun ρ' => k.ct ρ', fun o => k.rt o⟩
/-- the module's dict x has the text z at the key k -/
def TabS (G : Gx) (x k z : Str) : Prop := ∃ d, G.mg x = some (.ref d) ∧ KDct G.K G.w d k (.str z)
/-- .. the def g -/
def TabF (G : Gx) (x k g : Str) : Prop := ∃ d f, G.mg x = some (.ref d) ∧ KDct G.K G.w d k (.ref f) ∧ G.mg g = some (.ref f)
section
variable {C : Ctx} {ρ : Rho} {k : O → Rho → Prop} {Ξ : Exc → Rho → Prop} {e ie : Expr} {es : List Expr} {x : Str} {p p1 pos : Pos}
theorem ev_tab (h : EV C ie ρ (fun o ρ1 => ∃ q z, o.frz = .str q ∧ TabS C.G x q z ∧ k (.fz (.str z)) ρ1) Ξ) (hx0 : ∃ d, C.G.mg x = some (.ref d)) (hs : PlainIx ie := by exact fun _ _ => rfl) (hg : C.sc.names.lookup x = some .globalImplicit := by rfl) (hdb : (x == ("__debug__" : Str)) = false := by decide) :
    EV C (.Subscript (.Name x p) ie pos) ρ k Ξ := by
  intro X hx W tk σ F H fp s xx
  obtain ⟨d, gd⟩ := hx0
  refine w_e (pe_ix ix_kdict (pe_glob (hx.gl hg) (by rw [hx.mg]; exact gd) (v := .ref d) rfl hdb) pe_w hs) ?_
  refine (EV.d (k := fun d1 ρ1 => ∃ q z, d1 = .str q ∧ TabS C.G x q z ∧ k (.fz (.str z)) ρ1) h hx tk s xx).mono fun v H1 ⟨d1, ρ1, F1, fp1, ⟨q, z, e1, ⟨d', gd', kd⟩, hk⟩, s1, a1, m1⟩ => ?_
  subst e1
  cases a1
  rw [gd] at gd'
  cases gd'
  exact ⟨d, q, _, rfl, rfl, (by rw [hx.K, hx.w]; exact kd), fdm m1 s1 (.str z) hk⟩
theorem pe_callF {X : Cx} {CX : CXT} {k f : Nat} {fd : FuncData} {ps : List Str} {sp : Sp} {E : L2.St → XK} {ds : List Value} {dvs : List V} {fe : Expr} {tf : TE} {t : TA} (F : FnOk X.prog X.w X.K X.mg X.base CX k f fd ps sp) (hr : Room k X.A) (hk : PySem.W.keepIn X.K (.ref f) = true) (hb : Binds X.K fd ps ds) (hd : Vals dvs ds) (hx : ∀ σ, PassesAt CX X σ (E σ))
    (hf : PE X fe tf) (ha : PA X (e :: es) t) (hc : eval (.Call fe (e :: es) [] pos) X.env = (do callWith pos (← eval fe X.env) [] (backTo pos (starEach (e :: es) X.env)) (backToKw pos (keywordEach [] X.env))) := by rfl)
    (he : starEach (e :: es) X.env = (false, eval e X.env) :: starEach es X.env := by rfl) (hpl : (backTo pos (starEach es X.env)).any (·.1) = false := by rfl) :
    PE X (.Call fe (e :: es) [] pos) (fun σ H Q => tf σ H fun v H1 => v = .ref f ∧ t σ H1 fun vs H2 => sp (vs ++ dvs) H2 Q (E σ)) := by
  refine ⟨fun pins s σ H Q I h => ?_⟩
  refine Call_ (thn (hf.run pins s σ H _ I h) fun u s0 ⟨v, H0, I0, r0, ev, q0⟩ => ?_) hc
  subst ev
  obtain rfl : u = Value.ref f := r0
  refine PySem.W.callWith_K (h₀ := X.base) I.ok.mod.kin hk (thn (ha.run pos pins s0 σ H0 _ I0 q0) fun us s1 ⟨vs, H1, I1, r, q⟩ => ⟨I1.kIn, ?_⟩) he hpl
  exact run_fnSD F hr hb hd (hx σ) I1 r q
/-- what a def's call leaves, its arguments told -/
theorem call_fin {dvs : List D} {dv : List V} {S : FSpec} {X : Cx} {W : WX} {σ : L2.St} {F H F0 H0 : Hp} {fp fp0 : Nat → List Addr} {ρ0 : Rho} (hx : XIs C X) (tk : Takes X W) (s : SR C.G.K F0 H0 σ ρ0 fp0) (m0 : Mv (own fp) F H (own fp0) F0 H0) (xx : XP C.G W σ (own fp) F H Ξ) (hdv : ∀ F, AtL C.G.K F dv dvs)
    (h : EVA C (e :: es) ρ0 (fun as ρ1 => S (as.map (·.1) ++ dvs.map .fz) (fun o os' => k o (refill as os' ρ1)) (fun c os' => Ξ c (refill as os' ρ1))) Ξ) : wA X (e :: es) σ H0 (fun vs H1 => spOf C.G S (vs ++ dv) H1 (VP C.G.K σ (own fp) F H k) (WE W σ)) := by
  refine wA.mono (h X hx W tk σ F0 H0 fp0 s (xx.along m0)) fun vs H1 ⟨as, ρ1, F1, fp1, S1, h1, s1, r1, d1, m1', b1⟩ => ?_
  have m1 := m0.trans m1'
  have hlen : as.length = vs.length := by
    have := r1.length
    rw [List.length_map] at this
    exact this.symm
  refine ⟨_, F1, S1, _, _, s1.ex, reps_append_fz r1 (hdv F1), h1, fun o os' v F' H' A' T q e' r' t' dt m' => ?_, fun c os' cls d F' H' A' q e' r' xr m' => ?_⟩
  all_goals
    have keepO : ∀ q, own fp1 q → H' q = H1 q ∧ F' q = none := fun q hq => by
      obtain ⟨z1, u, z2⟩ := s1.owned hq
      obtain ⟨y1, y2⟩ := m'.keep q u z2 fun w => d1 q w hq
      exact ⟨by rw [y1, z2], by rw [y2]; exact z1⟩
    have s1' : SR C.G.K F' H' σ ρ1 fp1 := s1.mono m'.ef e' (fun q hq => (keepO q hq).2) fun q hq => (keepO q hq).1
  · have newN : ∀ q, q ∈ A' ∨ q ∈ T → ¬ own fp1 q := fun q hq ho => by
      obtain ⟨_, u, z2⟩ := s1.owned ho
      rcases m'.new q hq with z | z
      · exact d1 q z ho
      · rw [z2] at z; cases z
    obtain ⟨fp2, s2, m2⟩ := refill_sr s1' as os' vs dv A' r' (fun q hq => newN q (.inl hq)) hlen b1
    refine ⟨o, _, F', fp2, T, q, s2, t', fun q hq ho => ?_, ?_⟩
    · rcases m2 q ho with z | z
      · exact newN q (.inr hq) z
      · exact dt q hq z
    · refine m1.trans ⟨m'.ef, fun q o hq hn => m'.keep q o hq fun z => hn (.inr z), fun q hq => ?_⟩
      rcases hq with z | z
      · rcases m2 q z with w | w
        · exact .inl (.inl w)
        · exact (m'.new q (.inl w)).imp .inr id
      · exact (m'.new q (.inr z)).imp .inr id
  · have newN : ∀ q, q ∈ A' → ¬ own fp1 q := fun q hq ho => by
      obtain ⟨_, u, z2⟩ := s1.owned ho
      rcases m'.new q hq with z | z
      · exact d1 q z ho
      · rw [z2] at z; cases z
    obtain ⟨fp2, s2, m2⟩ := refill_sr s1' as os' vs dv A' r' newN hlen b1
    show W cls d σ H'
    refine xx c _ F' H' fp2 cls d q s2 xr (m1.trans ⟨m'.ef, fun q o hq hn => m'.keep q o hq fun z => hn (.inr z), fun q hq => ?_⟩)
    rcases m2 q hq with w | w
    · exact .inl (.inl w)
    · exact (m'.new q w).imp .inr id
/-- x[ie](..), x a table of defs -/
theorem ev_callT {p2 : Pos} (h : EV C ie ρ (fun o ρ1 => ∃ q g dvs S, o.frz = .str q ∧ TabF C.G x q g ∧ FOK C.G C.lv g dvs S ∧ EVA C (e :: es) ρ1 (fun as ρ2 => S (as.map (·.1) ++ dvs.map .fz) (fun o os' => k o (refill as os' ρ2)) (fun c os' => Ξ c (refill as os' ρ2))) Ξ) Ξ) (hx0 : ∃ d, C.G.mg x = some (.ref d)) (hsu : C.su = none := by rfl)
    (hs : PlainIx ie := by exact fun _ _ => rfl) (hg : C.sc.names.lookup x = some .globalImplicit := by rfl) (hdb : (x == ("__debug__" : Str)) = false := by decide)
    (hc : ∀ env, eval (.Call (.Subscript (.Name x p) ie p1) (e :: es) [] pos) env = (do callWith pos (← eval (.Subscript (.Name x p) ie p1) env) [] (backTo pos (starEach (e :: es) env)) (backToKw pos (keywordEach [] env))) := by intro _; rfl)
    (he : ∀ env, starEach (e :: es) env = (false, eval e env) :: starEach es env := by intro _; rfl) (hpl : ∀ env, (backTo pos (starEach es env)).any (·.1) = false := by intro _; rfl) : EV C (.Call (.Subscript (.Name x p) ie p1) (e :: es) [] pos) ρ k Ξ := by
  intro X hx W tk σ F H fp s xx pins st I
  obtain ⟨d, gd⟩ := hx0
  have hsub : wE X (.Subscript (.Name x p) ie p1) σ H (fun v H1 => ∃ f g dvs S ρ1 F1 fp1, v = .ref f ∧ C.G.mg g = some (.ref f) ∧ FOK C.G C.lv g dvs S ∧ EVA C (e :: es) ρ1 (fun as ρ2 => S (as.map (·.1) ++ dvs.map .fz) (fun o os' => k o (refill as os' ρ2)) (fun c os' => Ξ c (refill as os' ρ2))) Ξ ∧ SR C.G.K F1 H1 σ ρ1 fp1 ∧ Mv (own fp) F H (own fp1) F1 H1) := by
    refine w_e (pe_ix ix_kdict (pe_glob (hx.gl hg) (by rw [hx.mg]; exact gd) (v := .ref d) rfl hdb) pe_w hs) ?_
    refine (EV.d (k := fun d1 ρ1 => ∃ q g dvs S, d1 = .str q ∧ TabF C.G x q g ∧ FOK C.G C.lv g dvs S ∧ EVA C (e :: es) ρ1 (fun as ρ2 => S (as.map (·.1) ++ dvs.map .fz) (fun o os' => k o (refill as os' ρ2)) (fun c os' => Ξ c (refill as os' ρ2))) Ξ) h hx tk s xx).mono fun v H1 ⟨d1, ρ1, F1, fp1, ⟨q, g, dvs, S, e1, ⟨d', f, gd', kd, gg⟩, fk, ev⟩, s1, a1, m1⟩ => ?_
    subst e1
    cases a1
    rw [gd] at gd'
    cases gd'
    exact ⟨d, q, _, rfl, rfl, (by rw [hx.K, hx.w]; exact kd), f, g, dvs, S, ρ1, F1, fp1, rfl, gg, fk, ev, s1, m1⟩
  refine Call_ (thn (hsub pins st I) fun u s0 ⟨v, H0, I0, r0, f, g, dvs, S, ρ1, F1, fp1, ev, gg, fk, eva, s1, m1⟩ => ?_) (hc _)
  subst ev
  obtain rfl : u = Value.ref f := r0
  obtain ⟨fa, fd, ps, ds, dv, lk, hm, hk, hb, hd, hdv, hle, hf⟩ := fk.ex
  rw [gg] at hm
  cases hm
  have hf' : FnOk X.prog X.w X.K X.mg X.base (L2.CX X.prog X.w) lk f fd ps (spOf C.G S) := by
    rw [hx.P, hx.w, hx.K, hx.mg, hx.base]; exact hf
  refine PySem.W.callWith_K (h₀ := X.base) I0.ok.mod.kin (by rw [hx.K]; exact hk) (thn (call_fin hx tk s1 m1 xx hdv eva pos pins s0 I0) fun us s2 ⟨vs, H2, I2, r, q⟩ => ⟨I2.kIn, ?_⟩) (he _) (hpl _)
  exact run_fnSD hf' ((hx.rm hsu).mono hle) (by rw [hx.K]; exact hb) hd (passAt tk σ) I2 r q
end
end Fr

set_option Elab.async false
set_option linter.all false
set_option maxRecDepth 100000
set_option maxHeartbeats 2000000
/-! Zs: zip(.., strict=True) over two iterators of one length (the library's proofs of zip, turned to the strict one). -/
namespace ZS
open PySem
open Sem (wp)
abbrev IsZipS (h : Heap) (z TI TO : Addr) (f0 : Value) : Prop :=
  h.get? z = some { cls := .type "zip", dict := none, data := .fields #[f0, .bool false, .bool true, .ref TI, .ref TO], slots := #[] }
section
variable {prog : Program} {w : World} {A : Around} {E : Value → Shared → Prop} {s : Shared} {z TI TO i1 i2 it : Addr} {fp fp1 fp2 : List Addr} {n n1 n2 i : Nat} {P P1 P2 : Nat → Value → Prop} {St St1 St2 : Nat → Heap → Prop} {a1 a2 : Value}
theorem drawn_item {Q : Option Value → Shared → Prop} (D : Draws prog w A it fp n P St) (hlt : i < n) (st : St i s.heap) (h : ∀ x h' tk, P i x → St (i + 1) h' → Heap.SameBut it s.heap h' → Q (some x) { s with heap := h', toks := tk }) :
    wpAny (model prog w) A (Builtin.SmallTypes.nextOrEnd (.ref it)) Q E s := by
  unfold Builtin.SmallTypes.nextOrEnd
  exact wpAny_bind (wpAny_attempt (D.item i s _ _ hlt st fun x h' tk p q r => wpAny_pure (h x h' tk p q r)))
theorem drawn_end {Q : Option Value → Shared → Prop} (D : Draws prog w A it fp n P St) (st : St n s.heap) (h : ∀ h', Heap.ExtBut it s.heap h' → Q none { s with heap := h' }) :
    wpAny (model prog w) A (Builtin.SmallTypes.nextOrEnd (.ref it)) Q E s := by
  unfold Builtin.SmallTypes.nextOrEnd
  refine wpAny_bind (wpAny_attempt (D.done s _ _ st fun h' e x he => ?_))
  obtain ⟨o, ho, hc⟩ := he
  exact wpAny_bind (wpAny_isInstance (T := "StopIteration") (b := true) ⟨o, ho, hc⟩ isSubtype_stop (wpAny_pure (h h' x)))
theorem zipS_next_item {Q : Value → Shared → Prop} (S : ZipSep2 z TI TO i1 i2 fp1 fp2) (D1 : Draws prog w A i1 fp1 n1 P1 St1) (D2 : Draws prog w A i2 fp2 n2 P2 St2)
    (hz : IsZipS s.heap z TI TO .none) (hTI : IsTupOf2 s.heap TI (.ref i1) (.ref i2)) (hTO : IsTupOf2 s.heap TO a1 a2) (st1 : St1 i s.heap) (st2 : St2 i s.heap) (hlt1 : i < n1) (hlt2 : i < n2)
    (hQ : ∀ x1 x2 h' tk, P1 i x1 → P2 i x2 → IsZipS h' z TI TO (rawInt s.heap.objs.size) → IsTupOf2 h' TO x1 x2 → St1 (i + 1) h' → St2 (i + 1) h' → IsTupOf2 h' s.heap.objs.size x1 x2 → h'.objs.size = s.heap.objs.size + 1 →
      (∀ c o, c ≠ z → c ≠ TO → c ≠ i1 → c ≠ i2 → s.heap.get? c = some o → h'.get? c = some o) → Q (.ref s.heap.objs.size) { s with heap := h', toks := tk }) :
    wpAny (model prog w) A (Builtin.«zip.__next__» ⟨[.ref z], []⟩) (fun fin s' => ∃ v, fin = .done (.ret v) ∧ Q v s') E s := by
  obtain ⟨hp, g, d, tk0, os⟩ := s
  show wpAny _ _ (field (.ref z) 2 >>= _) _ _ _
  refine wpAny_bind (wpAny_field hz rfl (x := .bool true) rfl ?_)
  show wpAny _ _ (field (.ref z) 3 >>= _) _ _ _
  refine wpAny_bind (wpAny_field hz rfl (x := .ref TI) rfl ?_)
  refine wpAny_bind (wpAny_seqItems hTI rfl ?_)
  show wpAny _ _ (Builtin.SmallTypes.ownedTupleIsFree (.ref z) >>= _) _ _ _
  refine wpAny_bind ?_
  unfold Builtin.SmallTypes.ownedTupleIsFree
  refine wpAny_bind (wpAny_field hz rfl (x := .none) rfl (wpAny_pure ?_))
  simp only [if_true]
  refine wpAny_bind (wpAny_rule ?_)
  refine wpAny_bind (wpAny_field hz rfl (x := .ref TO) rfl ?_)
  refine wpAny_bind (wpAny_setField_rec hz (by simp) fun g0 hz0 hs0 => ?_)
  replace hz0 : IsZipS g0 z TI TO .ellipsis := hz0
  replace hs0 : Heap.SameBut z hp g0 := hs0
  refine wpAny_bind ?_
  simp only [List.zipIdx_cons, List.zipIdx_nil, List.forIn_cons, List.forIn_nil]
  refine wpAny_bind (wpAny_bind (wpAny_onRaise ?_))
  show wpAny _ _ (Builtin.SmallTypes.nextOrEnd (.ref i1)) _ _ ⟨g0, g, d, tk0, os⟩
  refine drawn_item D1 hlt1 (D1.over st1 hs0 S.zf1) fun x1 p1 tk1 hx1 sn1 hp1 => ?_
  replace hp1 : Heap.SameBut i1 g0 p1 := hp1
  have hU1 : IsTupOf2 p1 TO a1 a2 := hp1.extBut _ _ S.Ti1 (hs0.extBut _ _ S.TOz hTO)
  refine wpAny_bind (wpAny_seqItems (s := ⟨p1, g, d, tk1, os⟩) hU1 rfl ?_)
  refine wpAny_bind (updateSeq_IsTupOf2 (s := ⟨p1, g, d, tk1, os⟩) hU1 fun g1 hT1 hs1 => ?_)
  replace hT1 : IsTupOf2 g1 TO x1 a2 := hT1
  replace hs1 : Heap.SameBut TO p1 g1 := hs1
  refine wpAny_bind (wpAny_letGo (wpAny_pure ?_))
  refine wpAny_bind (wpAny_bind (wpAny_onRaise ?_))
  show wpAny _ _ (Builtin.SmallTypes.nextOrEnd (.ref i2)) _ _ ⟨g1, g, d, tk1, os⟩
  refine drawn_item D2 hlt2 (D2.over (D2.over (D2.over st2 hs0 S.zf2) hp1 S.sep1_2) hs1 S.Tf2) fun x2 p2 tk2 hx2 sn2 hp2 => ?_
  replace hp2 : Heap.SameBut i2 g1 p2 := hp2
  have hU2 : IsTupOf2 p2 TO x1 a2 := hp2.extBut _ _ S.Ti2 hT1
  refine wpAny_bind (wpAny_seqItems (s := ⟨p2, g, d, tk2, os⟩) hU2 rfl ?_)
  refine wpAny_bind (updateSeq_IsTupOf2 (s := ⟨p2, g, d, tk2, os⟩) hU2 fun g2 hT2 hs2 => ?_)
  replace hT2 : IsTupOf2 g2 TO x1 x2 := hT2
  replace hs2 : Heap.SameBut TO p2 g2 := hs2
  refine wpAny_bind (wpAny_letGo (wpAny_pure (wpAny_pure ?_)))
  refine wpAny_bind (wpAny_seqItems (s := ⟨g2, g, d, tk2, os⟩) hT2 rfl ?_)
  refine wpAny_bind (wpAny_newTuple ?_)
  have hsz : g2.objs.size = hp.objs.size := by rw [hs2.1, hp2.1, hs1.1, hp1.1, hs0.1]
  have hzz : IsZipS g2 z TI TO .ellipsis := (hs2.extBut _ _ S.TOz.symm (hp2.extBut _ _ S.zi2 (hs1.extBut _ _ S.TOz.symm (hp1.extBut _ _ S.zi1 hz0))))
  have hkk : ∀ c o, c ≠ z → c ≠ TO → c ≠ i1 → c ≠ i2 → hp.get? c = some o → g2.get? c = some o := fun c o cz cT c1 c2 e =>
    (hs2.extBut _ _ cT (hp2.extBut _ _ c2 (hs1.extBut _ _ cT (hp1.extBut _ _ c1 (hs0.extBut _ _ cz e)))))
  have hj1 : St1 (i + 1) g2 := (D1.over (D1.over (D1.over sn1 hs1 S.Tf1) hp2 S.sep2_1) hs2 S.Tf1)
  have hj2 : St2 (i + 1) g2 := (D2.over sn2 hs2 S.Tf2)
  have hzlt : z < g2.objs.size := Heap.lt_size hzz
  show wpAny _ _ (Builtin.SmallTypes.ownedTupleHandOut (.ref z) (.ref g2.objs.size) >>= _) _ _ ⟨g2.push { cls := .type "tuple", data := .seq #[x1, x2] }, g, d, tk2, os⟩
  refine wpAny_bind ?_
  unfold Builtin.SmallTypes.ownedTupleHandOut
  have hz₆ : IsZipS (g2.push { cls := .type "tuple", data := .seq #[x1, x2] }) z TI TO .ellipsis := Heap.get?_push_of_some _ hzz
  refine wpAny_bind (wpAny_setField_rec hz₆ (by simp) fun h₇ hz₇ hs₇ => ?_)
  replace hz₇ : IsZipS h₇ z TI TO (rawInt g2.objs.size) := hz₇
  refine wpAny_setField_rec hz₇ (by simp) fun h₈ hz₈ hs₈ => ?_
  replace hz₈ : IsZipS h₈ z TI TO (rawInt g2.objs.size) := hz₈
  replace hs₇ : Heap.SameBut z (g2.push { cls := .type "tuple", data := .seq #[x1, x2] }) h₇ := hs₇
  replace hs₈ : Heap.SameBut z h₇ h₈ := hs₈
  have up : ∀ c o, c ≠ z → g2.get? c = some o → h₈.get? c = some o := fun c o c1 e => hs₈.extBut _ _ c1 (hs₇.extBut _ _ c1 (Heap.get?_push_of_some _ e))
  have hT₈ : IsTupOf2 h₈ g2.objs.size x1 x2 := hs₈.extBut _ _ (Nat.ne_of_gt hzlt) (hs₇.extBut _ _ (Nat.ne_of_gt hzlt) (Heap.get?_push_size _ rfl))
  have hz8 : h₈.objs.size = g2.objs.size + 1 := by rw [hs₈.1, hs₇.1, Heap.size_push]
  rw [hsz] at hz₈ hT₈ hz8
  refine wpAny_pure ⟨_, rfl, ?_⟩
  show Q (.ref g2.objs.size) ⟨h₈, g, d, tk2, os⟩
  rw [hsz]
  exact hQ x1 x2 h₈ tk2 hx1 hx2 hz₈ (up _ _ S.TOz hT2) (D1.frame _ _ _ hj1 fun b hb o e => up b o (fun q => S.zf1 (q ▸ hb)) e) (D2.frame _ _ _ hj2 fun b hb o e => up b o (fun q => S.zf2 (q ▸ hb)) e) hT₈ hz8 fun c o cz cT c1 c2 e => up c o cz (hkk c o cz cT c1 c2 e)


theorem zipS_next_end {Q : Fin → Shared → Prop} (hh : A.handled = none) (S : ZipSep2 z TI TO i1 i2 fp1 fp2) (D1 : Draws prog w A i1 fp1 n P1 St1) (D2 : Draws prog w A i2 fp2 n P2 St2)
    (hz : IsZipS s.heap z TI TO .none) (hTI : IsTupOf2 s.heap TI (.ref i1) (.ref i2)) (hTO : IsTupOf2 s.heap TO a1 a2) (st1 : St1 n s.heap) (st2 : St2 n s.heap)
    (hE : ∀ h' tk e, (∀ c o, c ≠ z → c ≠ TO → c ≠ i1 → c ≠ i2 → s.heap.get? c = some o → h'.get? c = some o) → (∃ o, h'.get? e = some o ∧ o.cls = .type "StopIteration") → E (.ref e) { s with heap := h', toks := tk }) :
    wpAny (model prog w) A (Builtin.«zip.__next__» ⟨[.ref z], []⟩) Q E s := by
  obtain ⟨hp, g, d, tk0, os⟩ := s
  show wpAny _ _ (field (.ref z) 2 >>= _) _ _ _
  refine wpAny_bind (wpAny_field hz rfl (x := .bool true) rfl ?_)
  show wpAny _ _ (field (.ref z) 3 >>= _) _ _ _
  refine wpAny_bind (wpAny_field hz rfl (x := .ref TI) rfl ?_)
  refine wpAny_bind (wpAny_seqItems hTI rfl ?_)
  show wpAny _ _ (Builtin.SmallTypes.ownedTupleIsFree (.ref z) >>= _) _ _ _
  refine wpAny_bind ?_
  unfold Builtin.SmallTypes.ownedTupleIsFree
  refine wpAny_bind (wpAny_field hz rfl (x := .none) rfl (wpAny_pure ?_))
  simp only [if_true]
  refine wpAny_bind (wpAny_rule ?_)
  refine wpAny_bind (wpAny_field hz rfl (x := .ref TO) rfl ?_)
  refine wpAny_bind (wpAny_setField_rec hz (by simp) fun g0 hz0 hs0 => ?_)
  replace hz0 : IsZipS g0 z TI TO .ellipsis := hz0
  replace hs0 : Heap.SameBut z hp g0 := hs0
  refine wpAny_bind ?_
  simp only [List.zipIdx_cons, List.zipIdx_nil, List.forIn_cons, List.forIn_nil]
  refine wpAny_bind (wpAny_bind (wpAny_onRaise ?_))
  show wpAny _ _ (Builtin.SmallTypes.nextOrEnd (.ref i1)) _ _ ⟨g0, g, d, tk0, os⟩
  refine drawn_end D1 (D1.over st1 hs0 S.zf1) fun q hq => ?_
  replace hq : Heap.ExtBut i1 g0 q := hq
  have hzq : IsZipS q z TI TO .ellipsis := hq _ _ S.zi1 hz0
  refine wpAny_bind (wpAny_setField_rec (s := ⟨q, g, d, tk0, os⟩) hzq (by simp) fun q' _ hq' => ?_)
  refine wpAny_bind ?_
  show wpAny _ _ (forIn [((Value.ref i2 : Value), (1 : Nat))] _ _ >>= _) _ _ _
  simp only [List.forIn_cons, List.forIn_nil]
  replace hq' : Heap.SameBut z q q' := hq'
  have sq2 : St2 n q := D2.frame _ _ _ (D2.over st2 hs0 S.zf2) fun b hb o e => hq b o (fun y => S.sep1_2 (y ▸ hb)) e
  refine wpAny_bind (wpAny_bind (wpAny_bind (drawn_end (s := ⟨q', g, d, tk0, os⟩) D2 (D2.over sq2 hq' S.zf2) fun p hp2 => ?_)))
  replace hp2 : Heap.ExtBut i2 q' p := hp2
  simp only [Option.isSome_none, Bool.false_eq_true, if_false]
  refine wpAny_pure (wpAny_pure ?_)
  refine wpAny_bind (wpAny_rule ?_)
  unfold Builtin.SmallTypes.stopIteration
  show wpAny _ _ (newExc (.type "StopIteration") [] >>= _) _ _ _
  refine wpAny_bind ?_
  simp only [newExc, newTuple]
  refine wpAny_bind (wpAny_newObj_type ?_ (by size_fits))
  refine wpAny_bind (m := firstArgMember _ _) (wpAny_of_eq (a := Value.none) (by first | rfl | (simp only [firstArgMember]; rfl)) ?_)
  refine wpAny_newObj_type ?_ (by size_fits)
  simp only [raiseNew]
  refine wpAny_bind (wpAny_handled ?_)
  first | rw [show A.in1.handled = none from hh] | rw [hh]
  refine wpAny_bind (wpAny_pure (wpAny_throw ?_))
  refine hE _ tk0 _ (fun c o cz cT c1 c2 x => ?_) ⟨_, Heap.get?_push_size _ rfl, rfl⟩
  exact Heap.get?_push_of_some _ (Heap.get?_push_of_some _ (hp2 _ _ c2 (hq'.extBut _ _ cz (hq _ _ c1 (hs0.extBut _ _ cz x)))))
theorem pyNext_zipS_item {Q : Option Value → Shared → Prop} (S : ZipSep2 z TI TO i1 i2 fp1 fp2) (D1 : Draws prog w A.in1 i1 fp1 n1 P1 St1) (D2 : Draws prog w A.in1 i2 fp2 n2 P2 St2)
    (hz : IsZipS s.heap z TI TO .none) (hTI : IsTupOf2 s.heap TI (.ref i1) (.ref i2)) (hTO : IsTupOf2 s.heap TO a1 a2) (st1 : St1 i s.heap) (st2 : St2 i s.heap) (hlt1 : i < n1) (hlt2 : i < n2)
    (hQ : ∀ x1 x2 h' tk, P1 i x1 → P2 i x2 → IsZipS h' z TI TO (rawInt s.heap.objs.size) → IsTupOf2 h' TO x1 x2 → St1 (i + 1) h' → St2 (i + 1) h' → IsTupOf2 h' s.heap.objs.size x1 x2 → h'.objs.size = s.heap.objs.size + 1 →
      (∀ c o, c ≠ z → c ≠ TO → c ≠ i1 → c ≠ i2 → s.heap.get? c = some o → h'.get? c = some o) → Q (some (.ref s.heap.objs.size)) { s with heap := h', toks := tk }) :
    wpAny (model prog w) A (pyNext (.ref z)) Q E s := by
  have hT : s.TypeIs (.ref z) "zip" := ⟨_, hz, rfl⟩
  unfold pyNext
  exact wpAny_bind (wpAny_attempt (wpAny_callSpecial?_slot (name := Str.ofString "__next__") hT F.slot_zip_next
    (wpAny_call_entry F.slot_zip_next hT F.entry_zip_next
      (zipS_next_item S D1 D2 hz hTI hTO st1 st2 hlt1 hlt2 fun x1 x2 h' tk y1 y2 b1 b2 d1 d2 b5 b6 b7 => wpAny_pure (hQ x1 x2 h' tk y1 y2 b1 b2 d1 d2 b5 b6 b7)) (F.args_zip_next_1 _))))

theorem pyNext_zipS_end {Q : Option Value → Shared → Prop} (hh : A.handled = none) (S : ZipSep2 z TI TO i1 i2 fp1 fp2) (D1 : Draws prog w A.in1 i1 fp1 n P1 St1) (D2 : Draws prog w A.in1 i2 fp2 n P2 St2)
    (hz : IsZipS s.heap z TI TO .none) (hTI : IsTupOf2 s.heap TI (.ref i1) (.ref i2)) (hTO : IsTupOf2 s.heap TO a1 a2) (st1 : St1 n s.heap) (st2 : St2 n s.heap)
    (hQ : ∀ h' tk, (∀ c o, c ≠ z → c ≠ TO → c ≠ i1 → c ≠ i2 → s.heap.get? c = some o → h'.get? c = some o) → Q none { s with heap := h', toks := tk }) : wpAny (model prog w) A (pyNext (.ref z)) Q E s := by
  have hT : s.TypeIs (.ref z) "zip" := ⟨_, hz, rfl⟩
  unfold pyNext
  refine wpAny_bind (wpAny_attempt (wpAny_callSpecial?_slot (name := Str.ofString "__next__") hT F.slot_zip_next
    (wpAny_call_entry F.slot_zip_next hT F.entry_zip_next (zipS_next_end hh S D1 D2 hz hTI hTO st1 st2 fun h' tk e hk he => ?_) (F.args_zip_next_1 _))))
  obtain ⟨o, ho, hc⟩ := he
  refine wpAny_bind (wpAny_isInstance (T := "StopIteration") (b := true) ⟨o, ho, hc⟩ isSubtype_stop ?_)
  exact wpAny_pure (hQ _ _ hk)
end
theorem typeCall_zipS (a b c : Value) : checkTypeCall "zip" ⟨[a, b], [(Str.ofString "strict", c)]⟩ = pure () := by kernel_rfl
theorem newCall_zipS (a b c : Value) : checkBuiltinCall "zip.__new__" ⟨[.type "zip", a, b], [(Str.ofString "strict", c)]⟩ = pure () := by kernel_rfl
theorem args_object_init_S (obj a b c : Value) : argsOk "object.__init__" ⟨[obj, a, b], [(Str.ofString "strict", c)]⟩ := by unfold argsOk; kernel_rfl
abbrev zs1 (h : Heap) (l1 : Addr) : Heap := h.push { cls := .type "list_iterator", data := .fields #[.ref l1, .int 0 0] }
abbrev zs2 (h : Heap) (l1 : Addr) (x : Str) (t : Tok) : Heap := (zs1 h l1).push { cls := .type "str_ascii_iterator", data := .fields #[.str x t, .int 0 0] }
abbrev zs3 (h : Heap) (l1 : Addr) (x : Str) (t : Tok) : Heap := (zs2 h l1 x t).push { cls := .type "tuple", data := .seq #[.ref h.objs.size, .ref (zs1 h l1).objs.size] }
abbrev zs4 (h : Heap) (l1 : Addr) (x : Str) (t : Tok) : Heap := (zs3 h l1 x t).push { cls := .type "tuple", data := .seq #[.none, .none] }
abbrev zs5 (h : Heap) (l1 : Addr) (x : Str) (t : Tok) : Heap := (zs4 h l1 x t).push { cls := .type "zip", data := .fields #[.none, .bool false, .bool true, .ref (zs2 h l1 x t).objs.size, .ref (zs3 h l1 x t).objs.size] }
set_option maxHeartbeats 4000000 in
theorem meets_zipS_new (l1 : Addr) (xs : Array Value) (x : Str) (t : Tok) (ha : x.cps.all (· < 128) = true) :
    Meets (Builtin.«zip.__new__» ⟨[.type "zip", .ref l1, .str x t], [(Str.ofString "strict", .bool true)]⟩) (fun _ R s => s.heap.IsList l1 xs ∧
      R (.ok (.ret (.ref (zs4 s.heap l1 x t).objs.size))) { s with heap := zs5 s.heap l1 x t }) :=
  .of_wp fun prog w A R s h => by
    obtain ⟨hp, g, d, tk, os⟩ := s; obtain ⟨hl1, h⟩ := h
    have hsub := sub_zip
    have hL1 : Heap.IsList (Shared.heap ⟨hp, g, d, tk, os⟩) l1 xs := hl1
    have e1 : (Str.ofString "strict" == ("strict" : Str)) = true := by decide +kernel
    have e2 : (Str.ofString "strict" != ("strict" : Str)) = false := by decide +kernel
    wp_walk using wpAny_pyIter_list hL1, wpAny_pyIter_ascii ha
    all_goals exact ⟨_, rfl, h⟩
section
end
end ZS

set_option Elab.async false
set_option linter.all false
set_option maxRecDepth 100000
set_option maxHeartbeats 2000000
/-! Zt: the call zip(list, ascii text, strict=True), its turn and its loop. -/
namespace ZS
open PySem PySem.Spec PyProof.Rows L2
open Sem (wp)
section
variable {prog : Program} {w : World} {A : Around} {E : Value → Shared → Prop} {s : Shared}
theorem call_zipS {l1 : Addr} {xs : Array Value} {x : Str} {t : Tok} {Q : Value → Shared → Prop} (hl1 : s.heap.IsList l1 xs) (ha : x.cps.all (· < 128) = true)
    (h : ∀ h', IsZipS h' (s.heap.objs.size + 4) (s.heap.objs.size + 2) (s.heap.objs.size + 3) .none → IsTupOf2 h' (s.heap.objs.size + 2) (.ref s.heap.objs.size) (.ref (s.heap.objs.size + 1)) →
      IsTupOf2 h' (s.heap.objs.size + 3) .none .none → h'.IsListIter s.heap.objs.size l1 0 → h'.IsStrIter (s.heap.objs.size + 1) "str_ascii_iterator" x t 0 → h'.objs.size = s.heap.objs.size + 5 →
      (∀ c o, s.heap.get? c = some o → h'.get? c = some o) → Q (.ref (s.heap.objs.size + 4)) { s with heap := h' }) :
    wpAny (model prog w) A (call (.type "zip") [.ref l1, .str x t] [(Str.ofString "strict", .bool true)]) Q E s := by
  refine callType_newKw F.called_zip (by decide) (typeCall_zipS _ _ _) (newCall_zipS _ _ _) (fun obj => args_object_init_S obj _ _ _) F.entry_zip_new
    (meets_zipS_new l1 xs x t ha) ⟨hl1, ?_⟩
  have z1 : (zs1 s.heap l1).objs.size = s.heap.objs.size + 1 := Heap.size_push ..
  have z2 : (zs2 s.heap l1 x t).objs.size = s.heap.objs.size + 2 := by rw [Heap.size_push, z1]
  have z3 : (zs3 s.heap l1 x t).objs.size = s.heap.objs.size + 3 := by rw [Heap.size_push, z2]
  have z4 : (zs4 s.heap l1 x t).objs.size = s.heap.objs.size + 4 := by rw [Heap.size_push, z3]
  have z5 : (zs5 s.heap l1 x t).objs.size = s.heap.objs.size + 5 := by rw [Heap.size_push, z4]
  have g5 : (zs5 s.heap l1 x t).get? (zs4 s.heap l1 x t).objs.size = some _ := Heap.get?_push_size _ rfl
  have g4 : (zs5 s.heap l1 x t).get? (zs3 s.heap l1 x t).objs.size = some _ := Heap.get?_push_of_some _ (Heap.get?_push_size _ rfl)
  have g3 : (zs5 s.heap l1 x t).get? (zs2 s.heap l1 x t).objs.size = some _ := Heap.get?_push_of_some _ (Heap.get?_push_of_some _ (Heap.get?_push_size _ rfl))
  have g2 : (zs5 s.heap l1 x t).get? (zs1 s.heap l1).objs.size = some _ := Heap.get?_push_of_some _ (Heap.get?_push_of_some _ (Heap.get?_push_of_some _ (Heap.get?_push_size _ rfl)))
  have g1 : (zs5 s.heap l1 x t).get? s.heap.objs.size = some _ := Heap.get?_push_of_some _ (Heap.get?_push_of_some _ (Heap.get?_push_of_some _ (Heap.get?_push_of_some _ (Heap.get?_push_size _ rfl))))
  show _ ∧ _
  rw [z2, z3, z4] at g5
  rw [z1, z2] at g3
  rw [z3] at g4
  rw [z1] at g2
  rw [z4]
  exact ⟨⟨_, g5, rfl⟩, h _ g5 g3 g4 ⟨_, g1, rfl, rfl⟩ ⟨_, g2, rfl, rfl⟩ z5 fun c o x =>
    Heap.get?_push_of_some _ (Heap.get?_push_of_some _ (Heap.get?_push_of_some _ (Heap.get?_push_of_some _ (Heap.get?_push_of_some _ x))))⟩
theorem letGo_zipS {elts : List Expr} {x1} {pos : Pos} {z TI TO T : Addr} {Q : Unit → Shared → Prop} (hz : IsZipS s.heap z TI TO (rawInt T))
    (hQ : ∀ h', IsZipS h' z TI TO .none → Heap.SameBut z s.heap h' → Q () { s with heap := h' }) :
    wpAny (model prog w) A (letOwnedTupleGo (.Tuple elts x1 pos) (.ref z) (.ref T)) Q E s := by
  unfold letOwnedTupleGo
  refine wpAny_bind (wpAny_load hz ?_)
  show wpAny _ _ (if (["enumerate", "zip", "dict_itemiterator", "dict_reverseitemiterator", "odict_iterator", "itertools.zip_longest", "itertools.pairwise"].contains "zip" &&
      (#[rawInt T, .bool false, .bool true, .ref TI, .ref TO] : Array Value)[0]? == some (rawInt T)) = true then _ else _) Q E s
  rw [if_pos (by simp)]
  refine wpAny_bind (wpAny_rule ?_)
  show wpAny _ _ (setField (.ref z) 0 .none) Q E s
  exact wpAny_setField_rec hz (by simp) fun h' hz' hs' => hQ h' hz' hs'
theorem pyIter_zipS {z TI TO : Addr} {f0 : Value} {Q : Value → Shared → Prop} (hz : IsZipS s.heap z TI TO f0) (h : Q (.ref z) s) : wpAny (model prog w) A (pyIter (.ref z)) Q E s := by
  have hT : s.TypeIs (.ref z) "zip" := ⟨_, hz, rfl⟩
  refine wpAny_pyIter_slot hT F.slot_zip_iter (wpAny_call_entry F.slot_zip_iter hT F.entry_zip_iter ?_ (F.args_zip_iter_1 _))
  show wpAny _ _ (ret (.ref z)) _ _ s
  exact wpAny_pure ⟨_, rfl, "zip", _, hT, F.slot_zip_next.lookup, h⟩
end
/-- the list at a and the text x, of one length, in new pairs -/
def ItzS (K : PySem.W.Frag) (a : Addr) (x : Str) : It :=
  ⟨fun i H => ∃ xs : List V, SqL K H a xs ∧ xs.length = x.cps.size ∧ i < x.cps.size,
    fun i H v H' => ∃ T y c, v = .ref T ∧ H T = none ∧ H' = upd H T (.tup [y, .str ⟨#[c]⟩]) ∧ (∀ xs, SqL K H a xs → xs[i]? = some y) ∧ x.cps[i]? = some c,
    fun i H => ∃ xs : List V, SqL K H a xs ∧ xs.length = x.cps.size ∧ x.cps.size ≤ i⟩
theorem turn_zipS {P : Program} {w : World} {K : PySem.W.Frag} {elts : List Expr} {kk : Nat} {tpos : Pos} {a z TI TO i1 i2 : Addr} {x : Str} {t : Tok} (S : ZipSep2 z TI TO i1 i2 [i1, a] [i2]) (hai : a ≠ i1) :
    Turn P w K (.Tuple elts kk tpos) (ItzS K a x) [z, TI, TO, i1, i2] z (fun i h => IsZipS h z TI TO .none ∧ IsTupOf2 h TI (.ref i1) (.ref i2) ∧ (∃ x y, IsTupOf2 h TO x y) ∧ h.IsListIter i1 a i ∧ h.IsStrIter i2 "str_ascii_iterator" x t i ∧ i ≤ x.cps.size) where
  mem := by simp
  obj := fun i h st c hc => by
    obtain ⟨hz, hTI, ⟨x, y, hTO⟩, ⟨o1, e1, _, d1⟩, ⟨o2, e2, _, d2⟩, _⟩ := st
    have e' : c = z ∨ c = TI ∨ c = TO ∨ c = i1 ∨ c = i2 := by simpa using hc
    rcases e' with q | q | q | q | q
    · rw [q]; exact ⟨_, hz, fun v q => nomatch q⟩
    · rw [q]; exact ⟨_, hTI, fun v q => nomatch q⟩
    · rw [q]; exact ⟨_, hTO, fun v q => nomatch q⟩
    · rw [q]; exact ⟨o1, e1, fun v q => by rw [d1] at q; cases q⟩
    · rw [q]; exact ⟨o2, e2, fun v q => by rw [d2] at q; cases q⟩
  keep := fun i h h' st k => by
    obtain ⟨hz, hTI, ⟨x, y, hTO⟩, h1, ⟨o2, e2, r2⟩, hle⟩ := st
    exact ⟨k z (by simp) _ hz, k TI (by simp) _ hTI, ⟨x, y, k TO (by simp) _ hTO⟩, h1.at fun o q => k i1 (by simp) o q, ⟨o2, k i2 (by simp) _ e2, r2⟩, hle⟩
  item := by
    intro X hP hw hK hc i pins s σ H E I hf st hg
    subst hP hw hK
    obtain ⟨hz, hTI, ⟨x0, y0, hTO⟩, h1, h2, hle⟩ := st
    obtain ⟨xs, hqx, hl, hlt⟩ := hg
    obtain ⟨its, rv, p, _⟩ := I.list hqx
    have hsz : its.toArray.size = x.cps.size := by rw [List.size_toArray, ← rv.length, hl]
    have hzl : z < s.heap.objs.size := Heap.lt_size hz
    have D1 := Draws.list (prog := X.prog) (w := X.w) (A := X.A.in1) (I.ok.hd hc) i1 a hai its.toArray
    have D2 := Draws.strAscii (prog := X.prog) (w := X.w) (A := X.A.in1) (I.ok.hd hc) i2 x t
    refine pyNext_zipS_item S D1 D2 hz hTI hTO ⟨h1, p.isList⟩ h2 (by rw [hsz]; exact hlt) hlt fun u1 u2 h' tk e1 e2 z' TO' h1' h2' hT hsz' hk => ?_
    obtain ⟨c, t2, ec, rfl⟩ := e2
    refine ⟨_, rfl, letGo_zipS (s := { s with heap := h', toks := tk }) z' fun h'' z'' sb => ?_⟩
    have hT2 : h''.get? s.heap.objs.size = some { cls := .type "tuple", data := .seq #[u1, .str ⟨#[c]⟩ t2] } := (sb.2 _ (Nat.ne_of_gt hzl)).trans hT
    have hx : i < xs.length := by rw [hl]; exact hlt
    obtain ⟨u, hu, ru⟩ := rv.get (List.getElem?_eq_getElem hx)
    have eu : u = u1 := by
      have e1' : its[i]? = some u1 := by simpa using e1
      exact Option.some.inj (hu.symm.trans e1')
    subst eu
    have new : ObjOk X.prog X.w (upd H s.heap.objs.size (.tup [xs[i], .str ⟨#[c]⟩])) h'' s.heap.objs.size (.tup [xs[i], .str ⟨#[c]⟩]) :=
      ⟨by show 2 ≤ sizeLine; decide, [u, .str ⟨#[c]⟩ t2], .cons ru (.cons ⟨t2, rfl⟩ .nil), ⟨_, hT2, rfl, _, rfl⟩⟩
    have I1 : Inv X pins σ (upd H s.heap.objs.size (.tup [xs[i], .str ⟨#[c]⟩])) { s with heap := h'', toks := tk } :=
      I.turnedNew (t' := tk) (ch := [z, TI, TO, i1, i2]) (fun c o hb q => (sb.2 c (fun q' => hb (by simp [q']))).trans (hk c o (fun q' => hb (by simp [q'])) (fun q' => hb (by simp [q'])) (fun q' => hb (by simp [q'])) (fun q' => hb (by simp [q'])) q)) hf (Nat.le_refl _) new
    refine ⟨.ref s.heap.objs.size, _, I1, rfl, ⟨_, xs[i], c, rfl, I.hok.fresh (Nat.le_refl _), rfl, fun l hl => by rw [I.list_inj hl hqx]; exact List.getElem?_eq_getElem hx, ec⟩, ⟨z'', ?_, ⟨u, .str ⟨#[c]⟩ t2, ?_⟩, ?_, ?_, hlt⟩, fun c hcm => ?_⟩
    · exact (sb.2 _ S.TIz).trans (hk _ _ S.TIz S.TITO S.TIi1 S.TIi2 hTI)
    · exact (sb.2 _ S.TOz).trans TO'
    · exact h1'.1.at fun o q => (sb.2 _ (fun q => S.zi1 q.symm)).trans q
    · obtain ⟨o2, e2, r2⟩ := h2'
      exact ⟨o2, (sb.2 _ (fun q => S.zi2 q.symm)).trans e2, r2⟩
    · have hlt : c < s.heap.objs.size := by
        have e' : c = z ∨ c = TI ∨ c = TO ∨ c = i1 ∨ c = i2 := by simpa using hcm
        rcases e' with q | q | q | q | q
        · rw [q]; exact hzl
        · rw [q]; exact Heap.lt_size hTI
        · rw [q]; exact Heap.lt_size hTO
        · rw [q]; obtain ⟨_, e1, _⟩ := h1; exact Heap.lt_size e1
        · rw [q]; obtain ⟨_, e1, _⟩ := h2; exact Heap.lt_size e1
      rw [upd_ne (Nat.ne_of_lt hlt)]
      exact (hf c hcm).1
  done := by
    intro X hP hw hK hc i pins s σ H E I hf st hg
    subst hP hw hK
    obtain ⟨hz, hTI, ⟨x0, y0, hTO⟩, h1, h2, hle⟩ := st
    obtain ⟨xs, hqx, hl, hge⟩ := hg
    have ei : i = x.cps.size := Nat.le_antisymm hle hge
    subst ei
    obtain ⟨its, rv, p, _⟩ := I.list hqx
    have hsz : its.toArray.size = x.cps.size := by rw [List.size_toArray, ← rv.length, hl]
    have D1 := Draws.list (prog := X.prog) (w := X.w) (A := X.A.in1) (I.ok.hd hc) i1 a hai its.toArray
    have D2 := Draws.strAscii (prog := X.prog) (w := X.w) (A := X.A.in1) (I.ok.hd hc) i2 x t
    rw [hsz] at D1
    exact pyNext_zipS_end (I.ok.hd hc) S D1 D2 hz hTI hTO ⟨h1, p.isList⟩ h2 fun h' tk hk => ⟨rfl, I.turnedL (t' := tk) (ch := [z, TI, TO, i1, i2]) (fun c o hb q =>
      hk c o (fun q' => hb (by simp [q'])) (fun q' => hb (by simp [q'])) (fun q' => hb (by simp [q'])) (fun q' => hb (by simp [q'])) q) hf⟩
  self := fun A i s Q E st h => pyIter_zipS st.1 h
end ZS

set_option Elab.async false
set_option linter.all false
set_option maxRecDepth 100000
set_option maxHeartbeats 2000000
/-! Zu: a call of a built-in class with keywords; for .. in zip(list, text, strict=True). -/
namespace ZS
open PySem PySem.Spec PyProof.Rows L2
open Sem (wp)
section
variable {M : Model} {A : Around} {E : Value → Shared → Prop} {s : Shared} {env : Env}
theorem callWith_typeKw {pos : Pos} {T : String} {e : Expr} {rest : List Expr} {kws : List Keyword} {Q : Value → Shared → Prop}
    (h : wpAny M A (spliced (backTo pos (starEach (e :: rest) env))) (fun vs s₁ => wpAny M A (evalAll ((backToKw pos (keywordEach kws env)).map (·.2)))
      (fun kvs s₂ => wpAny M A (call (.type T) vs (((backToKw pos (keywordEach kws env)).filterMap (·.1)).zip kvs)) Q E s₂) E s₁) E s)
    (he : backTo pos (starEach (e :: rest) env) = (false, eval e env) :: backTo pos (starEach rest env) := by rfl)
    (hplain : (backTo pos (starEach (e :: rest) env)).any (·.1) = false := by rfl)
    (hall : (backToKw pos (keywordEach kws env)).all (·.1.isSome) = true := by rfl)
    (hkw : (backToKw pos (keywordEach kws env)).any (·.1.isNone) = false := by rfl) :
    wpAny M A (callWith pos (.type T) [] (backTo pos (starEach (e :: rest) env)) (backToKw pos (keywordEach kws env))) Q E s := by
  rw [he] at h
  have h2 : wpAny M A (evalArgs (.type T) true (backTo pos (starEach (e :: rest) env)) (backToKw pos (keywordEach kws env))) (fun a s₁ => wpAny M A (call (.type T) ([] ++ a.pos) a.kw) Q E s₁) E s := by
    rw [he]
    exact evalArgs_kwB hall h
  unfold callWith
  refine wpAny_bind (wpAny_holding (wpAny_mono h2 (fun a s₁ h₁ => wpAny_bind (wpAny_standAt ?_)) fun _ _ x => x))
  simp only [hplain, hkw, Bool.or_false]
  refine wpAny_bind (wpAny_pure ?_)
  exact wpAny_bind (wpAny_mono h₁ (fun r s₂ hr => wpAny_bind (wpAny_holding (wpAny_point (wpAny_pure hr)))) fun _ _ x => x)
end
def iZipS (K : PySem.W.Frag) (ta tk : TA) : TI := fun σ H R => ta σ H fun vs H1 => tk σ H1 fun zs H2 => ∃ a xs x, vs = [.ref a, .str x] ∧ zs = [.bl true] ∧ x.cps.all (· < 128) = true ∧ SqL K H2 a xs ∧ R (ItzS K a x) H2
theorem pi_zipS {X : Cx} {e e2 : Expr} {kws : List Keyword} {ta tk : TA} {p pos tpos : Pos} {elts : List Expr} {kk : Nat} (hg : Gl X "zip") (hm : X.mg "zip" = none) (ha : PA X [e, e2] ta) (hk : PK X kws tk)
    (he : backTo pos (starEach [e, e2] X.env) = (false, eval e X.env) :: backTo pos (starEach [e2] X.env) := by rfl) (hpl : (backTo pos (starEach [e, e2] X.env)).any (·.1) = false := by rfl)
    (hall : (backToKw pos (keywordEach kws X.env)).all (·.1.isSome) = true := by rfl) (hnone : (backToKw pos (keywordEach kws X.env)).any (·.1.isNone) = false := by rfl) (hks : (backToKw pos (keywordEach kws X.env)).filterMap (·.1) = [Str.ofString "strict"] := by rfl) :
    PI X (.Tuple elts kk tpos) (.Call (.Name "zip" p) [e, e2] kws pos) (iZipS X.K ta tk) := by
  refine ⟨fun pins s σ H R I h => ?_⟩
  refine wpAny_Call_Name_kw (ld_blt I hg hm PyProof.Rows.boot_zip ?_)
  refine callWith_typeKw (thn (ha.run pos pins s σ H _ I h) fun us s1 ⟨vs, H1, I1, r1, q1⟩ => thn (hk.run pos pins s1 σ H1 _ I1 q1) fun ws s2 ⟨zs, H2, I2, r2, q2⟩ => ?_) he hpl hall hnone
  rw [hks]
  obtain ⟨a, xs, x, e1, e2, hasc, hq, q⟩ := q2
  subst e1 e2
  cases r1 with
  | cons r rr =>
    cases rr with
    | cons r' rr =>
      cases rr
      cases r
      obtain ⟨t, rfl⟩ := r'
      cases r2 with
      | cons rb rr =>
        cases rr
        cases rb
        obtain ⟨its, rv, p1, _⟩ := I2.list hq
        have alt : a < s2.heap.objs.size := p1.lt
        have fresh5 : ∀ c, c ∈ [s2.heap.objs.size + 4, s2.heap.objs.size + 2, s2.heap.objs.size + 3, s2.heap.objs.size, s2.heap.objs.size + 1] → FpOk X pins H2 c := fun c hcm => by
          have e' : c = s2.heap.objs.size + 4 ∨ c = s2.heap.objs.size + 2 ∨ c = s2.heap.objs.size + 3 ∨ c = s2.heap.objs.size ∨ c = s2.heap.objs.size + 1 := by simpa using hcm
          have hle : s2.heap.objs.size ≤ c := by
            rcases e' with z | z | z | z | z
            · rw [z]; exact Nat.le_add_right _ _
            · rw [z]; exact Nat.le_add_right _ _
            · rw [z]; exact Nat.le_add_right _ _
            · rw [z]; exact Nat.le_refl _
            · rw [z]; exact Nat.le_add_right _ _
          exact I2.fpOk hle (I2.hok.fresh hle)
        show wpAny _ _ (call (.type "zip") [.ref a, .str x t] [(Str.ofString "strict", .bool true)]) _ _ _
        refine call_zipS p1.isList hasc fun h' hz hTI hTO h1 h2 hsz hkp => pyIter_zipS hz ?_
        have I3 : Inv X pins σ H2 { s2 with heap := h' } := I2.kept (t' := s2.toks) hkp
        exact ⟨s2.heap.objs.size + 4, [s2.heap.objs.size + 4, s2.heap.objs.size + 2, s2.heap.objs.size + 3, s2.heap.objs.size, s2.heap.objs.size + 1], _, _, H2, rfl, I3,
          turn_zipS (x := x) (t := t) (zip_sep2 (N := s2.heap.objs.size) (fp1 := [a]) (fp2 := []) (fun b hb => by simp at hb; subst hb; exact alt) (fun b hb => by simp at hb)) (Nat.ne_of_lt alt), ⟨hz, hTI, ⟨_, _, hTO⟩, h1, h2, Nat.zero_le _⟩, fresh5, q⟩
end ZS

set_option Elab.async false
set_option linter.all false
set_option maxRecDepth 100000
set_option maxHeartbeats 2000000
/-! Zv: the layer's rule of a loop over zip(list, text, strict=True). -/
namespace Fr
open PySem PySem.Spec PyProof.Rows L2
open Sem (wp)
section
variable {C : Ctx} {ρ : Rho} {Ξ : Exc → Rho → Prop} {tg : Expr} {k : List D → Rho → Prop} {pos : Pos}
theorem ei_zipS {a b : Expr} {p tpos kp kpos : Pos} {elts : List Expr} {kk j : Nat} (hm : C.G.mg "zip" = none)
    (h : EV C a ρ (fun o ρ1 => EV C b ρ1 (fun o2 ρ2 => ∃ ds z, o.frz = .lst ds ∧ o2.frz = .str z ∧ z.cps.all (· < 128) = true ∧ ds.length = z.cps.size ∧ k (List.zipWith (fun d e => .tup [d, e]) ds (signs z)) ρ2) Ξ) Ξ) (hg : C.sc.names.lookup ("zip" : Str) = some .globalImplicit := by rfl)
    (hs : ∀ env, starEach [a, b] env = (false, eval a env) :: starEach [b] env := by intro _; rfl) (hs2 : ∀ env, starEach [b] env = (false, eval b env) :: starEach [] env := by intro _; rfl)
    (he : ∀ env, backTo pos (starEach [a, b] env) = (false, eval a env) :: backTo pos (starEach [b] env) := by intro _; rfl) (hpl : ∀ env, (backTo pos (starEach [a, b] env)).any (·.1) = false := by intro _; rfl) :
    EI C (.Tuple elts kk tpos) (.Call (.Name "zip" p) [a, b] [⟨some "strict", .Constant (.bool true) j kp, kpos⟩] pos) ρ k Ξ := by
  intro X hx W tk σ F H fp s x
  refine w_i (ZS.pi_zipS (hx.gl hg) (by rw [hx.mg]; exact hm) (pa_cons pe_w (pa_cons pe_w pa_nil (hs2 _)) (hs _)) (pk_cons pe_bl pk_nil) (he _) (hpl _) (by rfl) (by rfl) (by rfl)) ((EV.d (k := fun d ρ1 => EV C b ρ1 (fun o2 ρ2 => ∃ ds z, d = .lst ds ∧ o2.frz = .str z ∧ z.cps.all (· < 128) = true ∧ ds.length = z.cps.size ∧ k (List.zipWith (fun d e => .tup [d, e]) ds (signs z)) ρ2) Ξ) h hx tk s x).mono fun v H1 ⟨d, ρ1, F1, fp1, h1, s1, a1, m1⟩ => ?_)
  refine (EV.d (k := fun d2 ρ2 => ∃ ds z, d = .lst ds ∧ d2 = .str z ∧ z.cps.all (· < 128) = true ∧ ds.length = z.cps.size ∧ k (List.zipWith (fun d e => .tup [d, e]) ds (signs z)) ρ2) h1 hx tk s1 (x.along m1)).mono fun u H2 ⟨d2, ρ2, F2, fp2, ⟨ds, z, e1, e2, hasc, hlen, q⟩, s2, a2, m2⟩ => ?_
  subst e1
  subst e2
  have a1 := a1.mono m2.ef
  cases a1 with
  | @lst pa vs _ hh t =>
    cases a2
    refine ⟨pa, vs, z, rfl, rfl, hasc, (.inl (.inl (s2.ex _ _ hh))), _, ρ2, F2, fp2, q, s2, m1.trans m2, ?_⟩
    have hsl : (signs z).length = z.cps.size := by simp [signs]
    have hvl : vs.length = z.cps.size := by rw [t.length]; exact hlen
    intro i F' H' e1 e2
    have h1 : SqL X.K H' pa vs := .inl (.inl (e2 _ _ (e1 _ _ hh)))
    refine ⟨fun d hd => ?_, fun hi => ⟨vs, h1, hvl, ?_⟩⟩
    · rw [List.getElem?_zipWith] at hd
      cases q1 : ds[i]? with
      | none => rw [q1] at hd; cases hd
      | some d1 =>
        cases q2 : (signs z)[i]? with
        | none => rw [q1, q2] at hd; cases hd
        | some d2 =>
          rw [q1, q2] at hd
          have hd' : D.tup [d1, d2] = d := Option.some.inj hd
          subst hd'
          obtain ⟨v1, ev1, av1⟩ := t.get q1
          have hi : i < z.cps.size := by rw [← hsl]; exact (List.getElem?_eq_some_iff.mp q2).1
          refine ⟨⟨vs, h1, hvl, hi⟩, fun y H'' ⟨T, w1, c, ey, hT, eh, hw1, hc⟩ => ?_⟩
          subst ey eh
          have e3 := hw1 vs h1
          rw [ev1] at e3
          cases e3
          have hd2 : d2 = .str ⟨#[c]⟩ := by
            unfold signs at q2
            rw [List.getElem?_map, Array.getElem?_toList, hc] at q2
            exact (Option.some.inj q2).symm
          subst hd2
          have g := Gw.new e2 hT (.tup [v1, .str ⟨#[c]⟩])
          exact ⟨_, .tup (.inl (.inl upd_same)) (.cons (av1.mono (e1.trans g.1)) (.cons (.str _) .nil)), g⟩
    · rw [List.length_zipWith, hsl, hlen, Nat.min_self] at hi
      exact hi
end
end Fr

set_option Elab.async false
set_option linter.all false
set_option maxRecDepth 100000
set_option maxHeartbeats 2000000
/-! In1: a reckoner of the text's defs over the layer's data: what it tells, the model's run does (In2, In3 show it). -/
namespace Fr
open PySem PySem.Spec PyProof.Rows L2

inductive Res (α : Type) where
  | ok (a : α) (ρ : Rho)
  | exc (c : Exc) (ρ : Rho)
  | bad
def Res.bind {α β : Type} (m : Res α) (f : α → Rho → Res β) : Res β := match m with
  | .ok a ρ => f a ρ
  | .exc c ρ => .exc c ρ
  | .bad => .bad
def Res.post {α : Type} (m : Res α) (k : α → Rho → Prop) (Ξ : Exc → Rho → Prop) : Prop := match m with
  | .ok a ρ => k a ρ
  | .exc c ρ => Ξ c ρ
  | .bad => False
def lift {α : Type} (z : Option α) (ρ : Rho) : Res α := match z with
  | some a => .ok a ρ
  | none => .bad
def gate {α : Type} (b : Bool) (m : Res α) : Res α := match b with
  | true => m
  | false => .bad
inductive FRes where
  | ok (o : O) (os : List O) (w : Rho)
  | exc (c : Exc) (os : List O) (w : Rho)
  | bad
def FRes.post (m : FRes) (k : O → List O → Prop) (Ξ : Exc → List O → Prop) : Prop := match m with
  | .ok o os _ => k o os
  | .exc c os _ => Ξ c os
  | .bad => False
abbrev FT := Str → List O → Rho → FRes
inductive Fw where
  | nx | ret (o : O) | brk | cont
def Fw.fl : Fw → Fl
  | .nx => .nx
  | .ret o => .ret o
  | .brk => .brk
  | .cont => .cont

/-! ### operators -/
def bopF (op : Operator) (x y : D) : Option RV := match op, x, y with
  | .Add, .int i, .int j => some (.d (.int (i + j)))
  | .Add, .str a, .str b => if a.length + b.length ≤ 16000000 then some (.d (.str (a ++ b))) else none
  | .Add, .tup xs, .tup ys => if xs.length + ys.length ≤ 16000000 then some (.d (.tup (xs ++ ys))) else none
  | .Add, .lst xs, .lst ys => if xs.length + ys.length ≤ 16000000 then some (.l (xs ++ ys)) else none
  | .Sub, .int i, .int j => some (.d (.int (i - j)))
  | .Mult, .int i, .int j => if (-(2 ^ 64) < i ∧ i < 2 ^ 64) ∨ (-(2 ^ 64) < j ∧ j < 2 ^ 64) then some (.d (.int (i * j))) else none
  | .Mult, .str a, .int k => if 2 ≤ k ∧ k < 2 ^ 62 ∧ 0 < a.length ∧ a.length * k.toNat ≤ 16000000 then some (.d (.str (repZ a k.toNat))) else none
  | .Mult, .lst xs, .int k => if -(2 ^ 63) ≤ k ∧ k < 2 ^ 63 ∧ xs.length * k.toNat ≤ 16000000 then some (.l (List.replicate k.toNat xs).flatten) else none
  | .FloorDiv, .int i, .int j => if 0 < j ∧ j < 1073741824 then some (.d (.int (i / j))) else none
  | .Mod, .int i, .int j => if 0 < j then some (.d (.int (i % j))) else none
  | .Pow, .int i, .int j => if 0 ≤ j ∧ j ≤ 1000000 ∧ i.natAbs < 2 ^ 64 then some (.d (.int (i ^ j.toNat))) else none
  | _, _, _ => none
def eqQ (x y : D) : Option Bool := match x, y with
  | .int i, .int j => some (decide (i = j))
  | .str a, .str b => some (decide (a = b))
  | .bl a, .bl b => some (decide (a = b))
  | x, y => if x.ok = true ∧ y.ok = true then some (x.eq y) else none
def inQ (x y : D) : Option Bool := match y with
  | .str z => (match x with
    | .str a => (match a.cps.toList with
      | [c] => some (decide (c ∈ z.cps.toList))
      | _ => none)
    | _ => none)
  | .lst ys => if x.flat = true ∧ ys.all D.flat = true then some (ys.any fun d => eqF d x) else none
  | .tup ys => if x.flat = true ∧ ys.all D.flat = true then some (ys.any fun d => eqF d x) else none
  | _ => none
def isNon : D → Bool
  | .non => true
  | _ => false
def isQ (x y : D) : Option Bool := match x, y with
  | x, .non => if x.ex = true then none else some (isNon x)
  | .non, .bl _ => some false
  | .bl a, .bl b => some (decide (a = b))
  | _, _ => none
def isnQ (x y : D) : Option Bool := match x, y with
  | x, .non => if x.ex = true then none else some (!isNon x)
  | .bl a, .bl b => some (!decide (a = b))
  | _, _ => none
def cmpF (op : CmpOp) (x y : D) : Option Bool := match op with
  | .Lt => (match x, y with | .int i, .int j => some (decide (i < j)) | _, _ => none)
  | .LtE => (match x, y with | .int i, .int j => some (decide (i ≤ j)) | _, _ => none)
  | .Gt => (match x, y with | .int i, .int j => some (decide (j < i)) | _, _ => none)
  | .GtE => (match x, y with | .int i, .int j => some (decide (j ≤ i)) | _, _ => none)
  | .Eq => eqQ x y
  | .NotEq => (match eqQ x y with | some b => some (!b) | none => none)
  | .In => inQ x y
  | .NotIn => (match inQ x y with | some b => some (!b) | none => none)
  | .Is => isQ x y
  | .IsNot => isnQ x y
def truF (d : D) : Option Bool := match d with
  | .non => some false
  | .bl b => some b
  | .int i => some (i != 0)
  | .str z => if z.length ≤ 16000000 then some ((z.length : Int) != 0) else none
  | .lst ds => some (!ds.isEmpty)
  | .tup ds => some (!ds.isEmpty)
  | _ => none
def intsQ : List D → Option (List Int)
  | [] => some []
  | .int i :: ds => (match intsQ ds with | some is => some (i :: is) | none => none)
  | _ :: _ => none
def blsQ : List D → Option (List Bool)
  | [] => some []
  | .bl i :: ds => (match blsQ ds with | some is => some (i :: is) | none => none)
  | _ :: _ => none
def strsQ : List D → Option (List Str)
  | [] => some []
  | .str i :: ds => (match strsQ ds with | some is => some (i :: is) | none => none)
  | _ :: _ => none
def lenQ (d : D) : Option RV := match d with
  | .str z => if z.length ≤ 16000000 then some (.d (.int z.length)) else none
  | .lst ds => some (.d (.int ds.length))
  | .tup ds => some (.d (.int ds.length))
  | _ => none
/-- built-in functions | classes, called with frozen values -/
def cbF (f : Str) (ds : List D) : Option RV :=
  if f = "len" then (match ds with | [d] => lenQ d | _ => none)
  else if f = "abs" then (match ds with | [.int i] => some (.d (.int (if i < 0 then -i else i))) | _ => none)
  else if f = "min" then (match ds with | [.int i, .int j] => some (.d (.int (if j < i then j else i))) | _ => none)
  else if f = "max" then (match ds with | [.int i, .int j] => some (.d (.int (if j > i then j else i))) | _ => none)
  else if f = "sum" then (match ds with | [.lst xs] => (match intsQ xs with | some ns => some (.d (.int ns.sum)) | none => none) | _ => none)
  else if f = "all" then (match ds with | [.lst xs] => (match blsQ xs with | some bs => some (.d (.bl (bs.all id))) | none => none) | _ => none)
  else if f = "any" then (match ds with | [.lst xs] => (match blsQ xs with | some bs => some (.d (.bl (bs.any id))) | none => none) | _ => none)
  else none
def ctF (f : Str) (ds : List D) : Option RV :=
  if f = "int" then (match ds with
    | [.int i] => some (.d (.int i))
    | [.bl b] => some (.d (.int (if b then 1 else 0)))
    | [.str a] => if a.length ≤ 640 then (match PySem.intText? a with | some n => some (.d (.int n)) | none => none) else none
    | _ => none)
  else if f = "str" then (match ds with
    | [.int i] => if i.natAbs.log2 < 1920 then some (.d (.str (toString i))) else none
    | [.str a] => some (.d (.str a))
    | _ => none)
  else if f = "tuple" then (match ds with
    | [.lst xs] => some (.d (.tup xs))
    | [.tup xs] => some (.d (.tup xs))
    | _ => none)
  else if f = "list" then (match ds with
    | [.lst xs] => some (.l xs)
    | [.tup xs] => some (.l xs)
    | _ => none)
  else none
def isCT (f : Str) : Bool := decide (f = "int") || decide (f = "str") || decide (f = "tuple") || decide (f = "list")
def isCB (f : Str) : Bool := decide (f = "len") || decide (f = "abs") || decide (f = "min") || decide (f = "max") || decide (f = "sum") || decide (f = "all") || decide (f = "any")
def isMS (m : Str) : Bool := decide (m = "join") || decide (m = "split") || decide (m = "partition")
/-- a text's method -/
def msF (m : Str) (a : Str) (ds : List D) : Option RV :=
  if m = "join" then (match ds with
    | [.lst xs] => (match strsQ xs with | some ys => if (ys.map (·.length)).sum + ys.length * a.length ≤ 16000000 then some (.d (.str (Txt.join a ys))) else none | none => none)
    | [.tup xs] => (match strsQ xs with | some ys => if (ys.map (·.length)).sum + ys.length * a.length ≤ 16000000 then some (.d (.str (Txt.join a ys))) else none | none => none)
    | _ => none)
  else if m = "split" then (match ds with
    | [.str b] => if (b.length == 0) = false ∧ a.length + 2 ≤ 16000000 then some (.l ((Txt.split a b).map .str)) else none
    | _ => none)
  else if m = "partition" then (match ds with
    | [.str b] => if (b.length == 0) = false ∧ a.length ≤ 16000000 then some (.d (.tup [.str (Txt.partition a b).1, .str (Txt.partition a b).2.1, .str (Txt.partition a b).2.2])) else none
    | _ => none)
  else none
def ixF (x y : D) : Option D := match x, y with
  | .lst ds, .int i => L2.atI ds i
  | .tup ds, .int i => L2.atI ds i
  | .str z, .int i => if z.length ≤ 16000000 then (match L2.atI z.cps.toList i with | some c => some (.str ⟨#[c]⟩) | none => none) else none
  | _, _ => none
def slF (x : D) (lo hi : Option Int) : Option RV := match x with
  | .str z => if z.length ≤ 16000000 then some (.d (.str (cutS z lo hi))) else none
  | .lst ds => some (.l (cutD ds lo hi))
  | .tup ds => some (.d (.tup (cutD ds lo hi)))
  | .scr ns => some (.l (cutD (ns.map .int) lo hi))
  | _ => none
/-- what is walked -/
def itemsQ (d : D) : Option (List D) := match d with
  | .lst ds => some ds
  | .tup ds => some ds
  | .str z => some (signs z)
  | .scr ns => some (ns.map .int)
  | _ => none

/-! ### the text -/
structure FD where
  ps : List Str
  N : List Str
  sc : Scope
  body : List Stmt
  pin : List Nat := []
  mu : List Nat := []
  flat : Bool := false
  dv : List D := []
structure IP where
  cst : List (Str × D) := []
  fns : List (Str × FD) := []
  fre : List Str := []
  ecs : List Str := []
  hnd : List ((Str × Str) × Bool) := []
  isE : List ((Str × Str) × Bool) := []
  tbS : List (Str × List (Str × Str)) := []
  tbF : List (Str × List (Str × Str)) := []
  tbK : List (Str × List Str) := []
structure IC where
  P : IP
  Φ : FT
  N : List Str
  sc : Scope
  top : Bool
  pin : List Nat
  su : Option (Addr × Exc) := none
def idx : List Str → Str → Nat → Option Nat
  | [], _, _ => none
  | y :: ys, x, i => if y = x then some i else idx ys x (i + 1)
def IC.slot (ic : IC) (x : Str) : Option Nat := idx ic.N x 0
def visB (sc : Scope) (x : Str) : Bool := match sc.names.lookup x with
  | some .local => true
  | some .cell => true
  | some .free => true
  | _ => false
def glB (sc : Scope) (x : Str) : Bool := decide (sc.names.lookup x = some .globalImplicit)
def locB (sc : Scope) (x : Str) : Bool := match sc.names.lookup x with
  | some .local => true
  | some .cell => true
  | _ => false
def dbgB (x : Str) : Bool := !(decide (x = "__debug__") || decide (x = "__classdict__") || decide (x = "__name__"))
def starB : Expr → Bool
  | .Starred .. => true
  | _ => false
def noStar (es : List Expr) : Bool := es.all fun e => !starB e
def IC.stoB (ic : IC) (x : Str) : Bool := locB ic.sc x && (ic.top || decide (ic.sc.names.lookup x = some .local))
def IC.blk (ic : IC) (scope : Scope) : IC := { ic with sc := relS scope ic.sc, top := false }
/-- a name, read to be kept: what is its slot's own is frozen -/
def nameE (ic : IC) (x : Str) (ρ : Rho) : Res O := gate (dbgB x) (match ic.slot x with
  | some i => gate (visB ic.sc x) (match ρ[i]? with
    | some (some (.fz d)) => .ok (.fz d) ρ
    | some (some o) => .ok (.fz o.frz) (ρ.set i (some (.fz o.frz)))
    | _ => .bad)
  | none => gate (glB ic.sc x) (lift ((ic.P.cst.lookup x).map O.fz) ρ))
def frzS : Option O → Option O
  | some o => some (.fz o.frz)
  | none => none
/-- what is told with all slots frozen for the while -/
def thawE (m : Rho → Res O) (ρ : Rho) : Res O := match m (ρ.map frzS) with
  | .ok (.fz d) _ => gate d.flat (.ok (.fz d) ρ)
  | .ok _ _ => .bad
  | .exc c _ => (match c.fld with | none => .exc c ρ | some _ => .bad)
  | .bad => .bad
def thawT (m : Rho → Res Bool) (ρ : Rho) : Res Bool := match m (ρ.map frzS) with
  | .ok b _ => .ok b ρ
  | .exc c _ => (match c.fld with | none => .exc c ρ | some _ => .bad)
  | .bad => .bad
/-- nothing is written: names, constants, comparisons, lengths -/
def calm : Nat → Expr → Bool
  | 0, _ => false
  | _ + 1, .Constant .. => true
  | _ + 1, .Name .. => true
  | n + 1, .Compare l _ cs _ => calm n l && cs.all (calm n)
  | n + 1, .BinOp l _ r _ => calm n l && calm n r
  | n + 1, .UnaryOp _ o _ => calm n o
  | n + 1, .Subscript a b _ => calm n a && calm n b
  | n + 1, .List es _ => es.all (calm n)
  | n + 1, .Tuple es _ _ => es.all (calm n)
  | n + 1, .Call (.Name f _) es [] _ => decide (f = "len") && es.all (calm n)
  | _ + 1, _ => false
mutual
def tgA (ic : IC) : Nat → Expr → D → Rho → Option Rho
  | 0, _, _, _ => none
  | n + 1, e, d, ρ => match e with
    | .Name x _ => (match ic.slot x with
      | some i => if ic.stoB x = true ∧ i ∉ ic.pin then some (ρ.set i (some (.fz d))) else none
      | none => none)
    | .Tuple es _ _ => (match d with
      | .tup ds => if noStar es = true ∧ es.length = ds.length then tgAs ic n es ds ρ else none
      | _ => none)
    | _ => none
def tgAs (ic : IC) : Nat → List Expr → List D → Rho → Option Rho
  | 0, _, _, _ => none
  | n + 1, es, ds, ρ => match es, ds with
    | [], [] => some ρ
    | e :: es, d :: ds => (match tgA ic n e d ρ with
      | some ρ1 => tgAs ic n es ds ρ1
      | none => none)
    | _, _ => none
end
mutual
def tgS (ic : IC) : Nat → Expr → List Nat
  | 0, _ => []
  | n + 1, e => match e with
    | .Name x _ => (match ic.slot x with
      | some i => [i]
      | none => [])
    | .Tuple es _ _ => tgSs ic n es
    | _ => []
def tgSs (ic : IC) : Nat → List Expr → List Nat
  | 0, _ => []
  | n + 1, es => match es with
    | [] => []
    | e :: es => tgS ic n e ++ tgSs ic n es
end
def namesOf (ic : IC) (l : List Nat) : List (Str × Nat) := l.map fun i => (ic.N.getD i "", i)
def forL (turn : D → Rho → Res Fw) : List D → Rho → Res Fw
  | [], ρ => .ok .nx ρ
  | d :: ds, ρ => match turn d ρ with
    | .ok .nx ρ1 => forL turn ds ρ1
    | .ok .cont ρ1 => forL turn ds ρ1
    | .ok .brk ρ1 => .ok .nx ρ1
    | .ok (.ret o) ρ1 => .ok (.ret o) ρ1
    | .exc c ρ1 => .exc c ρ1
    | .bad => .bad
def whileL (test : Rho → Res Bool) (body : Rho → Res Fw) : Nat → Rho → Res Fw
  | 0, _ => .bad
  | n + 1, ρ => match test ρ with
    | .ok true ρ1 => (match body ρ1 with
      | .ok .nx ρ2 => whileL test body n ρ2
      | .ok .cont ρ2 => whileL test body n ρ2
      | .ok .brk ρ2 => .ok .nx ρ2
      | .ok (.ret o) ρ2 => .ok (.ret o) ρ2
      | .exc c ρ2 => .exc c ρ2
      | .bad => .bad)
    | .ok false ρ1 => .ok .nx ρ1
    | .exc c ρ1 => .exc c ρ1
    | .bad => .bad
def lcL (tgt : D → Rho → Option Rho) (tst : Rho → Res Bool) (el : Rho → Res O) (vs : List Nat) : List D → List O → Rho → Res (List O)
  | [], acc, ρ => .ok acc (wipeR ρ vs)
  | d :: ds, acc, ρ => match tgt d ρ with
    | none => .bad
    | some ρ2 => match tst ρ2 with
      | .ok true ρ3 => (match el ρ3 with
        | .ok o ρ4 => lcL tgt tst el vs ds (acc ++ [o]) (wipeR ρ4 vs)
        | .exc c ρ4 => .exc c (wipeR ρ4 vs)
        | .bad => .bad)
      | .ok false ρ3 => lcL tgt tst el vs ds acc (wipeR ρ3 vs)
      | .exc c ρ3 => .exc c (wipeR ρ3 vs)
      | .bad => .bad
open Classical in
/-- told of each address alike -/
noncomputable def allA {α : Type} (f : Addr → Res α) : Res α := if ∀ a, f a = f 0 then f 0 else .bad

structure Ops where
  E : IC → Expr → Rho → Res O
  T : IC → Expr → Rho → Res Bool
  B : IC → List Stmt → Rho → Res Fw
section
variable (r : Ops) (ic : IC)
/-- frozen arguments -/
def dsF : List Expr → Rho → Res (List D)
  | [], ρ => .ok [] ρ
  | e :: es, ρ => gate (!starB e) ((r.E ic e ρ).bind fun o ρ1 => (dsF es ρ1).bind fun ds ρ2 => .ok (o.frz :: ds) ρ2)
def lentS (e : Expr) (ρ : Rho) : Option Nat := match e with
  | .Name x _ => if dbgB x = true ∧ visB ic.sc x = true then (match ic.slot x with
    | some i => (match ρ[i]? with
      | some (some (.fz _)) => none
      | some (some _) => some i
      | _ => none)
    | none => none) else none
  | _ => none
/-- a call's arguments; mu: the places that the def writes -/
def asF (mu : List Nat) : Nat → List Expr → Rho → Res (List AO)
  | _, [], ρ => .ok [] ρ
  | j, e :: es, ρ => gate (!starB e) (match mu.contains j with
    | true => (match lentS ic e ρ with
      | some i => (asF mu (j + 1) es ρ).bind fun as ρ2 => (match ρ2[i]? with
        | some (some o) => .ok ((o, some i) :: as) (ρ2.set i none)
        | _ => .bad)
      | none => (r.E ic e ρ).bind fun o ρ1 => (asF mu (j + 1) es ρ1).bind fun as ρ2 => .ok ((o, none) :: as) ρ2)
    | false => (r.E ic e ρ).bind fun o ρ1 => (asF mu (j + 1) es ρ1).bind fun as ρ2 => .ok ((.fz o.frz, none) :: as) ρ2)
/-- a def's call -/
def callF (f : Str) (mu : List Nat) (dv : List D) (es : List Expr) (ρ : Rho) : Res O :=
  (asF r ic mu 0 es ρ).bind fun as ρ1 => match ic.Φ f (as.map (·.1) ++ dv.map .fz) [] with
    | .ok o os' _ => .ok o (refill as os' ρ1)
    | .exc c os' _ => .exc c (refill as os' ρ1)
    | .bad => .bad
def tabMu (P : IP) (t : List (Str × Str)) : List Nat := match t with
  | [] => []
  | (_, g) :: _ => (match P.fns.lookup g with
    | some fd => fd.mu
    | none => [])
def isiT (f : Str) : Option String :=
  if f = "int" then some "int" else if f = "bool" then some "bool" else if f = "str" then some "str" else if f = "tuple" then some "tuple" else if f = "list" then some "list" else if f = "dict" then some "dict" else none
/-- isinstance -/
def isiF (es : List Expr) (ρ : Rho) : Res O := match es with
  | [e, .Name T _] => gate (!starB e && dbgB T && glB ic.sc T) (match isiT T with
    | some t => gate (ic.P.fre.contains T) ((r.E ic e ρ).bind fun o ρ1 => gate (!o.frz.ex) (.ok (.fz (.bl (isiD o.frz t))) ρ1))
    | none => (match ic.su, e with
      | some (a, c), .Name n _ => (match ic.slot n with
        | some i => gate (dbgB n && visB ic.sc n && (match c.fld with | none => true | some _ => false)) (match ρ[i]? with
          | some (some (.fz (.exn b))) => gate (decide (b = a)) (lift ((ic.P.isE.lookup (c.name, T)).map fun b => .fz (.bl b)) ρ)
          | _ => .bad)
        | none => .bad)
      | _, _ => .bad))
  | [e, .Tuple [.Name T _, .Name U _] _ _] => gate (!starB e && (dbgB T && glB ic.sc T) && (dbgB U && glB ic.sc U)) (match isiT T, isiT U with
    | some t, some u => gate (ic.P.fre.contains T && ic.P.fre.contains U) ((r.E ic e ρ).bind fun o ρ1 => gate (!o.frz.ex) (.ok (.fz (.bl (isiD o.frz t || isiD o.frz u))) ρ1))
    | _, _ => .bad)
  | _ => .bad
/-- what a for walks -/
def itF (tg iter : Expr) (ρ : Rho) : Res (List D) :=
  match tg, iter with
  | .Tuple _ _ _, .Call (.Name f _) [a] [] _ => if f = "enumerate" then gate (!starB a && glB ic.sc f && ic.P.fre.contains f) ((r.E ic a ρ).bind fun o ρ1 => match o.frz with
      | .lst ds => .ok (numbered ds) ρ1
      | _ => .bad)
    else genF f [a] iter ρ
  | .Tuple _ _ _, .Call (.Name f _) [a, b] [] _ => if f = "zip" then gate (noStar [a, b] && glB ic.sc f && ic.P.fre.contains f) ((r.E ic a ρ).bind fun o ρ1 => (r.E ic b ρ1).bind fun o2 ρ2 => match o.frz, o2.frz with
      | .lst ds, .lst es => .ok (List.zipWith (fun d e => .tup [d, e]) ds es) ρ2
      | .tup ds, .tup es => .ok (List.zipWith (fun d e => .tup [d, e]) ds es) ρ2
      | _, _ => .bad)
    else genF f [a, b] iter ρ
  | .Tuple _ _ _, .Call (.Name f _) [a, b] [⟨some k, .Constant (.bool true) _ _, _⟩] _ => gate (decide (f = "zip") && decide (k = "strict")) (gate (noStar [a, b] && glB ic.sc f && ic.P.fre.contains f) ((r.E ic a ρ).bind fun o ρ1 => (r.E ic b ρ1).bind fun o2 ρ2 => match o.frz, o2.frz with
      | .lst ds, .str z => gate (z.cps.all (· < 128) && decide (ds.length = z.cps.size)) (.ok (List.zipWith (fun d e => .tup [d, e]) ds (signs z)) ρ2)
      | _, _ => .bad))
  | _, .Call (.Name f _) as [] _ => genF f as iter ρ
  | _, _ => (r.E ic iter ρ).bind fun o ρ1 => lift (itemsQ o.frz) ρ1
where
  genF (f : Str) (as : List Expr) (iter : Expr) (ρ : Rho) : Res (List D) :=
    if f = "range" then (match as with
      | [a] => gate (!starB a && glB ic.sc f && ic.P.fre.contains f) ((r.E ic a ρ).bind fun o ρ1 => match o.frz with
        | .int j => gate (decide (-(2 ^ 62) ≤ j ∧ j < 2 ^ 62)) (.ok (rngD 0 j.toNat) ρ1)
        | _ => .bad)
      | [a, b] => gate (noStar [a, b] && glB ic.sc f && ic.P.fre.contains f) ((r.E ic a ρ).bind fun o ρ1 => (r.E ic b ρ1).bind fun o2 ρ2 => match o.frz, o2.frz with
        | .int i, .int j => gate (decide (-(2 ^ 62) ≤ i ∧ i < 2 ^ 62 ∧ -(2 ^ 62) ≤ j ∧ j < 2 ^ 62)) (.ok (rngD i (j - i).toNat) ρ2)
        | _, _ => .bad)
      | _ => .bad)
    else if f = "enumerate" then .bad else if f = "zip" then .bad
    else (r.E ic iter ρ).bind fun o ρ1 => lift (itemsQ o.frz) ρ1
def setB : Expr → Bool
  | .Set .. => true
  | _ => false
def tstF (ifs : List Expr) : Rho → Res Bool := match ifs with
  | [] => fun ρ => .ok true ρ
  | [c] => r.T ic c
  | _ => fun _ => .bad
/-- a list comprehension -/
def lcF (elt : Expr) (gens : List Comprehension) (scope : Scope) (ρ : Rho) : Res (List O) := match gens with
  | [⟨tg, iter, ifs, 0⟩] =>
    gate (decide (ic.su = none) && !setB iter && blkC ic.N ic.sc scope (namesOf ic (tgS ic 12 tg))) ((itF r ic tg iter ρ).bind fun ds ρ1 => gate (decide (ds.length ≤ 16000000)) (
      match lcL (tgA (ic.blk scope) 12 tg) (tstF r (ic.blk scope) ifs) (r.E (ic.blk scope) elt) (tgS ic 12 tg) ds [] (wipeR ρ1 (tgS ic 12 tg)) with
      | .ok acc ρ2 => .ok acc ρ2
      | .exc c ρ2 => gate ic.top (.exc c ρ2)
      | .bad => .bad))
  | _ => .bad
def partF (p : Option Expr) (ρ : Rho) : Res (Option Int) := match p with
  | none => .ok none ρ
  | some e => (r.E ic e ρ).bind fun o ρ1 => match o.frz with
    | .int i => .ok (some i) ρ1
    | _ => .bad
/-- x[i] -/
def subF (a b : Expr) (ρ : Rho) : Res O :=
  match b with
  | .Slice lo hi none _ => (r.E ic a ρ).bind fun x ρ1 => (partF r ic lo ρ1).bind fun l ρ2 => (partF r ic hi ρ2).bind fun u ρ3 => lift ((slF x.frz l u).map RV.o) ρ3
  | .Slice _ _ (some _) _ => .bad
  | .Starred .. => .bad
  | .Tuple .. => .bad
  | _ => match lentS ic a ρ with
    | some i => (r.E ic b ρ).bind fun y ρ2 => (match ρ2[i]?, y.frz with
      | some (some (.lst os)), .int z => (match L2.atI os z with
        | some (.fz d) => .ok (.fz d) ρ2
        | _ => .bad)
      | _, _ => .bad)
    | none => (match tabQ a with
      | some t => (r.E ic b ρ).bind fun y ρ1 => (match y.frz with
        | .str q => lift ((t.lookup q).map fun z => .fz (.str z)) ρ1
        | _ => .bad)
      | none => (r.E ic a ρ).bind fun x ρ1 => (r.E ic b ρ1).bind fun y ρ2 => lift ((ixF x.frz y.frz).map O.fz) ρ2)
where
  tabQ (a : Expr) : Option (List (Str × Str)) := match a with
    | .Name x _ => if glB ic.sc x = true ∧ dbgB x = true ∧ ic.slot x = none then ic.P.tbS.lookup x else none
    | _ => none
def baseB : Expr → Bool
  | .Call (.Name _ _) [] [] _ => false
  | _ => true
/-- a call -/
def cllF (fe : Expr) (es : List Expr) (kws : List Keyword) (pos : Pos) (ρ : Rho) : Res O :=
  match fe, kws with
  | .Name f _, [] => gate (dbgB f && glB ic.sc f && noStar es && !es.isEmpty) (match ic.P.fns.lookup f with
    | some fd => gate (decide (ic.su = none)) (match fd.flat with
      | true => thawE (callF r ic f fd.mu (fd.dv.drop (es.length + fd.dv.length - fd.ps.length)) es) ρ
      | false => callF r ic f fd.mu (fd.dv.drop (es.length + fd.dv.length - fd.ps.length)) es ρ)
    | none => gate (ic.P.fre.contains f) (
      if f = "isinstance" then isiF r ic es ρ
      else (match isCT f with
        | true => ((dsF r ic es ρ).bind fun ds ρ1 => lift ((ctF f ds).map RV.o) ρ1)
        | false => gate (isCB f && decide (ic.su = none)) ((dsF r ic es ρ).bind fun ds ρ1 => lift ((cbF f ds).map RV.o) ρ1))))
  | .Subscript (.Name x _) ie _, [] => gate (decide (ic.su = none) && dbgB x && glB ic.sc x && noStar es && !es.isEmpty && plainB ie && decide (ic.slot x = none)) (match ic.P.tbF.lookup x with
    | some t => gate (t.all fun p => (ic.P.fns.lookup p.2).isSome) ((r.E ic ie ρ).bind fun y ρ1 => (match y.frz with
      | .str q => (match t.lookup q with
        | some g => callF r ic g (tabMu ic.P t) [] es ρ1
        | none => .bad)
      | _ => .bad))
    | none => .bad)
  | .Attribute o m apos, [] => gate (apos.endLine == pos.line) (match lentS ic o ρ with
    | some i => (match ρ[i]? with
      | some (some (.lst os0)) =>
        if m = "append" then (match es with
          | [e] => gate (!starB e) ((r.E ic e ρ).bind fun v ρ1 => (match ρ1[i]? with
            | some (some (.lst os)) => gate (decide (os.length < 16000000)) (.ok (.fz .non) (ρ1.set i (some (.lst (os ++ [v])))))
            | _ => .bad))
          | _ => .bad)
        else if m = "extend" then (match es with
          | [e] => gate (!starB e) ((r.E ic e ρ).bind fun v ρ1 => (match ρ1[i]?, v.frz with
            | some (some (.lst os)), .lst ds => gate (decide (os.length + ds.length ≤ 16000000)) (.ok (.fz .non) (ρ1.set i (some (.lst (os ++ ds.map .fz)))))
            | _, _ => .bad))
          | _ => .bad)
        else if m = "pop" then (match es with
          | [] => (match os0.getLast? with
            | some (.fz d) => .ok (.fz d) (ρ.set i (some (.lst os0.dropLast)))
            | _ => .bad)
          | _ => .bad)
        else .bad
      | _ => .bad)
    | none => gate (noStar es && !es.isEmpty && decide (es.length < 20) && baseB o && isMS m) ((r.E ic o ρ).bind fun v ρ1 => (match v.frz with
      | .str a => (dsF r ic es ρ1).bind fun ds ρ2 => lift ((msF m a ds).map RV.o) ρ2
      | _ => .bad)))
  | _, _ => .bad
where
  plainB (e : Expr) : Bool := match e with
    | .Slice .. => false
    | .Starred .. => false
    | .Tuple .. => false
    | _ => true
/-- a table's keys are asked -/
def keyQ (op : CmpOp) (c : Expr) : Option (List Str × Bool) := match op, c with
  | .In, .Name x _ => if glB ic.sc x = true ∧ dbgB x = true ∧ ic.slot x = none then (ic.P.tbK.lookup x).map fun ks => (ks, true) else none
  | .NotIn, .Name x _ => if glB ic.sc x = true ∧ dbgB x = true ∧ ic.slot x = none then (ic.P.tbK.lookup x).map fun ks => (ks, false) else none
  | _, _ => none
def eqB (a b : Bool) : Bool := match a with
  | true => b
  | false => !b
/-- a comparison, of one or two operators -/
def cmpE (l : Expr) (ops : List CmpOp) (cs : List Expr) (ρ : Rho) : Res Bool := match ops, cs with
  | [op], [c] => gate (!behindInMarks op c) (match keyQ ic op c with
    | some (ks, b) => (r.E ic l ρ).bind fun x ρ1 => (match x.frz with
      | .str z => .ok (eqB b (decide (z ∈ ks))) ρ1
      | _ => .bad)
    | none => (r.E ic l ρ).bind fun x ρ1 => (r.E ic c ρ1).bind fun y ρ2 => lift (cmpF op x.frz y.frz) ρ2)
  | [op, op'], [b, c] => gate (!lastMarks [op, op'] [b, c]) ((r.E ic l ρ).bind fun x ρ1 => (r.E ic b ρ1).bind fun y ρ2 => (match cmpF op x.frz y.frz with
    | some true => (r.E ic c ρ2).bind fun z ρ3 => lift (cmpF op' y.frz z.frz) ρ3
    | some false => .ok false ρ2
    | none => .bad))
  | _, _ => .bad
def andF : List Expr → Rho → Res Bool
  | [], _ => .bad
  | [e], ρ => r.T ic e ρ
  | e :: es, ρ => (r.T ic e ρ).bind fun b ρ1 => match b with
    | true => andF es ρ1
    | false => .ok false ρ1
def orF : List Expr → Rho → Res Bool
  | [], _ => .bad
  | [e], ρ => r.T ic e ρ
  | e :: es, ρ => (r.T ic e ρ).bind fun b ρ1 => match b with
    | true => .ok true ρ1
    | false => orF es ρ1
def andV : List Expr → Rho → Res O
  | [], _ => .bad
  | [e], ρ => r.E ic e ρ
  | e :: es, ρ => (r.E ic e ρ).bind fun o ρ1 => match o.frz with
    | .bl true => andV es ρ1
    | .bl false => .ok (.fz (.bl false)) ρ1
    | _ => .bad
def orV : List Expr → Rho → Res O
  | [], _ => .bad
  | [e], ρ => r.E ic e ρ
  | e :: es, ρ => (r.E ic e ρ).bind fun o ρ1 => match o.frz with
    | .bl true => .ok (.fz (.bl true)) ρ1
    | .bl false => orV es ρ1
    | _ => .bad
def evE (e : Expr) (ρ : Rho) : Res O := match e with
  | .Name x _ => nameE ic x ρ
  | .Constant c _ _ => (match c with
    | .none => .ok (.fz .non) ρ
    | .bool b => .ok (.fz (.bl b)) ρ
    | .int i => .ok (.fz (.int i)) ρ
    | .str s => .ok (.fz (.str s)) ρ
    | _ => .bad)
  | .Tuple es _ _ => (dsF r ic es ρ).bind fun ds ρ1 => gate (decide (ds.length ≤ 16000000)) (.ok (.fz (.tup ds)) ρ1)
  | .List es _ => (dsF r ic es ρ).bind fun ds ρ1 => gate (decide (ds.length ≤ 16000000)) (.ok (.lst (ds.map .fz)) ρ1)
  | .Dict [] [] _ => .ok (.dic [] []) ρ
  | .BinOp a op b _ => (r.E ic a ρ).bind fun x ρ1 => (r.E ic b ρ1).bind fun y ρ2 => lift ((bopF op x.frz y.frz).map RV.o) ρ2
  | .UnaryOp .USub a _ => (r.E ic a ρ).bind fun x ρ1 => (match x.frz with
    | .int i => .ok (.fz (.int (-i))) ρ1
    | _ => .bad)
  | .UnaryOp .Not a _ => (r.E ic a ρ).bind fun x ρ1 => (match x.frz with
    | .bl b => .ok (.fz (.bl (!b))) ρ1
    | _ => .bad)
  | .BoolOp .And es _ => andV r ic es ρ
  | .BoolOp .Or es _ => orV r ic es ρ
  | .IfExp c a b _ => (r.T ic c ρ).bind fun t ρ1 => (match t with
    | true => r.E ic a ρ1
    | false => r.E ic b ρ1)
  | .Compare l ops cs _ => (match calm 8 e with
    | true => (thawT (cmpE r ic l ops cs) ρ).bind fun b ρ1 => .ok (.fz (.bl b)) ρ1
    | false => (cmpE r ic l ops cs ρ).bind fun b ρ1 => .ok (.fz (.bl b)) ρ1)
  | .Subscript a b _ => subF r ic a b ρ
  | .ListComp elt gens scope _ => (lcF r ic elt gens scope ρ).bind fun acc ρ1 => .ok (.lst acc) ρ1
  | .Call fe es kws pos => (match calm 8 e with
    | true => thawE (cllF r ic fe es kws pos) ρ
    | false => cllF r ic fe es kws pos ρ)
  | _ => .bad
def valB : Expr → Bool
  | .BoolOp .. => false
  | .Compare .. => false
  | .IfExp .. => false
  | .UnaryOp .Not _ _ => false
  | _ => true
def evT (e : Expr) (ρ : Rho) : Res Bool := match e with
  | .BoolOp .And es _ => andF r ic es ρ
  | .BoolOp .Or es _ => orF r ic es ρ
  | .UnaryOp .Not a _ => (r.T ic a ρ).bind fun b ρ1 => .ok (!b) ρ1
  | .Compare l ops cs _ => (match calm 8 e with
    | true => thawT (cmpE r ic l ops cs) ρ
    | false => cmpE r ic l ops cs ρ)
  | .IfExp .. => .bad
  | .Name .. => thawT (fun ρ => (r.E ic e ρ).bind fun o ρ1 => lift (truF o.frz) ρ1) ρ
  | _ => gate (valB e) ((r.E ic e ρ).bind fun o ρ1 => lift (truF o.frz) ρ1)
def compB : Expr → Bool
  | .ListComp .. => true
  | .SetComp .. => true
  | .DictComp .. => true
  | _ => false
/-- no stores that are exchanged -/
def plainTg (tg e : Expr) : Bool := match tg, e with
  | .Tuple .., .Tuple .. => false
  | .List .., .Tuple .. => false
  | _, _ => true
noncomputable def evS (st : Stmt) (ρ : Rho) : Res Fw := match st with
  | .Return (some e) _ => (match retS e ρ with
    | some i => (match ρ[i]? with
      | some (some o) => .ok (.ret o) (ρ.set i none)
      | _ => .bad)
    | none => (r.E ic e ρ).bind fun o ρ1 => .ok (.ret o) ρ1)
  | .Return none _ => .ok (.ret (.fz .non)) ρ
  | .Pass _ => .ok .nx ρ
  | .Break _ => .ok .brk ρ
  | .Continue _ => .ok .cont ρ
  | .Expr e _ => gate (!compB e) ((r.E ic e ρ).bind fun _ ρ1 => .ok .nx ρ1)
  | .If c body orelse _ => (r.T ic c ρ).bind fun b ρ1 => (match b with
    | true => r.B ic body ρ1
    | false => r.B ic orelse ρ1)
  | .For tg iter body [] _ => gate (decide (ic.su = none) && !setB iter && (tgS ic 12 tg).all fun j => !ic.pin.contains j) ((itF r ic tg iter ρ).bind fun ds ρ1 => forL (fun d ρ => match tgA ic 12 tg d ρ with
    | some ρ2 => r.B ic body ρ2
    | none => .bad) ds ρ1)
  | .While c body [] _ => whileL (r.T ic c) (r.B ic body) 1000000 ρ
  | .Assign [.Name x py] e spos => (match ic.slot x with
    | some i => gate (!ic.pin.contains i && ic.stoB x) (match e with
      | .ListComp elt gens scope pos => gate (ic.top && decide (ic.sc.names.lookup x = some .local) && decide (ic.sc.kind = .function) && (py.line == pos.line) && !(scope.names.any fun (n, k) => n == x && (k == .local || k == .cell))) (
          (lcF r ic elt gens scope ρ).bind fun acc ρ1 => .ok .nx (ρ1.set i (some (.lst acc))))
      | _ => gate (!compB e) ((r.E ic e ρ).bind fun o ρ1 => .ok .nx (ρ1.set i (some o))))
    | none => .bad)
  | .Assign [.Subscript (.Name x p) ie p1] e spos => (match lentS ic (.Name x p) ρ with
    | some i => gate (!compB e && plainI ie) ((r.E ic e ρ).bind fun v ρ1 => (match ρ1[i]? with
      | some (some _) => (r.E ic ie ρ1).bind fun y ρ2 => (match ρ2[i]?, y.frz with
        | some (some (.lst os)), .int z => (match ixN os.length z with
          | some j => .ok .nx (ρ2.set i (some (.lst (os.set j v))))
          | none => .bad)
        | _, _ => .bad)
      | _ => .bad))
    | none => .bad)
  | .Assign [.Tuple es k p] e spos => gate (decide (ic.su = none) && !compB e && plainTg (.Tuple es k p) e && (tgS ic 12 (.Tuple es k p)).all fun j => !ic.pin.contains j) ((r.E ic e ρ).bind fun o ρ1 => match tgA ic 12 (.Tuple es k p) o.frz ρ1 with
      | some ρ2 => .ok .nx ρ2
      | none => .bad)
  | .Raise (some (.Call (.Name x _) [.Constant (.str _) _ _] [] _)) none _ => gate (decide (ic.su = none) && ic.P.ecs.contains x && glB ic.sc x && dbgB x) (.exc { name := x } ρ)
  | .Try body [.ExceptHandler (some (.Name x _)) nm (b₀ :: hb) _] [] [] _ => gate (decide (ic.su = none)) (match r.B ic body ρ with
    | .ok fw ρ1 => .ok fw ρ1
    | .bad => .bad
    | .exc c ρ1 => gate (ic.top && glB ic.sc x && dbgB x) (match nm with
      | some n => (match ic.slot n with
        | some i => gate (!ic.pin.contains i && decide (ic.sc.names.lookup n = some .local)) (match ic.P.hnd.lookup (c.name, x) with
          | some true => allA fun a => match r.B { ic with su := some (a, c) } (b₀ :: hb) (ρ1.set i (some (.fz (.exn a)))) with
            | .ok (.ret o) ρ2 => .ok (.ret o) ρ2
            | .ok fw ρ2 => .ok fw (ρ2.set i none)
            | _ => .bad
          | some false => .exc c ρ1
          | none => .bad)
        | none => .bad)
      | none => (match ic.P.hnd.lookup (c.name, x) with
        | some true => allA fun a => match r.B { ic with su := some (a, c) } (b₀ :: hb) ρ1 with
          | .ok fw ρ2 => .ok fw ρ2
          | _ => .bad
        | some false => .exc c ρ1
        | none => .bad)))
  | _ => .bad
where
  retS (e : Expr) (ρ : Rho) : Option Nat := match lentS ic e ρ with
    | some i => if i ∈ ic.pin then none else some i
    | none => none
  plainI (e : Expr) : Bool := match e with
    | .Slice .. => false
    | .Starred .. => false
    | .Tuple .. => false
    | _ => true
noncomputable def evB : List Stmt → Rho → Res Fw
  | [], ρ => .ok .nx ρ
  | st :: rest, ρ => (evS r ic st ρ).bind fun fw ρ1 => match fw with
    | .nx => evB rest ρ1
    | fw => .ok fw ρ1
end
noncomputable def mkOps (r : Ops) : Ops := ⟨evE r, evT r, evB r⟩
noncomputable def ops : Nat → Ops
  | 0 => ⟨fun _ _ _ => .bad, fun _ _ _ => .bad, fun _ _ _ => .bad⟩
  | n + 1 => mkOps (ops n)
/-- the arguments behind a call -/
def outsF (pin : List Nat) (ρ : Rho) : Nat → List O → Option (List O)
  | _, [] => some []
  | j, .fz d :: os => (match outsF pin ρ (j + 1) os with | some os' => some (.fz d :: os') | none => none)
  | j, _ :: os => if j ∈ pin then (match ρ[j]?, outsF pin ρ (j + 1) os with | some (some o'), some os' => some (o' :: os') | _, _ => none) else none
noncomputable def runF (r : Ops) (P : IP) (Φ : FT) (fd : FD) (os : List O) (w : Rho) : FRes :=
  if os.length = fd.ps.length then (match r.B { P := P, Φ := Φ, N := fd.N, sc := fd.sc, top := true, pin := fd.pin } fd.body (os.map some ++ List.replicate (fd.N.length - os.length) none) with
    | .ok .nx ρ => (match outsF fd.pin ρ 0 os with | some os' => .ok (.fz .non) os' w | none => .bad)
    | .ok (.ret o) ρ => (match outsF fd.pin ρ 0 os with | some os' => .ok o os' w | none => .bad)
    | .exc c ρ => (match outsF fd.pin ρ 0 os with | some os' => .exc c os' w | none => .bad)
    | _ => .bad)
  else .bad
noncomputable def callN (P : IP) : Nat → FT
  | 0 => fun _ _ _ => .bad
  | n + 1 => fun f os w => match P.fns.lookup f with
    | some fd => runF (ops 60) P (callN P n) fd os w
    | none => .bad
end Fr

set_option Elab.async false
set_option linter.all false
set_option maxRecDepth 100000
set_option maxHeartbeats 2000000
/-! In2: the reckoner's parts: operators, names, targets; slots frozen for a while. -/
namespace Fr
open PySem PySem.Spec PyProof.Rows L2
section
variable {α β : Type}
theorem post_bind {m : Res α} {f : α → Rho → Res β} {k : β → Rho → Prop} {Ξ : Exc → Rho → Prop} : (m.bind f).post k Ξ = m.post (fun a ρ => (f a ρ).post k Ξ) Ξ := by cases m <;> rfl
theorem post_gate {b : Bool} {m : Res α} {k : α → Rho → Prop} {Ξ : Exc → Rho → Prop} (h : (gate b m).post k Ξ) : b = true ∧ m.post k Ξ := by
  cases b with
  | true => exact ⟨rfl, h⟩
  | false => exact h.elim
theorem post_lift {z : Option α} {ρ : Rho} {k : α → Rho → Prop} {Ξ : Exc → Rho → Prop} (h : (lift z ρ).post k Ξ) : ∃ a, z = some a ∧ k a ρ := by
  cases z with
  | none => exact h.elim
  | some a => exact ⟨a, rfl, h⟩
theorem post_mono {m : Res α} {k k' : α → Rho → Prop} {Ξ Ξ' : Exc → Rho → Prop} (h : m.post k Ξ) (h1 : ∀ a ρ, k a ρ → k' a ρ) (h2 : ∀ c ρ, Ξ c ρ → Ξ' c ρ) : m.post k' Ξ' := by
  cases m with
  | ok a ρ => exact h1 _ _ h
  | exc c ρ => exact h2 _ _ h
  | bad => exact h
end
theorem map_some {α β : Type} {f : α → β} {z : Option α} {b : β} (h : z.map f = some b) : ∃ a, z = some a ∧ b = f a := by
  cases z with
  | none => cases h
  | some a => cases h; exact ⟨a, rfl, rfl⟩
theorem bopF_ok {op : Operator} {x y : D} {z : RV} (h : bopF op x y = some z) : Bop op x y z := by
  unfold bopF at h
  split at h <;> first
    | (cases h; first | exact .addI | exact .subI)
    | (split at h
       · rename_i c
         cases h
         first
           | exact .addS (sz c) | exact .addT (sz c) | exact .addL (sz c)
           | exact .mulI c | exact .fdivI c | exact .modI c | exact .powI c
           | exact .repS c.1 c.2.1 c.2.2.1 c.2.2.2
           | exact .repL c.1 c.2.1 (sz c.2.2)
       · cases h)
    | cases h
theorem eqQ_eq {x y : D} {b : Bool} (h : eqQ x y = some b) : Cmp .Eq x y b := by
  unfold eqQ at h
  split at h
  · cases h; exact .eqI
  · cases h; exact .eqS
  · cases h; exact .eqB
  · split at h
    · rename_i c
      cases h
      exact .eqD c.1 c.2
    · cases h
theorem eqQ_ne {x y : D} {b : Bool} (h : eqQ x y = some b) : Cmp .NotEq x y (!b) := by
  unfold eqQ at h
  split at h
  · cases h; exact .neI
  · cases h; exact .neS
  · cases h; exact .neB
  · split at h
    · rename_i c
      cases h
      exact .neD c.1 c.2
    · cases h
theorem one_cp {a : Str} {c : Nat} (h : a.cps.toList = [c]) : a = ⟨#[c]⟩ := by
  obtain ⟨cps⟩ := a
  have : cps = #[c] := by
    apply Array.toList_inj.mp
    simpa using h
  rw [this]
theorem inQ_in {x y : D} {b : Bool} (h : inQ x y = some b) : Cmp .In x y b := by
  unfold inQ at h
  split at h
  · split at h
    · split at h
      · rename_i z a c hc
        cases h
        rw [one_cp hc]
        exact .inC
      · cases h
    · cases h
  · split at h
    · rename_i c
      cases h
      exact .inL c.1 c.2
    · cases h
  · split at h
    · rename_i c
      cases h
      exact .inT c.1 c.2
    · cases h
  · cases h
theorem inQ_ni {x y : D} {b : Bool} (h : inQ x y = some b) : Cmp .NotIn x y (!b) := by
  unfold inQ at h
  split at h
  · split at h
    · split at h
      · rename_i z a c hc
        cases h
        rw [one_cp hc]
        exact .niC
      · cases h
    · cases h
  · split at h
    · rename_i c
      cases h
      exact .niL c.1 c.2
    · cases h
  · split at h
    · rename_i c
      cases h
      exact .niT c.1 c.2
    · cases h
  · cases h
theorem isNon_ty (x : D) : isNon x = (x.ty == "NoneType") := by
  cases x <;> simp only [isNon, D.ty] <;> decide +kernel
theorem cmpF_ok {op : CmpOp} {x y : D} {b : Bool} (h : cmpF op x y = some b) : Cmp op x y b := by
  cases op with
  | Lt =>
    simp only [cmpF] at h
    split at h
    · cases h; exact .ltI
    · cases h
  | LtE =>
    simp only [cmpF] at h
    split at h
    · cases h; exact .leI
    · cases h
  | Gt =>
    simp only [cmpF] at h
    split at h
    · cases h; exact .gtI
    · cases h
  | GtE =>
    simp only [cmpF] at h
    split at h
    · cases h; exact .geI
    · cases h
  | Eq => exact eqQ_eq h
  | NotEq =>
    simp only [cmpF] at h
    split at h
    · rename_i e
      cases h
      exact eqQ_ne e
    · cases h
  | In => exact inQ_in h
  | NotIn =>
    simp only [cmpF] at h
    split at h
    · rename_i e
      cases h
      exact inQ_ni e
    · cases h
  | Is =>
    simp only [cmpF] at h
    unfold isQ at h
    split at h
    · split at h
      · cases h
      · cases h
        rw [isNon_ty]
        exact .isN
    · cases h; exact .isNB
    · cases h; exact .isB
    · cases h
  | IsNot =>
    simp only [cmpF] at h
    unfold isnQ at h
    split at h
    · split at h
      · cases h
      · cases h
        rw [isNon_ty]
        exact .notN
    · cases h; exact .notB
    · cases h
theorem truF_ok {d : D} {b : Bool} (h : truF d = some b) : Tru d b := by
  unfold truF at h
  split at h
  · cases h; exact .non
  · cases h; exact .bl
  · cases h; exact .int
  · split at h
    · rename_i c
      cases h
      exact .str (sz c)
    · cases h
  · cases h; exact .lst
  · cases h; exact .tup
  · cases h
theorem intsQ_ok : ∀ {ds : List D} {ns : List Int}, intsQ ds = some ns → ds = ns.map .int
  | [], ns, h => by cases h; rfl
  | d :: ds, ns, h => by
    cases d <;> simp only [intsQ] at h <;> first | (cases h; done) | skip
    split at h
    · rename_i e
      cases h
      rw [intsQ_ok e]; rfl
    · cases h
theorem blsQ_ok : ∀ {ds : List D} {ns : List Bool}, blsQ ds = some ns → ds = ns.map .bl
  | [], ns, h => by cases h; rfl
  | d :: ds, ns, h => by
    cases d <;> simp only [blsQ] at h <;> first | (cases h; done) | skip
    split at h
    · rename_i e
      cases h
      rw [blsQ_ok e]; rfl
    · cases h
theorem strsQ_ok : ∀ {ds : List D} {ns : List Str}, strsQ ds = some ns → ds = ns.map .str
  | [], ns, h => by cases h; rfl
  | d :: ds, ns, h => by
    cases d <;> simp only [strsQ] at h <;> first | (cases h; done) | skip
    split at h
    · rename_i e
      cases h
      rw [strsQ_ok e]; rfl
    · cases h
@[simp] theorem intsQ_map (ns : List Int) : intsQ (ns.map .int) = some ns := by
  induction ns with
  | nil => rfl
  | cons n ns ih => simp [intsQ, ih]
@[simp] theorem blsQ_map (ns : List Bool) : blsQ (ns.map .bl) = some ns := by
  induction ns with
  | nil => rfl
  | cons n ns ih => simp [blsQ, ih]
@[simp] theorem strsQ_map (ns : List Str) : strsQ (ns.map .str) = some ns := by
  induction ns with
  | nil => rfl
  | cons n ns ih => simp [strsQ, ih]
theorem lenQ_ok {d : D} {z : RV} (h : lenQ d = some z) : CB "len" [d] z := by
  unfold lenQ at h
  split at h
  · split at h
    · rename_i c
      cases h
      exact .lenS (sz c)
    · cases h
  · cases h; exact .lenL
  · cases h; exact .lenT
  · cases h
/-- the built-in's own name -/
def cbN (f : Str) : String := if f = "len" then "len" else if f = "abs" then "abs" else if f = "min" then "min" else if f = "max" then "max" else if f = "sum" then "sum" else if f = "all" then "all" else "any"
theorem cbF_ok {f : Str} {ds : List D} {z : RV} (h : cbF f ds = some z) : CB (cbN f) ds z ∧ bootBuiltins f = some (.builtin (cbN f)) ∧ f ≠ "__name__" ∧ (f == ("__debug__" : Str)) = false := by
  unfold cbF at h
  unfold cbN
  by_cases e1 : f = "len"
  · subst e1
    rw [if_pos rfl] at h
    split at h
    · exact ⟨lenQ_ok h, by decide +kernel, by decide, by decide⟩
    · cases h
  rw [if_neg e1] at h ⊢
  by_cases e2 : f = "abs"
  · subst e2
    rw [if_pos rfl] at h
    split at h
    · cases h; exact ⟨.abs, by decide +kernel, by decide, by decide⟩
    · cases h
  rw [if_neg e2] at h ⊢
  by_cases e3 : f = "min"
  · subst e3
    rw [if_pos rfl] at h
    split at h
    · cases h; exact ⟨.min2, by decide +kernel, by decide, by decide⟩
    · cases h
  rw [if_neg e3] at h ⊢
  by_cases e4 : f = "max"
  · subst e4
    rw [if_pos rfl] at h
    split at h
    · cases h; exact ⟨.max2, by decide +kernel, by decide, by decide⟩
    · cases h
  rw [if_neg e4] at h ⊢
  by_cases e5 : f = "sum"
  · subst e5
    rw [if_pos rfl] at h
    split at h
    · split at h
      · rename_i e
        cases h
        rw [intsQ_ok e]
        exact ⟨.sum, by decide +kernel, by decide, by decide⟩
      · cases h
    · cases h
  rw [if_neg e5] at h ⊢
  by_cases e6 : f = "all"
  · subst e6
    rw [if_pos rfl] at h
    split at h
    · split at h
      · rename_i e
        cases h
        rw [blsQ_ok e]
        exact ⟨.all, by decide +kernel, by decide, by decide⟩
      · cases h
    · cases h
  rw [if_neg e6] at h ⊢
  by_cases e7 : f = "any"
  · subst e7
    rw [if_pos rfl] at h
    split at h
    · split at h
      · rename_i e
        cases h
        rw [blsQ_ok e]
        exact ⟨.any, by decide +kernel, by decide, by decide⟩
      · cases h
    · cases h
  rw [if_neg e7] at h
  cases h
def ctN (f : Str) : String := if f = "int" then "int" else if f = "str" then "str" else if f = "tuple" then "tuple" else "list"
theorem ctF_ok {f : Str} {ds : List D} {z : RV} (h : ctF f ds = some z) : CT (ctN f) ds z ∧ bootBuiltins f = some (.type (ctN f)) ∧ f ≠ "__name__" ∧ (f == ("__debug__" : Str)) = false := by
  unfold ctF at h
  unfold ctN
  by_cases e1 : f = "int"
  · subst e1
    rw [if_pos rfl] at h
    split at h
    · cases h; exact ⟨.intI, by decide +kernel, by decide, by decide⟩
    · cases h; exact ⟨.intB, by decide +kernel, by decide, by decide⟩
    · split at h
      · rename_i c
        split at h
        · rename_i e
          cases h; exact ⟨.intS e c, by decide +kernel, by decide, by decide⟩
        · cases h
      · cases h
    · cases h
  rw [if_neg e1] at h ⊢
  by_cases e2 : f = "str"
  · subst e2
    rw [if_pos rfl] at h
    split at h
    · split at h
      · rename_i c
        cases h; exact ⟨.strI c, by decide +kernel, by decide, by decide⟩
      · cases h
    · cases h; exact ⟨.strS, by decide +kernel, by decide, by decide⟩
    · cases h
  rw [if_neg e2] at h ⊢
  by_cases e3 : f = "tuple"
  · subst e3
    rw [if_pos rfl] at h
    split at h
    · cases h; exact ⟨.tupL, by decide +kernel, by decide, by decide⟩
    · cases h; exact ⟨.tupT, by decide +kernel, by decide, by decide⟩
    · cases h
  rw [if_neg e3] at h ⊢
  by_cases e4 : f = "list"
  · subst e4
    rw [if_pos rfl] at h
    split at h
    · cases h; exact ⟨.lstL, by decide +kernel, by decide, by decide⟩
    · cases h; exact ⟨.lstT, by decide +kernel, by decide, by decide⟩
    · cases h
  rw [if_neg e4] at h
  cases h
theorem ixF_ok {x y z : D} (h : ixF x y = some z) : Ix x y z := by
  unfold ixF at h
  split at h
  · exact .lst h
  · exact .tup h
  · split at h
    · rename_i c
      split at h
      · rename_i e
        cases h
        exact .str (sz c) e
      · cases h
    · cases h
  · cases h
theorem slF_ok {x : D} {lo hi : Option Int} {z : RV} (h : slF x lo hi = some z) : Sl x lo hi z := by
  unfold slF at h
  split at h
  · split at h
    · rename_i c
      cases h
      exact .str (sz c)
    · cases h
  · cases h; exact .lst
  · cases h; exact .tup
  · cases h; exact .scr
  · cases h

/-! ### names -/
theorem idx_ok : ∀ {N : List Str} {x : Str} {j i : Nat}, idx N x j = some i → j ≤ i ∧ N[i - j]? = some x
  | [], x, j, i, h => by cases h
  | y :: ys, x, j, i, h => by
    unfold idx at h
    split at h
    · rename_i e
      cases h
      simp [e]
    · obtain ⟨h1, h2⟩ := idx_ok h
      refine ⟨by omega, ?_⟩
      rw [show i - j = (i - (j + 1)) + 1 by omega]
      simpa using h2
theorem slot_ok {ic : IC} {x : Str} {i : Nat} (h : ic.slot x = some i) : ic.N[i]? = some x := by
  have := (idx_ok h).2
  simpa using this
theorem visB_ok {sc : Scope} {x : Str} (h : visB sc x = true) : Vis sc x := by
  unfold visB at h
  unfold Vis
  split at h
  · rename_i e; exact .inl e
  · rename_i e; exact .inr (.inl e)
  · rename_i e; exact .inr (.inr e)
  · cases h
theorem locB_ok {sc : Scope} {x : Str} (h : locB sc x = true) : L2.Loc sc x := by
  unfold locB at h
  unfold L2.Loc
  split at h
  · rename_i e; exact .inl e
  · rename_i e; exact .inr e
  · cases h
theorem dbgB_ok {x : Str} (h : dbgB x = true) : (x == ("__debug__" : Str)) = false ∧ (x == ("__classdict__" : Str)) = false ∧ x ≠ "__name__" := by
  unfold dbgB at h
  simp only [Bool.not_eq_true', Bool.or_eq_false_iff, decide_eq_false_iff_not] at h
  exact ⟨beq_eq_false_iff_ne.mpr h.1.1, beq_eq_false_iff_ne.mpr h.1.2, h.2⟩
theorem glB_ok {sc : Scope} {x : Str} (h : glB sc x = true) : sc.names.lookup x = some .globalImplicit := of_decide_eq_true h
def TabK (G : Gx) (x : Str) (ks : List Str) : Prop := ∃ d es n, G.mg x = some (.ref d) ∧ KDict G.K G.w d es n ∧ ∀ z, ∃ r, PySem.W.nsIn G.K d z = some r ∧ r.isSome = decide (z ∈ ks)
structure IPok (G : Gx) (P : IP) : Prop where
  cst : ∀ x d, P.cst.lookup x = some d → GConst G x d
  fre : ∀ x, P.fre.contains x = true → G.mg x = none
  ecs : ∀ x, P.ecs.contains x = true → ExcK G x
  hnd : ∀ c x b, P.hnd.lookup (c, x) = some b → Hnd G c x b
  isE : ∀ c x b, P.isE.lookup (c, x) = some b → IsE G c x b
  tbS : ∀ x t, P.tbS.lookup x = some t → (∃ d, G.mg x = some (.ref d)) ∧ ∀ q z, t.lookup q = some z → TabS G x q z
  tbF : ∀ x t, P.tbF.lookup x = some t → (∃ d, G.mg x = some (.ref d)) ∧ ∀ q z, t.lookup q = some z → TabF G x q z
  tbK : ∀ x ks, P.tbK.lookup x = some ks → TabK G x ks
def S_of (Φ : FT) (f : Str) : FSpec := fun os k Ξ => (Φ f os []).post k Ξ
structure IcOk (G : Gx) (lv : Nat) (ic : IC) : Prop where
  P : IPok G ic.P
  fns : ∀ f fd, ic.P.fns.lookup f = some fd → ∀ j, FOK G lv f (fd.dv.drop j) (S_of ic.Φ f)
def IC.ctx (ic : IC) (G : Gx) (lv : Nat) : Ctx := { G := G, lv := lv, N := ic.N, sc := ic.sc, top := ic.top, su := ic.su }
theorem IcOk.blk {G : Gx} {lv : Nat} {ic : IC} (h : IcOk G lv ic) (scope : Scope) : IcOk G lv (ic.blk scope) := ⟨h.P, h.fns⟩
theorem IcOk.inSu {G : Gx} {lv : Nat} {ic : IC} (h : IcOk G lv ic) (a : Addr) (c : Exc) : IcOk G lv { ic with su := some (a, c) } := ⟨h.P, h.fns⟩
section
variable {G : Gx} {lv : Nat} {ic : IC} {ρ : Rho} {k : O → Rho → Prop} {Ξ : Exc → Rho → Prop}
theorem nameE_ok (I : IcOk G lv ic) {x : Str} {p : Pos} (h : (nameE ic x ρ).post k Ξ) : EV (ic.ctx G lv) (.Name x p) ρ k Ξ := by
  unfold nameE at h
  obtain ⟨hd, h⟩ := post_gate h
  obtain ⟨d1, d2, _⟩ := dbgB_ok hd
  cases e : ic.slot x with
  | some i =>
    rw [e] at h
    obtain ⟨hv, h⟩ := post_gate h
    have hN : (ic.ctx G lv).N[i]? = some x := slot_ok e
    split at h
    · rename_i hr
      exact ev_var (i := i) hr h hN (visB_ok hv) d1 d2
    · rename_i hr
      exact ev_frz (i := i) hr h hN (visB_ok hv) d1 d2
    · exact h.elim
  | none =>
    rw [e] at h
    obtain ⟨hg, h⟩ := post_gate h
    obtain ⟨o, ho, q⟩ := post_lift h
    obtain ⟨d, hd', rfl⟩ := map_some ho
    exact ev_glob (C := ic.ctx G lv) (I.P.cst x d hd') q (glB_ok hg) d1
end

/-! ### targets -/
theorem noStar_cons {e : Expr} {es : List Expr} (h : noStar (e :: es) = true) : starB e = false ∧ noStar es = true := by
  unfold noStar at h ⊢
  simp only [List.all_cons, Bool.and_eq_true] at h
  exact ⟨by simpa using h.1, h.2⟩
theorem asgEach_cons {e : Expr} {es : List Expr} (h : starB e = false) (env : Env) : assignEach (e :: es) env = (false, assign e env) :: assignEach es env := by
  cases e <;> first | rfl | (cases h; done)
theorem starEach_cons {e : Expr} {es : List Expr} (h : starB e = false) (env : Env) : starEach (e :: es) env = (false, eval e env) :: starEach es env := by
  cases e <;> first | rfl | (cases h; done)
theorem starEach_any {es : List Expr} (h : noStar es = true) (pos : Pos) (env : Env) : (backTo pos (starEach es env)).any (·.1) = false := by
  induction es with
  | nil => rfl
  | cons e es ih =>
    obtain ⟨h1, h2⟩ := noStar_cons h
    rw [starEach_cons h1]
    have := ih h2
    unfold backTo at this ⊢
    simp only [List.map_cons, List.any_cons, Bool.false_or]
    exact this
theorem asgEach_len {es : List Expr} (h : noStar es = true) (env : Env) : (assignEach es env).length = es.length ∧ (assignEach es env).findIdx? (·.1) = none := by
  induction es with
  | nil => exact ⟨rfl, rfl⟩
  | cons e es ih =>
    obtain ⟨h1, h2⟩ := noStar_cons h
    rw [asgEach_cons h1]
    refine ⟨by simp [(ih h2).1], ?_⟩
    rw [List.findIdx?_cons]
    simp [(ih h2).2]
section
variable {G : Gx} {lv : Nat} {ic : IC}
theorem tgA_ok : ∀ n, (∀ {e : Expr} {d : D} {ρ ρ' : Rho} {k : Rho → Prop}, tgA ic n e d ρ = some ρ' → k ρ' → TGt (ic.ctx G lv) e (tgS ic n e) d ρ k ∧ ∀ j ∈ tgS ic n e, j ∉ ic.pin) ∧
    (∀ {es : List Expr} {ds : List D} {ρ ρ' : Rho} {k : Rho → Prop}, noStar es = true → tgAs ic n es ds ρ = some ρ' → k ρ' → TGs' (ic.ctx G lv) es (tgSs ic n es) ds ρ k ∧ ∀ j ∈ tgSs ic n es, j ∉ ic.pin) := by
  intro n
  induction n with
  | zero =>
    refine ⟨fun {e d ρ ρ' k} h _ => ?_, fun {es ds ρ ρ' k} _ h _ => ?_⟩
    · unfold tgA at h; cases h
    · unfold tgAs at h; cases h
  | succ n ih =>
    refine ⟨fun {e d ρ ρ' k} h q => ?_, fun {es ds ρ ρ' k} hs h q => ?_⟩
    · unfold tgA at h
      unfold tgS
      split at h
      · rename_i x p
        cases e : ic.slot x with
        | none => rw [e] at h; cases h
        | some i =>
          rw [e] at h
          simp only at h ⊢
          split at h
          · rename_i c
            cases h
            have c1 := c.1
            unfold IC.stoB at c1
            simp only [Bool.and_eq_true, Bool.or_eq_true, decide_eq_true_eq] at c1
            refine ⟨tg_name (C := ic.ctx G lv) q (slot_ok e) (locB_ok c1.1) c1.2, fun j hj => ?_⟩
            simp only [List.mem_singleton] at hj
            rw [hj]
            exact c.2
          · cases h
      · rename_i es m p
        split at h
        · rename_i ds
          split at h
          · rename_i c
            obtain ⟨h1, h2⟩ := ih.2 c.1 h q
            exact ⟨tg_tup h1 (fun env => by rw [(asgEach_len c.1 env).1, c.2]) (fun env => (asgEach_len c.1 env).2), h2⟩
          · cases h
        · cases h
      · cases h
    · unfold tgAs at h
      unfold tgSs
      split at h
      · cases h
        exact ⟨tgs_nil q, fun j hj => by cases hj⟩
      · rename_i e es d ds
        obtain ⟨s1, s2⟩ := noStar_cons hs
        split at h
        · rename_i ρ1 e1
          obtain ⟨h1, h2⟩ := ih.2 s2 h q
          obtain ⟨h3, h4⟩ := ih.1 (k := fun ρ1 => TGs' (ic.ctx G lv) es (tgSs ic n es) ds ρ1 k) e1 h1
          refine ⟨tgs_cons h3 (fun env => by rw [asgEach_cons s1]; rfl), fun j hj => ?_⟩
          rcases List.mem_append.mp hj with z | z
          · exact h4 j z
          · exact h2 j z
        · cases h
      · cases h
end

/-! ### slots frozen for a while -/
theorem At.flatAny {K : PySem.W.Frag} {F F' : Hp} {v : V} {d : D} (a : At K F v d) (h : d.flat = true) : At K F' v d := by
  cases a <;> first | exact .non | exact .bl _ | exact .int _ | exact .str _ | (cases h; done)
theorem SR.frzAll {K : PySem.W.Frag} {H : Hp} {σ : L2.St} {ρ : Rho} : ∀ (n : Nat) {F : Hp} {fp : Nat → List Addr}, SR K F H σ ρ fp → ∃ F1 fp1, SR K F1 H σ ((ρ.take n).map frzS ++ ρ.drop n) fp1 ∧ Ex F F1 ∧ (∀ q, ¬ own fp q → F1 q = F q) ∧ (∀ q, own fp1 q → own fp q) ∧ ∀ i, i < n → fp1 i = []
  | 0, F, fp, s => ⟨F, fp, by simpa using s, Ex.refl F, fun _ _ => rfl, fun _ h => h, fun i h => by omega⟩
  | n + 1, F, fp, s => by
    obtain ⟨F1, fp1, s1, e1, k1, o1, z1⟩ := SR.frzAll n s
    by_cases hn : n < ρ.length
    · have hl : (List.map frzS (List.take n ρ)).length = n := by simp; omega
      have hd : ρ.drop n = ρ[n] :: ρ.drop (n + 1) := List.drop_eq_getElem_cons hn
      have ht : ρ.take (n + 1) = ρ.take n ++ [ρ[n]] := by rw [List.take_succ]; simp [hn]
      have hg : ((ρ.take n).map frzS ++ ρ.drop n)[n]? = some ρ[n] := by
        rw [List.getElem?_append_right (by rw [hl]; omega), hl, Nat.sub_self, hd]
        rfl
      cases hq : ρ[n] with
      | none =>
        refine ⟨F1, fp1, ?_, e1, k1, o1, fun i hi => ?_⟩
        · rw [ht, List.map_append, hq]
          rw [hd, hq] at s1
          simpa [frzS] using s1
        · by_cases h : i = n
          · rw [h]
            refine s1.nil n fun o ho => ?_
            rw [hg, hq] at ho
            cases ho
          · exact z1 i (by omega)
      | some o =>
        rw [hq] at hg
        obtain ⟨v, ev, r⟩ := s1.slot n o hg
        obtain ⟨F2, s2, a2, e2, k2⟩ := (s1.drop n).freeze r fun q hq => not_wo s1 hq
        have hi : n < ((ρ.take n).map frzS ++ ρ.drop n).length := by rw [s1.len]; exact (List.getElem?_eq_some_iff.mp ev).1
        have s3 := s2.put (σ' := σ) (v := v) (o := .fz o.frz) (S := []) (i := n) (.fz a2) (fun _ z => by cases z) (by rw [List.length_set]; exact hi) rfl ev (fun _ _ => rfl)
        rw [List.set_set] at s3
        refine ⟨F2, wi (wo fp1 n) n [], ?_, e1.trans e2, fun q hq => ?_, fun q hq => ?_, fun i hi => ?_⟩
        · have : ((ρ.take n).map frzS ++ ρ.drop n).set n (some (.fz o.frz)) = (ρ.take (n + 1)).map frzS ++ ρ.drop (n + 1) := by
            rw [List.set_append_right _ _ (by rw [hl]; omega), hl, Nat.sub_self, hd, ht, List.map_append, hq]
            simp [frzS]
          rw [this] at s3
          exact s3
        · rw [k2 q fun z => hq (o1 q ⟨n, z⟩), k1 q hq]
        · rcases own_wi hq with z | z
          · exact o1 q (own_wo z)
          · cases z
        · unfold wi
          by_cases h : i = n
          · rw [if_pos h]
          · rw [if_neg h]
            unfold wo
            rw [if_neg h]
            exact z1 i (by omega)
    · refine ⟨F1, fp1, ?_, e1, k1, o1, fun i hi => ?_⟩
      · rw [List.take_of_length_le (by omega), List.drop_of_length_le (by omega)] at s1 ⊢
        exact s1
      · by_cases h : i = n
        · rw [h]
          refine s1.nil n fun o ho => ?_
          rw [List.getElem?_eq_none (by simp; omega)] at ho
          cases ho
        · exact z1 i (by omega)
theorem SR.thaw {K : PySem.W.Frag} {F H : Hp} {σ : L2.St} {ρ : Rho} {fp : Nat → List Addr} (s : SR K F H σ ρ fp) : ∃ F1, SR K F1 H σ (ρ.map frzS) (fun _ => []) ∧ Ex F F1 ∧ ∀ {F' H' : Hp} {B : Addr → Prop}, Ex F' H' → Mv (own fun _ => []) F1 H B F' H' → SR K F H' σ ρ fp ∧ Mv (own fp) F H (own fp) F H' := by
  obtain ⟨F1, fp1, s1, e1, k1, o1, z1⟩ := s.frzAll ρ.length
  have hf : fp1 = fun _ => [] := by
    funext i
    by_cases h : i < ρ.length
    · exact z1 i h
    · refine s1.nil i fun o ho => ?_
      rw [List.getElem?_eq_none (by simp; omega)] at ho
      cases ho
  subst hf
  refine ⟨F1, by simpa using s1, e1, fun {F' H' B} ex m => ?_⟩
  have keep : ∀ q o, H q = some o → H' q = some o := fun q o h => (m.keep q o h fun ⟨_, z⟩ => by cases z).1
  refine ⟨s.mono (Ex.refl F) ((e1.trans m.ef).trans ex) (fun q hq => (s.owned hq).1) (fun q hq => ?_), Ex.refl F, fun q o h _ => ⟨keep q o h, rfl⟩, fun q h => .inl h⟩
  obtain ⟨_, u, z⟩ := s.owned hq
  rw [z]
  exact keep q u z
section
variable {C : Ctx} {e : Expr} {ρ : Rho}
theorem XP.thaw {W : WX} {σ : L2.St} {F H F1 : Hp} {fp : Nat → List Addr} {Ξ : Exc → Rho → Prop} {G : Gx} (x : XP G W σ (own fp) F H Ξ)
    (t : ∀ {F' H' : Hp} {B : Addr → Prop}, Ex F' H' → Mv (own fun _ => []) F1 H B F' H' → SR G.K F H' σ ρ fp ∧ Mv (own fp) F H (own fp) F H') : XP G W σ (own fun _ => []) F1 H (fun c _ => c.fld = none ∧ Ξ c ρ) := by
  intro c ρ' F' H' fp' cls d q s' xr m
  obtain ⟨s2, m2⟩ := t s'.ex m
  refine x c ρ F H' fp cls d q.2 s2 ?_ m2
  obtain ⟨a, g, e, h⟩ := xr
  rw [q.1] at h
  exact ⟨a, g, e, by rw [q.1]; exact h⟩
theorem et_thaw {k : Bool → Rho → Prop} {Ξ : Exc → Rho → Prop} (h : ET C e (ρ.map frzS) (fun b _ => k b ρ) (fun c _ => c.fld = none ∧ Ξ c ρ)) : ET C e ρ k Ξ := by
  intro X hx W tk σ F H fp s x
  obtain ⟨F1, s1, e1, t⟩ := s.thaw
  refine wT.mono (h X hx W tk σ F1 H _ s1 (x.thaw t)) fun b H' ⟨ρ', F', fp', q, s', m'⟩ => ?_
  obtain ⟨s2, m2⟩ := t s'.ex m'
  exact ⟨ρ, F, fp, q, s2, m2⟩
theorem ev_thaw {k : O → Rho → Prop} {Ξ : Exc → Rho → Prop} (h : EV C e (ρ.map frzS) (fun o _ => ∃ d, o = .fz d ∧ d.flat = true ∧ k (.fz d) ρ) (fun c _ => c.fld = none ∧ Ξ c ρ)) : EV C e ρ k Ξ := by
  intro X hx W tk σ F H fp s x
  obtain ⟨F1, s1, e1, t⟩ := s.thaw
  refine (h X hx W tk σ F1 H _ s1 (x.thaw t)).mono fun v H' ⟨o, ρ', F', fp', S, ⟨d, eo, hf, q⟩, s', r, _, m'⟩ => ?_
  subst eo
  obtain ⟨s2, m2⟩ := t s'.ex m'
  exact VP.along m2 (fin_d s2 (r.at_fz.flatAny hf) q)
end
end Fr

set_option Elab.async false
set_option linter.all false
set_option maxRecDepth 100000
set_option maxHeartbeats 4000000
/-! In3: what the reckoner tells, the model's run does. -/
namespace Fr
open PySem PySem.Spec PyProof.Rows L2
def postS (m : Res Fw) (Φ : Fl → Rho → Prop) : Prop := m.post (fun fw ρ => Φ fw.fl ρ) (fun c ρ => Φ (.exc c) ρ)
structure Snd (r : Ops) : Prop where
  E : ∀ {G lv ic e ρ k Ξ}, IcOk G lv ic → (r.E ic e ρ).post k Ξ → EV (ic.ctx G lv) e ρ k Ξ
  T : ∀ {G lv ic e ρ k Ξ}, IcOk G lv ic → (r.T ic e ρ).post k Ξ → ET (ic.ctx G lv) e ρ k Ξ
  B : ∀ {G lv ic sts ρ Φ}, IcOk G lv ic → postS (r.B ic sts ρ) Φ → SV (ic.ctx G lv) ic.pin sts ρ Φ
theorem EVA.mono {C : Ctx} {es : List Expr} {ρ : Rho} {k k' : List AO → Rho → Prop} {Ξ : Exc → Rho → Prop} (h : EVA C es ρ k Ξ) (hk : ∀ as ρ, k as ρ → k' as ρ) : EVA C es ρ k' Ξ := fun X hx W tk σ F H fp s x =>
  wA.mono (h X hx W tk σ F H fp s x) fun _ _ ⟨as, ρ', F', fp', S, q, r⟩ => ⟨as, ρ', F', fp', S, hk _ _ q, r⟩
theorem EVs.mono {C : Ctx} {es : List Expr} {ρ : Rho} {k k' : List D → Rho → Prop} {Ξ : Exc → Rho → Prop} (h : EVs C es ρ k Ξ) (hk : ∀ as ρ, k as ρ → k' as ρ) : EVs C es ρ k' Ξ := fun X hx W tk σ F H fp s x =>
  wA.mono (h X hx W tk σ F H fp s x) fun _ _ ⟨ds, ρ', F', fp', q, r⟩ => ⟨ds, ρ', F', fp', hk _ _ q, r⟩
section
variable {r : Ops} {G : Gx} {lv : Nat} {ic : IC} {ρ : Rho} {k : O → Rho → Prop} {Ξ : Exc → Rho → Prop}
theorem starB_f {e : Expr} (h : (!starB e) = true) : starB e = false := by simpa using h
theorem dsF_ok (S : Snd r) (I : IcOk G lv ic) : ∀ {es : List Expr} {ρ : Rho} {k : List D → Rho → Prop}, (dsF r ic es ρ).post k Ξ → EVs (ic.ctx G lv) es ρ k Ξ
  | [], ρ, k, h => evs_nil h
  | e :: es, ρ, k, h => by
    unfold dsF at h
    obtain ⟨hs, h⟩ := post_gate h
    rw [post_bind] at h
    refine evs_cons (EV.mono (S.E I h) fun o ρ1 q => ?_) (starEach_cons (starB_f hs))
    rw [post_bind] at q
    exact dsF_ok S I q
theorem lentS_ok {e : Expr} {i : Nat} (h : lentS ic e ρ = some i) : ∃ x p, e = .Name x p ∧ dbgB x = true ∧ visB ic.sc x = true ∧ ic.slot x = some i ∧ ∃ o, ρ[i]? = some (some o) := by
  unfold lentS at h
  split at h
  · rename_i x p
    split at h
    · rename_i c
      split at h
      · rename_i j e
        split at h
        · cases h
        · rename_i o _ hr
          cases h
          exact ⟨x, p, rfl, c.1, c.2, e, _, hr⟩
        · cases h
      · cases h
    · cases h
  · cases h
theorem asF_ok (S : Snd r) (I : IcOk G lv ic) (mu : List Nat) : ∀ {es : List Expr} (j : Nat) {ρ : Rho} {k : List AO → Rho → Prop}, (asF r ic mu j es ρ).post k Ξ → EVA (ic.ctx G lv) es ρ k Ξ
  | [], j, ρ, k, h => eva_nil h
  | e :: es, j, ρ, k, h => by
    unfold asF at h
    obtain ⟨hs, h1⟩ := post_gate h
    clear h
    have hs' := starEach_cons (es := es) (starB_f hs)
    split at h1
    · split at h1
      · rename_i i hl
        obtain ⟨x, p, ee, hd, hv, hsl, o, hr⟩ := lentS_ok hl
        rw [post_bind] at h1
        rw [ee]
        refine eva_borL (C := ic.ctx G lv) ⟨o, hr⟩ (EVA.mono (asF_ok S I mu (j + 1) h1) fun as ρ2 q => ?_) (slot_ok hsl) (visB_ok hv) (dbgB_ok hd).1 (dbgB_ok hd).2.1
        split at q
        · rename_i o2 hr2
          exact ⟨o2, hr2, q⟩
        · exact q.elim
      · rw [post_bind] at h1
        refine eva_own (EV.mono (S.E I h1) fun o ρ1 q => ?_) hs'
        rw [post_bind] at q
        exact asF_ok S I mu (j + 1) q
    · rw [post_bind] at h1
      refine eva_cons (EV.mono (S.E I h1) fun o ρ1 q => ?_) hs'
      rw [post_bind] at q
      exact asF_ok S I mu (j + 1) q
theorem callF_ok (S : Snd r) (I : IcOk G lv ic) {f : Str} {fd : FD} {e : Expr} {es : List Expr} {p pos : Pos} (hf : ic.P.fns.lookup f = some fd) {mu : List Nat} {dv : List D} (hj : ∃ j, dv = fd.dv.drop j) (h : (callF r ic f mu dv (e :: es) ρ).post k Ξ) (hsu : ic.su = none) (hg : glB ic.sc f = true) (hd : dbgB f = true) (hn : noStar (e :: es) = true) :
    EV (ic.ctx G lv) (.Call (.Name f p) (e :: es) [] pos) ρ k Ξ := by
  unfold callF at h
  rw [post_bind] at h
  obtain ⟨n1, n2⟩ := noStar_cons hn
  obtain ⟨j, ej⟩ := hj
  subst ej
  refine ev_call (C := ic.ctx G lv) (I.fns f fd hf j) (EVA.mono (asF_ok S I mu 0 h) fun as ρ1 q => ?_) hsu (glB_ok hg) (dbgB_ok hd).1 (starEach_cons n1) (fun env => starEach_any n2 pos env)
  unfold S_of
  split at q
  · rename_i e1
    show (ic.Φ f _ []).post _ _
    rw [e1]
    exact q
  · rename_i e1
    show (ic.Φ f _ []).post _ _
    rw [e1]
    exact q
  · exact q.elim
theorem isiT_ok {f : Str} {t : String} (h : isiT f = some t) : bootBuiltins f = some (.type t) ∧ t ∈ tys := by
  unfold isiT at h
  split at h
  · rename_i e; subst e; cases h; exact ⟨by decide +kernel, by decide⟩
  split at h
  · rename_i e; subst e; cases h; exact ⟨by decide +kernel, by decide⟩
  split at h
  · rename_i e; subst e; cases h; exact ⟨by decide +kernel, by decide⟩
  split at h
  · rename_i e; subst e; cases h; exact ⟨by decide +kernel, by decide⟩
  split at h
  · rename_i e; subst e; cases h; exact ⟨by decide +kernel, by decide⟩
  split at h
  · rename_i e; subst e; cases h; exact ⟨by decide +kernel, by decide⟩
  cases h
theorem isiF_ok (S : Snd r) (I : IcOk G lv ic) {es : List Expr} {p pos : Pos} (h : (isiF r ic es ρ).post k Ξ) (hg : glB ic.sc "isinstance" = true) (hb : ic.P.fre.contains "isinstance" = true) :
    EV (ic.ctx G lv) (.Call (.Name "isinstance" p) es [] pos) ρ k Ξ := by
  have hm : (ic.ctx G lv).G.mg "isinstance" = none := I.P.fre _ hb
  unfold isiF at h
  split at h
  · rename_i e T tp
    obtain ⟨c, h⟩ := post_gate h
    simp only [Bool.and_eq_true] at c
    obtain ⟨⟨c1, c2⟩, c3⟩ := c
    split at h
    · rename_i t ht
      obtain ⟨hf, h⟩ := post_gate h
      rw [post_bind] at h
      obtain ⟨b1, b2⟩ := isiT_ok ht
      refine ev_isi (C := ic.ctx G lv) (T' := t) hm (I.P.fre _ hf) (EV.mono (S.E I h) fun o ρ1 q => ?_) b1 b2 (glB_ok hg) (glB_ok c3) (dbgB_ok c2).2.2 (dbgB_ok c2).1 (starEach_cons (starB_f c1))
      obtain ⟨q1, q2⟩ := post_gate q
      exact ⟨by simpa using q1, q2⟩
    · split at h
      · rename_i ad c n np hsu hold
        split at h
        · rename_i i hi
          obtain ⟨c4, h4⟩ := post_gate h
          simp only [Bool.and_eq_true] at c4
          obtain ⟨⟨c5, c6⟩, c7⟩ := c4
          split at h4
          · rename_i b hr
            obtain ⟨c8, h5⟩ := post_gate h4
            have e8 := of_decide_eq_true c8
            rw [e8] at hr
            obtain ⟨o, ho, q⟩ := post_lift h5
            obtain ⟨bb, hbb, eo⟩ := map_some ho
            rw [eo] at q
            have hfl : c.fld = none := by
              cases e9 : c.fld with
              | none => rfl
              | some _ => rw [e9] at c7; cases c7
            exact ev_isE (C := ic.ctx G lv) (I.P.isE _ _ _ hbb) hm hsu hr q hfl (slot_ok hi) (visB_ok c6) (dbgB_ok c5).1 (dbgB_ok c5).2.1 (glB_ok hg) (glB_ok c3) (dbgB_ok c2).1
          · exact h4.elim
        · exact h.elim
      · exact h.elim
  · rename_i e T tp U up kk ttp
    obtain ⟨c, h⟩ := post_gate h
    simp only [Bool.and_eq_true] at c
    obtain ⟨⟨c1, c2, c3⟩, c4, c5⟩ := c
    split at h
    · rename_i t u ht hu
      obtain ⟨hf, h⟩ := post_gate h
      simp only [Bool.and_eq_true] at hf
      rw [post_bind] at h
      obtain ⟨b1, b2⟩ := isiT_ok ht
      obtain ⟨b3, b4⟩ := isiT_ok hu
      refine ev_isi2 (C := ic.ctx G lv) (T' := t) (U' := u) hm (I.P.fre _ hf.1) (I.P.fre _ hf.2) (EV.mono (S.E I h) fun o ρ1 q => ?_) b1 b3 b2 b4 (glB_ok hg) (glB_ok c3) (glB_ok c5) (dbgB_ok c2).2.2 (dbgB_ok c2).1 (dbgB_ok c4).2.2 (dbgB_ok c4).1 (starEach_cons (starB_f c1))
      obtain ⟨q1, q2⟩ := post_gate q
      exact ⟨by simpa using q1, q2⟩
    · exact h.elim
  · exact h.elim

/-! ### what is walked -/
section
variable {kd : List D → Rho → Prop} {tg iter : Expr}
theorem ei_items (S : Snd r) (I : IcOk G lv ic) (h : ((r.E ic iter ρ).bind fun o ρ1 => lift (itemsQ o.frz) ρ1).post kd Ξ) : EI (ic.ctx G lv) tg iter ρ kd Ξ := by
  rw [post_bind] at h
  cases e : r.E ic iter ρ with
  | bad => rw [e] at h; exact h.elim
  | exc c ρ1 =>
    refine ei_lst (S.E I ?_)
    rw [e] at h ⊢
    exact h
  | ok o ρ1 =>
    rw [e] at h
    obtain ⟨ds, hd, q⟩ := post_lift h
    unfold itemsQ at hd
    split at hd
    · rename_i xs ho
      cases hd
      refine ei_lst (S.E I ?_)
      rw [e]
      exact ⟨_, ho, q⟩
    · rename_i xs ho
      cases hd
      refine ei_tup (S.E I ?_)
      rw [e]
      exact ⟨_, ho, q⟩
    · rename_i xs ho
      cases hd
      refine ei_str (S.E I ?_)
      rw [e]
      exact ⟨_, ho, q⟩
    · rename_i xs ho
      cases hd
      refine ei_scr (S.E I ?_)
      rw [e]
      exact ⟨_, ho, q⟩
    · cases hd
theorem star1 {a : Expr} (h : starB a = false) (env : Env) : starEach [a] env = [(false, eval a env)] := starEach_cons h env
theorem star2 {a b : Expr} (h : noStar [a, b] = true) (env : Env) : starEach [a, b] env = [(false, eval a env), (false, eval b env)] := by
  obtain ⟨h1, h2⟩ := noStar_cons h
  obtain ⟨h3, _⟩ := noStar_cons h2
  rw [starEach_cons h1, starEach_cons h3]
  rfl
theorem genF_ok (S : Snd r) (I : IcOk G lv ic) {f : Str} {as : List Expr} {p pos : Pos} (h : (itF.genF r ic f as (.Call (.Name f p) as [] pos) ρ).post kd Ξ) : EI (ic.ctx G lv) tg (.Call (.Name f p) as [] pos) ρ kd Ξ := by
  unfold itF.genF at h
  split at h
  · rename_i ef
    subst ef
    split at h
    · rename_i a
      obtain ⟨c, h⟩ := post_gate h
      simp only [Bool.and_eq_true] at c
      rw [post_bind] at h
      refine ei_rng1 (C := ic.ctx G lv) (I.P.fre _ c.2) (EV.mono (S.E I h) fun o ρ1 q => ?_) (glB_ok c.1.2) (star1 (starB_f c.1.1))
      split at q
      · rename_i j ho
        obtain ⟨q1, q2⟩ := post_gate q
        exact ⟨j, ho, of_decide_eq_true q1, q2⟩
      · exact q.elim
    · rename_i a b
      obtain ⟨c, h⟩ := post_gate h
      simp only [Bool.and_eq_true] at c
      rw [post_bind] at h
      refine ei_rng2 (C := ic.ctx G lv) (I.P.fre _ c.2) (EV.mono (S.E I h) fun o ρ1 q => ?_) (glB_ok c.1.2) (star2 c.1.1) (star1 (noStar_cons (noStar_cons c.1.1).2).1)
      rw [post_bind] at q
      refine EV.mono (S.E I q) fun o2 ρ2 q => ?_
      split at q
      · rename_i i j ho ho2
        obtain ⟨q1, q2⟩ := post_gate q
        exact ⟨i, j, ho, ho2, of_decide_eq_true q1, q2⟩
      · exact q.elim
    · exact h.elim
  · split at h
    · exact h.elim
    · split at h
      · exact h.elim
      · exact ei_items S I h
theorem itF_ok (S : Snd r) (I : IcOk G lv ic) (h : (itF r ic tg iter ρ).post kd Ξ) : EI (ic.ctx G lv) tg iter ρ kd Ξ := by
  unfold itF at h
  split at h
  · rename_i e1 k1 p1 f fp a pos
    split at h
    · rename_i ef
      subst ef
      obtain ⟨c, h⟩ := post_gate h
      simp only [Bool.and_eq_true] at c
      rw [post_bind] at h
      refine ei_enum (C := ic.ctx G lv) (I.P.fre _ c.2) (EV.mono (S.E I h) fun o ρ1 q => ?_) (glB_ok c.1.2) (star1 (starB_f c.1.1))
      split at q
      · rename_i ds ho
        exact ⟨ds, ho, q⟩
      · exact q.elim
    · exact genF_ok S I h
  · rename_i e1 k1 p1 f fp a b pos
    split at h
    · rename_i ef
      subst ef
      obtain ⟨c, h⟩ := post_gate h
      simp only [Bool.and_eq_true] at c
      obtain ⟨n1, n2⟩ := noStar_cons c.1.1
      rw [post_bind] at h
      cases e : r.E ic a ρ with
      | bad => rw [e] at h; exact h.elim
      | exc cc ρ1 =>
        refine ei_zip (C := ic.ctx G lv) (I.P.fre _ c.2) (S.E I ?_) (glB_ok c.1.2) (starEach_cons n1) (starEach_cons (noStar_cons n2).1) (fun env => starEach_any n2 pos env)
        rw [e] at h ⊢
        exact h
      | ok o ρ1 =>
        rw [e] at h
        have h' : ((r.E ic b ρ1).bind fun o2 ρ2 => match o.frz, o2.frz with
          | .lst ds, .lst es => .ok (List.zipWith (fun d e => .tup [d, e]) ds es) ρ2
          | .tup ds, .tup es => .ok (List.zipWith (fun d e => .tup [d, e]) ds es) ρ2
          | _, _ => .bad).post kd Ξ := h
        rw [post_bind] at h'
        cases eo : o.frz with
        | tup ds =>
          refine ei_zipT (C := ic.ctx G lv) (I.P.fre _ c.2) (S.E I ?_) (glB_ok c.1.2) (starEach_cons n1) (starEach_cons (noStar_cons n2).1) (fun env => starEach_any n2 pos env)
          rw [e]
          refine EV.mono (S.E I h') fun o2 ρ2 q => ?_
          rw [eo] at q
          split at q
          · rename_i z _; cases z
          · rename_i z ho2; cases z; exact ⟨_, _, eo, ho2, q⟩
          · exact q.elim
        | lst ds =>
          refine ei_zip (C := ic.ctx G lv) (I.P.fre _ c.2) (S.E I ?_) (glB_ok c.1.2) (starEach_cons n1) (starEach_cons (noStar_cons n2).1) (fun env => starEach_any n2 pos env)
          rw [e]
          refine EV.mono (S.E I h') fun o2 ρ2 q => ?_
          rw [eo] at q
          split at q
          · rename_i z ho2; cases z; exact ⟨_, _, eo, ho2, q⟩
          · rename_i z _; cases z
          · exact q.elim
        | _ =>
          refine ei_zip (C := ic.ctx G lv) (I.P.fre _ c.2) (S.E I ?_) (glB_ok c.1.2) (starEach_cons n1) (starEach_cons (noStar_cons n2).1) (fun env => starEach_any n2 pos env)
          rw [e]
          refine EV.mono (S.E I h') fun o2 ρ2 q => ?_
          rw [eo] at q
          exact q.elim
    · exact genF_ok S I h
  · rename_i e1 k1 p1 f fp a b kw j kp kpos pos
    obtain ⟨c0, h1⟩ := post_gate h
    clear h
    simp only [Bool.and_eq_true, decide_eq_true_eq] at c0
    obtain ⟨ef, ek⟩ := c0
    rw [ef] at h1
    rw [ef, ek]
    obtain ⟨c, h2⟩ := post_gate h1
    simp only [Bool.and_eq_true] at c
    obtain ⟨n1, n2⟩ := noStar_cons c.1.1
    have n3 := (noStar_cons n2).1
    rw [post_bind] at h2
    refine ei_zipS (C := ic.ctx G lv) (I.P.fre _ c.2) (EV.mono (S.E I h2) fun o ρ1 q => ?_) (glB_ok c.1.2) (starEach_cons n1) (starEach_cons n3) (fun env => by rw [starEach_cons n1]; rfl) (fun env => starEach_any c.1.1 pos env)
    rw [post_bind] at q
    refine EV.mono (S.E I q) fun o2 ρ2 q => ?_
    split at q
    · rename_i ds z ho ho2
      obtain ⟨q1, q2⟩ := post_gate q
      simp only [Bool.and_eq_true, decide_eq_true_eq] at q1
      exact ⟨ds, z, ho, ho2, q1.1, q1.2, q2⟩
    · exact q.elim
  · exact genF_ok S I h
  · exact ei_items S I h
end

/-! ### list comprehensions -/
theorem tgS_blk (scope : Scope) : ∀ n, (∀ e, tgS (ic.blk scope) n e = tgS ic n e) ∧ ∀ es, tgSs (ic.blk scope) n es = tgSs ic n es := by
  intro n
  induction n with
  | zero => exact ⟨fun e => by unfold tgS; rfl, fun es => by unfold tgSs; rfl⟩
  | succ n ih =>
    refine ⟨fun e => ?_, fun es => ?_⟩
    · unfold tgS
      split
      · rfl
      · exact ih.2 _
      · rfl
    · unfold tgSs
      split
      · rfl
      · rw [ih.1, ih.2]
theorem own_map (l : List Nat) : (namesOf ic l).map (·.2) = l := by
  unfold namesOf
  rw [List.map_map]
  simp [Function.comp_def]
theorem tst_ok (S : Snd r) (I : IcOk G lv ic) {ifs : List Expr} {kb : Bool → Rho → Prop} (h : (tstF r ic ifs ρ).post kb Ξ) : ETs (ic.ctx G lv) ifs ρ kb Ξ := by
  match ifs, h with
  | [], h => exact h
  | [c], h => exact S.T I h
  | _ :: _ :: _, h => exact h.elim
theorem lcask_ok (S : Snd r) (I : IcOk G lv ic) {scope : Scope} {tg elt : Expr} {ifs : List Expr} {ds : List D} {ρ1 : Rho} {kk : List O → Rho → Prop} {Ξ0 : Exc → Rho → Prop} (hl : ds.length ≤ 16000000)
    (h : (lcL (tgA (ic.blk scope) 12 tg) (tstF r (ic.blk scope) ifs) (r.E (ic.blk scope) elt) (tgS ic 12 tg) ds [] (wipeR ρ1 (tgS ic 12 tg))).post kk Ξ0) :
    LcAsk (ic.ctx G lv) scope tg elt ifs (tgS ic 12 tg) (tgS ic 12 tg) (fun c ρ' => Ξ0 c (wipeR ρ' (tgS ic 12 tg))) kk ds ρ1 := by
  refine ⟨hl, fun i acc ρ' => (lcL (tgA (ic.blk scope) 12 tg) (tstF r (ic.blk scope) ifs) (r.E (ic.blk scope) elt) (tgS ic 12 tg) (ds.drop i) acc ρ').post kk Ξ0, by simpa using h, ?_, ?_⟩
  · intro i d acc ρ' hd q
    have hdr : ds.drop i = d :: ds.drop (i + 1) := by
      obtain ⟨hi, e⟩ := List.getElem?_eq_some_iff.mp hd
      rw [List.drop_eq_getElem_cons hi, e]
    rw [hdr] at q
    unfold lcL at q
    split at q
    · exact q.elim
    · rename_i ρ2 e2
      have key := ((tgA_ok (G := G) (lv := lv) (ic := ic.blk scope) 12).1 (e := tg) (d := d) (ρ := ρ') (ρ' := ρ2) (k := fun ρ2 => ETs ((ic.ctx G lv).blk scope) ifs ρ2 (fun b ρ3 =>
        (b = true → EV ((ic.ctx G lv).blk scope) elt ρ3 (fun o ρ4 => (lcL (tgA (ic.blk scope) 12 tg) (tstF r (ic.blk scope) ifs) (r.E (ic.blk scope) elt) (tgS ic 12 tg) (ds.drop (i + 1)) (acc ++ [o]) (wipeR ρ4 (tgS ic 12 tg))).post kk Ξ0) (fun c ρ' => Ξ0 c (wipeR ρ' (tgS ic 12 tg)))) ∧
        (b = false → (lcL (tgA (ic.blk scope) 12 tg) (tstF r (ic.blk scope) ifs) (r.E (ic.blk scope) elt) (tgS ic 12 tg) (ds.drop (i + 1)) acc (wipeR ρ3 (tgS ic 12 tg))).post kk Ξ0)) (fun c ρ' => Ξ0 c (wipeR ρ' (tgS ic 12 tg)))) e2 ?_).1
      · rw [(tgS_blk (ic := ic) scope 12).1] at key
        exact key
      · refine tst_ok S (I.blk scope) ?_
        cases e3 : tstF r (ic.blk scope) ifs ρ2 with
        | bad => rw [e3] at q; exact q.elim
        | exc c ρ3 => rw [e3] at q; exact q
        | ok b ρ3 =>
          rw [e3] at q
          cases b with
          | false =>
            refine And.intro (fun z => absurd z (by decide)) (fun _ => ?_)
            exact q
          | true =>
            refine And.intro (fun _ => S.E (I.blk scope) ?_) (fun z => absurd z (by decide))
            cases e4 : r.E (ic.blk scope) elt ρ3 with
            | bad =>
              simp only [e4] at q
              exact q.elim
            | exc c ρ4 =>
              simp only [e4] at q
              exact q
            | ok o ρ4 =>
              simp only [e4] at q
              exact q
  · intro acc ρ' q
    rw [List.drop_length] at q
    exact q
theorem setB_ok {iter : Expr} (h : setB iter = false) (env : Env) (x : Value) : foldedSetIterable iter env x = pure x := by
  cases iter <;> first | rfl | (cases h; done)
theorem lcF_inv {elt : Expr} {gens : List Comprehension} {scope : Scope} {kk : List O → Rho → Prop} (h : (lcF r ic elt gens scope ρ).post kk Ξ) :
    ∃ tg iter ifs, gens = [⟨tg, iter, ifs, 0⟩] ∧ ic.su = none ∧ setB iter = false ∧ blkC ic.N ic.sc scope (namesOf ic (tgS ic 12 tg)) = true ∧
      (itF r ic tg iter ρ).post (fun ds ρ1 => ds.length ≤ 16000000 ∧ ((ic.top = true ∧ (lcL (tgA (ic.blk scope) 12 tg) (tstF r (ic.blk scope) ifs) (r.E (ic.blk scope) elt) (tgS ic 12 tg) ds [] (wipeR ρ1 (tgS ic 12 tg))).post kk Ξ) ∨
        (ic.top = false ∧ (lcL (tgA (ic.blk scope) 12 tg) (tstF r (ic.blk scope) ifs) (r.E (ic.blk scope) elt) (tgS ic 12 tg) ds [] (wipeR ρ1 (tgS ic 12 tg))).post kk (fun _ _ => False)))) Ξ := by
  unfold lcF at h
  split at h
  · rename_i tg iter ifs
    obtain ⟨c, h⟩ := post_gate h
    simp only [Bool.and_eq_true, decide_eq_true_eq] at c
    refine ⟨tg, iter, ifs, rfl, c.1.1, by simpa using c.1.2, c.2, ?_⟩
    rw [post_bind] at h
    refine post_mono h (fun ds ρ1 q => ?_) fun _ _ z => z
    obtain ⟨q1, q⟩ := post_gate q
    refine ⟨of_decide_eq_true q1, ?_⟩
    cases e : lcL (tgA (ic.blk scope) 12 tg) (tstF r (ic.blk scope) ifs) (r.E (ic.blk scope) elt) (tgS ic 12 tg) ds [] (wipeR ρ1 (tgS ic 12 tg)) with
    | bad =>
      simp only [e] at q
      exact q.elim
    | ok acc ρ2 =>
      simp only [e] at q
      cases ht : ic.top with
      | true => exact .inl ⟨rfl, q⟩
      | false => exact .inr ⟨rfl, q⟩
    | exc cc ρ2 =>
      simp only [e] at q
      obtain ⟨q1, q2⟩ := post_gate q
      exact .inl ⟨q1, q2⟩
  · exact h.elim
theorem lcF_ok (S : Snd r) (I : IcOk G lv ic) {elt : Expr} {gens : List Comprehension} {scope : Scope} {pos : Pos} (h : (lcF r ic elt gens scope ρ).post (fun acc ρ' => k (.lst acc) ρ') Ξ) : EV (ic.ctx G lv) (.ListComp elt gens scope pos) ρ k Ξ := by
  obtain ⟨tg, iter, ifs, rfl, hsu, hsb, hbk, hit⟩ := lcF_inv h
  cases ht : ic.top with
  | true =>
    refine ev_lc (C := ic.ctx G lv) (sl := tgS ic 12 tg) (namesOf ic (tgS ic 12 tg)) (itF_ok S I (post_mono hit (fun ds ρ1 q => ?_) fun _ _ z => z)) (fun j hj => by rw [own_map]; exact hj) hbk ht hsu (setB_ok hsb)
    rcases q with ⟨hl, ⟨_, q⟩ | ⟨z, _⟩⟩
    · have := lcask_ok S I hl q
      rw [own_map]
      exact this
    · rw [ht] at z; cases z
  | false =>
    refine ev_lcN (C := ic.ctx G lv) (sl := tgS ic 12 tg) (namesOf ic (tgS ic 12 tg)) (itF_ok S I (post_mono hit (fun ds ρ1 q => ?_) fun _ _ z => z)) (fun j hj => by rw [own_map]; exact hj) hbk hsu (setB_ok hsb)
    rcases q with ⟨hl, ⟨z, _⟩ | ⟨_, q⟩⟩
    · rw [ht] at z; cases z
    · have := lcask_ok S I hl q
      rw [own_map]
      exact this
end
end Fr

set_option Elab.async false
set_option linter.all false
set_option maxRecDepth 100000
set_option maxHeartbeats 4000000
/-! In4: expressions, tests. -/
namespace Fr
open PySem PySem.Spec PyProof.Rows L2
section
variable {C : Ctx} {ρ : Rho} {k : O → Rho → Prop} {Ξ : Exc → Rho → Prop} {b : Expr} {pos : Pos}
/-- an item of a list that a slot alone holds, as it is when the place is told -/
theorem ev_ixG {i : Nat} {x : Str} {p : Pos} (hr : ∃ o, ρ[i]? = some (some o)) (h : EV C b ρ (fun y ρ2 => ∃ os z d, ρ2[i]? = some (some (.lst os)) ∧ y.frz = .int z ∧ L2.atI os z = some (.fz d) ∧ k (.fz d) ρ2) Ξ)
    (hs : PlainIx b) (hN : C.N[i]? = some x) (hv : Vis C.sc x) (hd : (x == ("__debug__" : Str)) = false) (hcd : (x == ("__classdict__" : Str)) = false) : EV C (.Subscript (.Name x p) b pos) ρ k Ξ := by
  intro X hx W tk σ F H fp s xx
  obtain ⟨o, hr⟩ := hr
  obtain ⟨v, e, r⟩ := s.slot i _ hr
  refine w_e (pe_ix ix_u (pe_var (i := i) (by rw [hx.N]; exact hN) (hx.vis hv) hd hcd) pe_w hs) ⟨v, e, ?_⟩
  refine (EV.d (k := fun d2 ρ2 => ∃ os z d, ρ2[i]? = some (some (.lst os)) ∧ d2 = .int z ∧ L2.atI os z = some (.fz d) ∧ k (.fz d) ρ2) h hx tk s xx).mono fun u H2 ⟨d2, ρ2, F2, fp2, ⟨os, z, d, hr2, e2, ha, q⟩, s2, a2, m2⟩ => ?_
  subst e2
  cases a2
  obtain ⟨v2, e3, r2⟩ := s2.slot i _ hr2
  rw [e] at e3
  cases e3
  obtain ⟨pa, vs2, S2, ev2, h1, t⟩ := r2.inv_lst
  subst ev2
  unfold L2.atI at ha
  cases q3 : ixN os.length z with
  | none => rw [q3] at ha; cases ha
  | some j =>
    rw [q3] at ha
    obtain ⟨w, e4, a4⟩ := t.getFz ha
    refine ⟨_, ix_list, _, _, _, w, rfl, rfl, .inl (.inl h1), ?_, fdm m2 s2 a4 q⟩
    unfold L2.atI
    rw [t.length, q3]
    exact e4
end
/-- a text in a table of the module -/
theorem kd_sem {C : Ctx} {X : Cx} {x : Str} {ks : List Str} {p : Pos} (hx : XIs C X) (h : TabK C.G x ks) (hg : C.sc.names.lookup x = some .globalImplicit) (hdb : (x == ("__debug__" : Str)) = false) :
    ∃ d es n, PE X (.Name x p) (tC (.ref d)) ∧ KDict X.K X.w d es n ∧ ∀ z, ∃ r, PySem.W.nsIn X.K d z = some r ∧ r.isSome = decide (z ∈ ks) := by
  obtain ⟨d, es, n, g, D, hz⟩ := h
  exact ⟨d, es, n, pe_glob (hx.gl hg) (by rw [hx.mg]; exact g) (v := .ref d) rfl hdb, (by rw [hx.K, hx.w]; exact D), (by rw [hx.K]; exact hz)⟩
theorem ev_inK {C : Ctx} {ρ : Rho} {k : O → Rho → Prop} {Ξ : Exc → Rho → Prop} {a : Expr} {x : Str} {ks : List Str} {p pos : Pos} {op : CmpOp} {b : Bool} (hop : (op = .In ∧ b = true) ∨ (op = .NotIn ∧ b = false)) (h : EV C a ρ (fun o ρ1 => ∃ z, o.frz = .str z ∧ k (.fz (.bl (eqB b (decide (z ∈ ks))))) ρ1) Ξ) (ht : TabK C.G x ks)
    (hg : C.sc.names.lookup x = some .globalImplicit) (hdb : (x == ("__debug__" : Str)) = false) : EV C (.Compare a [op] [.Name x p] pos) ρ k Ξ := by
  intro X hx W tk σ F H fp s xx
  obtain ⟨d, es, n, pn, D, hz⟩ := kd_sem (p := p) hx ht hg hdb
  have fin : ∀ v H1, DP C.G.K σ (own fp) F H (fun o ρ1 => ∃ z, o = .str z ∧ k (.fz (.bl (eqB b (decide (z ∈ ks))))) ρ1) v H1 → ∃ z r, v = .str z ∧ PySem.W.nsIn X.K d z = some r ∧ r.isSome = decide (z ∈ ks) ∧ ∀ bb, bb = eqB b (decide (z ∈ ks)) → VP C.G.K σ (own fp) F H k (.bl bb) H1 := by
    rintro v H1 ⟨dd, ρ1, F1, fp1, ⟨z, ez, q⟩, s1, a1, m1⟩
    subst ez
    cases a1
    obtain ⟨r, h1, h2⟩ := hz z
    exact ⟨z, r, rfl, h1, h2, fun bb e => by subst e; exact fdm m1 s1 (.bl _) q⟩
  rcases hop with ⟨rfl, rfl⟩ | ⟨rfl, rfl⟩
  · refine w_e (pe_cmpR (op_in_kd D) pe_w pn rfl) ((EV.d (k := fun o ρ1 => ∃ z, o = .str z ∧ k (.fz (.bl (eqB true (decide (z ∈ ks))))) ρ1) h hx tk s xx).mono fun v H1 q => ?_)
    obtain ⟨z, r, rfl, h1, h2, q⟩ := fin v H1 q
    exact ⟨z, r, rfl, rfl, h1, q _ h2⟩
  · refine w_e (pe_cmpR (op_notIn_kd D) pe_w pn rfl) ((EV.d (k := fun o ρ1 => ∃ z, o = .str z ∧ k (.fz (.bl (eqB false (decide (z ∈ ks))))) ρ1) h hx tk s xx).mono fun v H1 q => ?_)
    obtain ⟨z, r, rfl, h1, h2, q⟩ := fin v H1 q
    exact ⟨z, r, rfl, rfl, h1, q _ (by rw [h2]; rfl)⟩
theorem et_inK {C : Ctx} {ρ : Rho} {k : Bool → Rho → Prop} {Ξ : Exc → Rho → Prop} {a : Expr} {x : Str} {ks : List Str} {p pos : Pos} {op : CmpOp} {b : Bool} (hop : (op = .In ∧ b = true) ∨ (op = .NotIn ∧ b = false)) (h : EV C a ρ (fun o ρ1 => ∃ z, o.frz = .str z ∧ k (eqB b (decide (z ∈ ks))) ρ1) Ξ) (ht : TabK C.G x ks)
    (hg : C.sc.names.lookup x = some .globalImplicit) (hdb : (x == ("__debug__" : Str)) = false) : ET C (.Compare a [op] [.Name x p] pos) ρ k Ξ := by
  intro X hx W tk σ F H fp s xx
  obtain ⟨d, es, n, pn, D, hz⟩ := kd_sem (p := p) hx ht hg hdb
  have fin : ∀ v H1, DP C.G.K σ (own fp) F H (fun o ρ1 => ∃ z, o = .str z ∧ k (eqB b (decide (z ∈ ks))) ρ1) v H1 → ∃ z r, v = .str z ∧ PySem.W.nsIn X.K d z = some r ∧ r.isSome = decide (z ∈ ks) ∧ ∀ bb, bb = eqB b (decide (z ∈ ks)) → BP C.G.K σ (own fp) F H k bb H1 := by
    rintro v H1 ⟨dd, ρ1, F1, fp1, ⟨z, ez, q⟩, s1, a1, m1⟩
    subst ez
    cases a1
    obtain ⟨r, h1, h2⟩ := hz z
    exact ⟨z, r, rfl, h1, h2, fun bb e => by subst e; exact ⟨ρ1, F1, fp1, q, s1, m1⟩⟩
  rcases hop with ⟨rfl, rfl⟩ | ⟨rfl, rfl⟩
  · refine w_t (pt_cmpR (op_in_kd D) pe_w pn rfl) ((EV.d (k := fun o ρ1 => ∃ z, o = .str z ∧ k (eqB true (decide (z ∈ ks))) ρ1) h hx tk s xx).mono fun v H1 q => ?_)
    obtain ⟨z, r, rfl, h1, h2, q⟩ := fin v H1 q
    exact ⟨z, r, rfl, rfl, h1, _, rfl, q _ h2⟩
  · refine w_t (pt_cmpR (op_notIn_kd D) pe_w pn rfl) ((EV.d (k := fun o ρ1 => ∃ z, o = .str z ∧ k (eqB false (decide (z ∈ ks))) ρ1) h hx tk s xx).mono fun v H1 q => ?_)
    obtain ⟨z, r, rfl, h1, h2, q⟩ := fin v H1 q
    exact ⟨z, r, rfl, rfl, h1, _, rfl, q _ (by rw [h2]; rfl)⟩
theorem keyQ_ok {ic : IC} {op : CmpOp} {c : Expr} {ks : List Str} {b : Bool} (h : keyQ ic op c = some (ks, b)) : ∃ x p, c = .Name x p ∧ glB ic.sc x = true ∧ dbgB x = true ∧ ic.P.tbK.lookup x = some ks ∧ ((op = .In ∧ b = true) ∨ (op = .NotIn ∧ b = false)) := by
  unfold keyQ at h
  split at h
  · split at h
    · rename_i c
      obtain ⟨k2, h1, h2⟩ := map_some h
      cases h2
      exact ⟨_, _, rfl, c.1, c.2.1, h1, .inl ⟨rfl, rfl⟩⟩
    · cases h
  · split at h
    · rename_i c
      obtain ⟨k2, h1, h2⟩ := map_some h
      cases h2
      exact ⟨_, _, rfl, c.1, c.2.1, h1, .inr ⟨rfl, rfl⟩⟩
    · cases h
  · cases h
theorem thawE_ok {m : Rho → Res O} {ρ : Rho} {k : O → Rho → Prop} {Ξ : Exc → Rho → Prop} (h : (thawE m ρ).post k Ξ) : (m (ρ.map frzS)).post (fun o _ => ∃ d, o = .fz d ∧ d.flat = true ∧ k (.fz d) ρ) (fun c _ => c.fld = none ∧ Ξ c ρ) := by
  unfold thawE at h
  cases e : m (ρ.map frzS) with
  | bad => rw [e] at h; exact h.elim
  | exc c ρ1 =>
    rw [e] at h
    simp only at h
    cases e2 : c.fld with
    | none => rw [e2] at h; exact ⟨e2, h⟩
    | some _ => rw [e2] at h; exact h.elim
  | ok o ρ1 =>
    rw [e] at h
    cases o with
    | fz d =>
      obtain ⟨h1, h2⟩ := post_gate h
      exact ⟨d, rfl, h1, h2⟩
    | _ => exact h.elim
theorem thawT_ok {m : Rho → Res Bool} {ρ : Rho} {k : Bool → Rho → Prop} {Ξ : Exc → Rho → Prop} (h : (thawT m ρ).post k Ξ) : (m (ρ.map frzS)).post (fun b _ => k b ρ) (fun c _ => c.fld = none ∧ Ξ c ρ) := by
  unfold thawT at h
  cases e : m (ρ.map frzS) with
  | bad => rw [e] at h; exact h.elim
  | exc c ρ1 =>
    rw [e] at h
    simp only at h
    cases e2 : c.fld with
    | none => rw [e2] at h; exact ⟨e2, h⟩
    | some _ => rw [e2] at h; exact h.elim
  | ok o ρ1 =>
    rw [e] at h
    exact h
section
variable {r : Ops} {G : Gx} {lv : Nat} {ic : IC} {ρ : Rho} {k : O → Rho → Prop} {Ξ : Exc → Rho → Prop}
theorem partF_ok (S : Snd r) (I : IcOk G lv ic) {p : Option Expr} {kp : Option Int → Rho → Prop} (h : (partF r ic p ρ).post kp Ξ) : EP' (ic.ctx G lv) p ρ kp Ξ := by
  unfold partF at h
  split at h
  · exact h
  · rw [post_bind] at h
    refine EV.mono (S.E I h) fun o ρ1 q => ?_
    split at q
    · rename_i i ho
      exact ⟨i, ho, q⟩
    · exact q.elim
theorem plainIx_all {b : Expr} (h : cllF.plainB b = true) : PlainIx b := by
  cases b <;> first | exact fun _ _ => rfl | (cases h; done)
theorem baseB_ok {o : Expr} (h : baseB o = true) (m : Str) (env : Env) : attributeBase o m env (eval o env) = eval o env := by
  unfold baseB at h
  split at h
  · cases h
  · rename_i hn
    cases o with
    | Call f a kw p =>
      cases f with
      | Name id ip =>
        cases a with
        | nil =>
          cases kw with
          | nil => exact absurd rfl (hn id ip p)
          | cons _ _ => rfl
        | cons _ _ => rfl
      | _ => rfl
    | _ => rfl
theorem few_ok {es : List Expr} (h : noStar es = true) (hl : es.length < 20) (cpos : Pos) (env : Env) : ((backTo cpos (starEach es env)).all (fun x => !x.1) && (backToKw cpos (keywordEach [] env)).all (fun x => x.1.isSome) && decide (es.length + ([] : List Keyword).length + (if ([] : List Keyword).isEmpty then 0 else 1) < 30)) = true := by
  have h1 : (backTo cpos (starEach es env)).all (fun x => !x.1) = true := by
    induction es with
    | nil => rfl
    | cons e es ih =>
      obtain ⟨n1, n2⟩ := noStar_cons h
      rw [starEach_cons n1]
      have := ih n2 (by simp at hl; omega)
      unfold backTo at this ⊢
      simp only [List.map_cons, List.all_cons, Bool.and_eq_true]
      exact ⟨rfl, this⟩
  rw [h1]
  have h2 : (backToKw cpos (keywordEach [] env)).all (fun x => x.1.isSome) = true := rfl
  rw [h2]
  simp
  omega
theorem subF_ok (S : Snd r) (I : IcOk G lv ic) {a b : Expr} {pos : Pos} (h : (subF r ic a b ρ).post k Ξ) : EV (ic.ctx G lv) (.Subscript a b pos) ρ k Ξ := by
  unfold subF at h
  split at h
  · rename_i lo hi sp
    rw [post_bind] at h
    refine ev_sl (EV.mono (S.E I h) fun x ρ1 q => ?_)
    rw [post_bind] at q
    have q1 := partF_ok S I q
    cases lo with
    | none =>
      have q1 : (( partF r ic hi ρ1).bind fun u ρ3 => lift ((slF x.frz none u).map RV.o) ρ3).post k Ξ := q1
      rw [post_bind] at q1
      have q2 := partF_ok S I q1
      cases hi with
      | none =>
        obtain ⟨z, hz, q3⟩ := post_lift (show (lift ((slF x.frz none none).map RV.o) ρ1).post k Ξ from q2)
        obtain ⟨w, hw, rfl⟩ := map_some hz
        exact ⟨w, slF_ok hw, q3⟩
      | some e2 =>
        refine EV.mono (show EV (ic.ctx G lv) e2 ρ1 _ Ξ from q2) fun o ρ2 ⟨i, ho, q3⟩ => ⟨i, ho, ?_⟩
        obtain ⟨z, hz, q3⟩ := post_lift q3
        obtain ⟨w, hw, rfl⟩ := map_some hz
        exact ⟨w, slF_ok hw, q3⟩
    | some e1 =>
      refine EV.mono (show EV (ic.ctx G lv) e1 ρ1 _ Ξ from q1) fun o ρ2 ⟨i, ho, q2⟩ => ⟨i, ho, ?_⟩
      have q2 : ((partF r ic hi ρ2).bind fun u ρ3 => lift ((slF x.frz (some i) u).map RV.o) ρ3).post k Ξ := q2
      rw [post_bind] at q2
      have q2 := partF_ok S I q2
      cases hi with
      | none =>
        obtain ⟨z, hz, q3⟩ := post_lift (show (lift ((slF x.frz (some i) none).map RV.o) ρ2).post k Ξ from q2)
        obtain ⟨w, hw, rfl⟩ := map_some hz
        exact ⟨w, slF_ok hw, q3⟩
      | some e2 =>
        refine EV.mono (show EV (ic.ctx G lv) e2 ρ2 _ Ξ from q2) fun o ρ2 ⟨i, ho, q3⟩ => ⟨i, ho, ?_⟩
        obtain ⟨z, hz, q3⟩ := post_lift q3
        obtain ⟨w, hw, rfl⟩ := map_some hz
        exact ⟨w, slF_ok hw, q3⟩
  · exact h.elim
  · exact h.elim
  · exact h.elim
  · rename_i hb1 hb2 hb3 hb4
    have hp : PlainIx b := by
      cases b with
      | Slice lo hi st p =>
        cases st with
        | none => exact absurd rfl (hb1 lo hi p)
        | some e => exact absurd rfl (hb2 lo hi e p)
      | _ => exact fun _ _ => rfl
    split at h
    · rename_i i hl
      obtain ⟨x, p, ee, hd, hv, hsl, ho⟩ := lentS_ok hl
      rw [ee]
      rw [post_bind] at h
      refine ev_ixG (C := ic.ctx G lv) ho (EV.mono (S.E I h) fun y ρ2 q => ?_) hp (slot_ok hsl) (visB_ok hv) (dbgB_ok hd).1 (dbgB_ok hd).2.1
      split at q
      · rename_i os z hr hy
        split at q
        · rename_i d ha
          exact ⟨os, z, d, hr, hy, ha, q⟩
        · exact q.elim
      · exact q.elim
    · split at h
      · rename_i t ht
        unfold subF.tabQ at ht
        split at ht
        · rename_i x xp
          split at ht
          · rename_i c
            rw [post_bind] at h
            obtain ⟨t1, t2⟩ := I.P.tbS _ _ ht
            refine ev_tab (C := ic.ctx G lv) (EV.mono (S.E I h) fun y ρ1 q => ?_) t1 hp (glB_ok c.1) (dbgB_ok c.2.1).1
            split at q
            · rename_i z hy
              obtain ⟨o, ho, q⟩ := post_lift q
              obtain ⟨w, hw, rfl⟩ := map_some ho
              exact ⟨z, w, hy, t2 _ _ hw, q⟩
            · exact q.elim
          · cases ht
        · cases ht
      · rw [post_bind] at h
        refine ev_ix (EV.mono (S.E I h) fun x ρ1 q => ?_) hp
        rw [post_bind] at q
        refine EV.mono (S.E I q) fun y ρ2 q => ?_
        obtain ⟨o, ho, q⟩ := post_lift q
        obtain ⟨w, hw, rfl⟩ := map_some ho
        exact ⟨w, ixF_ok hw, q⟩
theorem msF_ok {m a : Str} {ds : List D} {z : RV} (h : msF m a ds = some z) : (m = "join" ∧ MS "str.join" a ds z) ∨ (m = "split" ∧ MS "str.split" a ds z) ∨ (m = "partition" ∧ MS "str.partition" a ds z) := by
  unfold msF at h
  split at h
  · rename_i e
    refine .inl ⟨e, ?_⟩
    split at h
    · split at h
      · rename_i ys hy
        split at h
        · rename_i c
          cases h
          rw [strsQ_ok hy]
          exact .join (Nat.le_trans c (by decide))
        · cases h
      · cases h
    · split at h
      · rename_i ys hy
        split at h
        · rename_i c
          cases h
          rw [strsQ_ok hy]
          exact .joinT (Nat.le_trans c (by decide))
        · cases h
      · cases h
    · cases h
  split at h
  · rename_i e
    refine .inr (.inl ⟨e, ?_⟩)
    split at h
    · split at h
      · rename_i c
        cases h
        exact .split c.1 (sz c.2)
      · cases h
    · cases h
  split at h
  · rename_i e
    refine .inr (.inr ⟨e, ?_⟩)
    split at h
    · split at h
      · rename_i c
        cases h
        exact .partition c.1 (sz c.2)
      · cases h
    · cases h
  cases h
theorem lookup_mem' {q g : Str} : ∀ {t : List (Str × Str)}, t.lookup q = some g → (q, g) ∈ t
  | [], h => by cases h
  | (a, b) :: t, h => by
    rw [List.lookup_cons] at h
    split at h
    · rename_i e
      have e' : q = a := by simpa using e
      cases h
      rw [e']
      exact List.mem_cons_self
    · exact List.mem_cons_of_mem _ (lookup_mem' h)
theorem cons_isEmpty {es : List Expr} (h : (!es.isEmpty) = true) : ∃ e r, es = e :: r := by
  cases es with
  | nil => cases h
  | cons e r => exact ⟨e, r, rfl⟩
theorem cllF_ok (S : Snd r) (I : IcOk G lv ic) {fe : Expr} {es : List Expr} {kws : List Keyword} {pos : Pos} (h : (cllF r ic fe es kws pos ρ).post k Ξ) : EV (ic.ctx G lv) (.Call fe es kws pos) ρ k Ξ := by
  unfold cllF at h
  split at h
  ·
    rename_i f p
    obtain ⟨c, h⟩ := post_gate h
    simp only [Bool.and_eq_true] at c
    obtain ⟨⟨⟨c1, c2⟩, c3⟩, c4⟩ := c
    obtain ⟨e, rr, ee⟩ := cons_isEmpty c4
    split at h
    · rename_i fd hf
      obtain ⟨c5, h⟩ := post_gate h
      have hsu := of_decide_eq_true c5
      rw [ee] at h c3 ⊢
      split at h
      · exact ev_thaw (callF_ok S I hf ⟨_, rfl⟩ (thawE_ok h) hsu c2 c1 c3)
      · exact callF_ok S I hf ⟨_, rfl⟩ h hsu c2 c1 c3
    · obtain ⟨c5, h⟩ := post_gate h
      split at h
      · rename_i ef
        rw [ef] at c2 c5 ⊢
        exact isiF_ok S I h c2 c5
      · rw [ee] at h c3 ⊢
        obtain ⟨n1, n2⟩ := noStar_cons c3
        cases hct : isCT f with
        | true =>
          rw [hct] at h
          simp only at h
          rw [post_bind] at h
          have hb : bootBuiltins f = some (.type (ctN f)) := by
            unfold isCT at hct
            simp only [Bool.or_eq_true, decide_eq_true_eq] at hct
            rcases hct with ((rfl | rfl) | rfl) | rfl <;> decide +kernel
          refine ev_ct (C := ic.ctx G lv) (id := ctN f) (I.P.fre _ c5) (EVs.mono (dsF_ok S I h) fun ds ρ1 q => ?_) hb (glB_ok c2) (dbgB_ok c1).2.2 (dbgB_ok c1).1 (starEach_cons n1) (fun env => starEach_any n2 pos env)
          obtain ⟨o, ho, q⟩ := post_lift q
          obtain ⟨w, hw, rfl⟩ := map_some ho
          exact ⟨w, (ctF_ok hw).1, q⟩
        | false =>
          rw [hct] at h
          simp only at h
          obtain ⟨c6, h⟩ := post_gate h
          simp only [Bool.and_eq_true, decide_eq_true_eq] at c6
          rw [post_bind] at h
          have hb : bootBuiltins f = some (.builtin (cbN f)) := by
            have c7 := c6.1
            unfold isCB at c7
            simp only [Bool.or_eq_true, decide_eq_true_eq] at c7
            rcases c7 with (((((rfl | rfl) | rfl) | rfl) | rfl) | rfl) | rfl <;> decide +kernel
          refine ev_cb (C := ic.ctx G lv) (id := cbN f) (I.P.fre _ c5) (EVs.mono (dsF_ok S I h) fun ds ρ1 q => ?_) c6.2 hb (glB_ok c2) (dbgB_ok c1).2.2 (dbgB_ok c1).1 (starEach_cons n1) (fun env => starEach_any n2 pos env)
          obtain ⟨o, ho, q⟩ := post_lift q
          obtain ⟨w, hw, rfl⟩ := map_some ho
          exact ⟨w, (cbF_ok hw).1, q⟩
  ·
    rename_i x xp ie ip
    obtain ⟨c, h⟩ := post_gate h
    simp only [Bool.and_eq_true, decide_eq_true_eq] at c
    obtain ⟨⟨⟨⟨⟨⟨c1, c2⟩, c3⟩, c4⟩, c5⟩, c6⟩, c7⟩ := c
    obtain ⟨e, rr, ee⟩ := cons_isEmpty c5
    split at h
    · rename_i t ht
      obtain ⟨t1, t2⟩ := I.P.tbF _ _ ht
      rw [ee] at h c4 ⊢
      obtain ⟨n1, n2⟩ := noStar_cons c4
      obtain ⟨ca, h⟩ := post_gate h
      rw [post_bind] at h
      have hq := S.E I h
      refine ev_callT (p2 := pos) (C := ic.ctx G lv) (EV.mono hq fun y ρ1 q => ?_) t1 c1 (plainIx_all c6) (glB_ok c3) (dbgB_ok c2).1 (fun env => by rfl) (starEach_cons n1) (fun env => starEach_any n2 pos env)
      split at q
      · rename_i z hy
        split at q
        · rename_i g hg
          have hsome := List.all_eq_true.mp ca (z, g) (lookup_mem' hg)
          obtain ⟨fd, hf⟩ := Option.isSome_iff_exists.mp hsome
          unfold callF at q
          rw [post_bind] at q
          refine ⟨z, g, _, S_of ic.Φ g, hy, t2 _ _ hg, I.fns g fd hf fd.dv.length, EVA.mono (asF_ok S I (tabMu ic.P t) 0 q) fun as ρ2 q => ?_⟩
          rw [List.drop_length]
          unfold S_of
          split at q
          · rename_i e1
            show (ic.Φ g _ []).post _ _
            rw [e1]
            exact q
          · rename_i e1
            show (ic.Φ g _ []).post _ _
            rw [e1]
            exact q
          · exact q.elim
        · exact q.elim
      · exact q.elim
    · exact h.elim
  ·
    rename_i o m apos
    obtain ⟨hline, h⟩ := post_gate h
    split at h
    · rename_i i hl
      obtain ⟨x, p, ee, hd, hv, hsl, o1, hr⟩ := lentS_ok hl
      rw [ee]
      split at h
      · rename_i os0 hr0
        split at h
        · rename_i em
          rw [em]
          split at h
          · rename_i e
            obtain ⟨c1, h⟩ := post_gate h
            rw [post_bind] at h
            have hs1 := starB_f c1
            refine ev_append (C := ic.ctx G lv) (EV.mono (S.E I h) fun v ρ1 q => ?_) ⟨os0, hr0⟩ (slot_ok hsl) (visB_ok hv) (dbgB_ok hd).1 (dbgB_ok hd).2.1 (fun _ => rfl) (fun env => by rw [star1 hs1]; rfl) hline (fun env => starEach_cons hs1 env) (fun _ => rfl)
            split at q
            · rename_i os hr2
              obtain ⟨q1, q2⟩ := post_gate q
              exact ⟨os, hr2, of_decide_eq_true q1, q2⟩
            · exact q.elim
          · exact h.elim
        · split at h
          · rename_i em
            rw [em]
            split at h
            · rename_i e
              obtain ⟨c1, h⟩ := post_gate h
              rw [post_bind] at h
              have hs1 := starB_f c1
              refine ev_extend (C := ic.ctx G lv) (EV.mono (S.E I h) fun v ρ1 q => ?_) ⟨os0, hr0⟩ (slot_ok hsl) (visB_ok hv) (dbgB_ok hd).1 (dbgB_ok hd).2.1 (fun _ => rfl) (fun env => by rw [star1 hs1]; rfl) hline (fun env => starEach_cons hs1 env) (fun _ => rfl)
              split at q
              · rename_i os ds hr2 hv2
                obtain ⟨q1, q2⟩ := post_gate q
                exact ⟨os, ds, hr2, hv2, of_decide_eq_true q1, q2⟩
              · exact q.elim
            · exact h.elim
          · split at h
            · rename_i em
              rw [em]
              split at h
              · split at h
                · rename_i d hlast
                  exact ev_pop (C := ic.ctx G lv) hr0 hlast h (slot_ok hsl) (visB_ok hv) (dbgB_ok hd).1 (dbgB_ok hd).2.1 (fun _ => rfl) hline
                · exact h.elim
              · exact h.elim
            · exact h.elim
      · exact h.elim
    · -- a text's
      obtain ⟨c, h⟩ := post_gate h
      simp only [Bool.and_eq_true, decide_eq_true_eq] at c
      obtain ⟨⟨⟨⟨c1, c2⟩, c3⟩, c4⟩, c5⟩ := c
      obtain ⟨e, rr, ee⟩ := cons_isEmpty c2
      rw [ee] at h c1 c3 ⊢
      obtain ⟨n1, n2⟩ := noStar_cons c1
      rw [post_bind] at h
      have hq := S.E I h
      have gen : ∀ (id : String), (∀ (a : Str) (ds : List D) (z : RV), msF m a ds = some z → MS id a ds z) → Slot "str" m id → typeOf (.builtin id) = pure (.type "method_descriptor") → EV (ic.ctx G lv) (.Call (.Attribute o m apos) (e :: rr) [] pos) ρ k Ξ := by
        intro id hm slot hty
        refine ev_ms slot hty (EV.mono hq fun v ρ1 q => ?_) (baseB_ok c4 m) (fun env => few_ok c1 c3 pos env) hline (starEach_cons n1) (fun env => starEach_any n2 pos env)
        split at q
        · rename_i a hv
          rw [post_bind] at q
          refine ⟨a, hv, EVs.mono (dsF_ok S I q) fun ds ρ2 q => ?_⟩
          obtain ⟨o2, ho2, q⟩ := post_lift q
          obtain ⟨w, hw2, rfl⟩ := map_some ho2
          exact ⟨w, hm a ds w hw2, q⟩
        · exact q.elim
      by_cases m1 : m = "join"
      · subst m1
        exact gen "str.join" (fun a ds z e => by rcases msF_ok e with ⟨_, h⟩ | ⟨z, _⟩ | ⟨z, _⟩ <;> first | exact h | exact absurd z (by decide)) PySem.F.slot_str_join PySem.F.type_str_join
      by_cases m2 : m = "split"
      · subst m2
        exact gen "str.split" (fun a ds z e => by rcases msF_ok e with ⟨z, _⟩ | ⟨_, h⟩ | ⟨z, _⟩ <;> first | exact h | exact absurd z (by decide)) PySem.F.slot_str_split PySem.F.type_str_split
      by_cases m3 : m = "partition"
      · subst m3
        exact gen "str.partition" (fun a ds z e => by rcases msF_ok e with ⟨z, _⟩ | ⟨z, _⟩ | ⟨_, h⟩ <;> first | exact h | exact absurd z (by decide)) PySem.F.slot_str_partition PySem.F.type_str_partition
      exfalso
      unfold isMS at c5
      simp only [Bool.or_eq_true, decide_eq_true_eq] at c5
      rcases c5 with (c5 | c5) | c5
      · exact m1 c5
      · exact m2 c5
      · exact m3 c5
  · exact h.elim
theorem cmpE_ev (S : Snd r) (I : IcOk G lv ic) {l : Expr} {ops : List CmpOp} {cs : List Expr} {pos : Pos} (h : (cmpE r ic l ops cs ρ).post (fun b ρ1 => k (.fz (.bl b)) ρ1) Ξ) : EV (ic.ctx G lv) (.Compare l ops cs pos) ρ k Ξ := by
  unfold cmpE at h
  split at h
  · obtain ⟨c, h⟩ := post_gate h
    split at h
    · rename_i ks b hk
      obtain ⟨x, p, ec, hg, hd, hl, hop⟩ := keyQ_ok hk
      rw [ec]
      rw [post_bind] at h
      refine ev_inK (C := ic.ctx G lv) hop (EV.mono (S.E I h) fun o ρ1 q => ?_) (I.P.tbK _ _ hl) (glB_ok hg) (dbgB_ok hd).1
      split at q
      · rename_i z hz
        exact ⟨z, hz, q⟩
      · exact q.elim
    · rw [post_bind] at h
      refine ev_cmp (EV.mono (S.E I h) fun x ρ1 q => ?_) (by simpa using c)
      rw [post_bind] at q
      refine EV.mono (S.E I q) fun y ρ2 q => ?_
      obtain ⟨b, hb, q⟩ := post_lift q
      exact ⟨b, cmpF_ok hb, q⟩
  · obtain ⟨c, h⟩ := post_gate h
    rw [post_bind] at h
    refine ev_chain (EV.mono (S.E I h) fun x ρ1 q => ?_) (by simpa using c)
    rw [post_bind] at q
    refine EV.mono (S.E I q) fun y ρ2 q => ?_
    split at q
    · rename_i hb
      rw [post_bind] at q
      refine ⟨true, cmpF_ok hb, fun _ => EV.mono (S.E I q) fun z ρ3 q => ?_, fun z => absurd z (by decide)⟩
      obtain ⟨b, hb, q⟩ := post_lift q
      exact ⟨b, cmpF_ok hb, q⟩
    · rename_i hb
      exact ⟨false, cmpF_ok hb, fun z => absurd z (by decide), fun _ => q⟩
    · exact q.elim
  · exact h.elim
theorem cmpE_et (S : Snd r) (I : IcOk G lv ic) {l : Expr} {ops : List CmpOp} {cs : List Expr} {pos : Pos} {kb : Bool → Rho → Prop} (h : (cmpE r ic l ops cs ρ).post kb Ξ) : ET (ic.ctx G lv) (.Compare l ops cs pos) ρ kb Ξ := by
  unfold cmpE at h
  split at h
  · obtain ⟨c, h⟩ := post_gate h
    split at h
    · rename_i ks b hk
      obtain ⟨x, p, ec, hg, hd, hl, hop⟩ := keyQ_ok hk
      rw [ec]
      rw [post_bind] at h
      refine et_inK (C := ic.ctx G lv) hop (EV.mono (S.E I h) fun o ρ1 q => ?_) (I.P.tbK _ _ hl) (glB_ok hg) (dbgB_ok hd).1
      split at q
      · rename_i z hz
        exact ⟨z, hz, q⟩
      · exact q.elim
    · rw [post_bind] at h
      refine et_cmp (EV.mono (S.E I h) fun x ρ1 q => ?_) (by simpa using c)
      rw [post_bind] at q
      refine EV.mono (S.E I q) fun y ρ2 q => ?_
      obtain ⟨b, hb, q⟩ := post_lift q
      exact ⟨b, cmpF_ok hb, q⟩
  · obtain ⟨c, h⟩ := post_gate h
    rw [post_bind] at h
    refine et_chain (EV.mono (S.E I h) fun x ρ1 q => ?_) (by simpa using c)
    rw [post_bind] at q
    refine EV.mono (S.E I q) fun y ρ2 q => ?_
    split at q
    · rename_i hb
      rw [post_bind] at q
      refine ⟨true, cmpF_ok hb, fun _ => EV.mono (S.E I q) fun z ρ3 q => ?_, fun z => absurd z (by decide)⟩
      obtain ⟨b, hb, q⟩ := post_lift q
      exact ⟨b, cmpF_ok hb, q⟩
    · rename_i hb
      exact ⟨false, cmpF_ok hb, fun z => absurd z (by decide), fun _ => q⟩
    · exact q.elim
  · exact h.elim
theorem andV_ok (S : Snd r) (I : IcOk G lv ic) {pos : Pos} : ∀ {es : List Expr} {ρ : Rho}, (andV r ic es ρ).post k Ξ → EV (ic.ctx G lv) (.BoolOp .And es pos) ρ k Ξ
  | [], _, h => h.elim
  | [e], _, h => ev_one (S.E I h)
  | e :: e2 :: es, ρ, h => by
    unfold andV at h
    rw [post_bind] at h
    refine ev_and (EV.mono (S.E I h) fun o ρ1 q => ?_)
    split at q
    · rename_i ho
      exact ⟨true, ho, fun _ => andV_ok S I q, fun z => absurd z (by decide)⟩
    · rename_i ho
      exact ⟨false, ho, fun z => absurd z (by decide), fun _ => q⟩
    · exact q.elim
theorem orV_ok (S : Snd r) (I : IcOk G lv ic) {pos : Pos} : ∀ {es : List Expr} {ρ : Rho}, (orV r ic es ρ).post k Ξ → EV (ic.ctx G lv) (.BoolOp .Or es pos) ρ k Ξ
  | [], _, h => h.elim
  | [e], _, h => ev_one (S.E I h)
  | e :: e2 :: es, ρ, h => by
    unfold orV at h
    rw [post_bind] at h
    refine ev_or (EV.mono (S.E I h) fun o ρ1 q => ?_)
    split at q
    · rename_i ho
      exact ⟨true, ho, fun _ => q, fun z => absurd z (by decide)⟩
    · rename_i ho
      exact ⟨false, ho, fun z => absurd z (by decide), fun _ => orV_ok S I q⟩
    · exact q.elim
theorem andF_ok (S : Snd r) (I : IcOk G lv ic) {pos : Pos} {kb : Bool → Rho → Prop} : ∀ {es : List Expr} {ρ : Rho}, (andF r ic es ρ).post kb Ξ → EW (ic.ctx G lv) (.BoolOp .And es pos) ρ kb Ξ
  | [], _, h => h.elim
  | [e], _, h => ew_and1 (S.T I h)
  | e :: e2 :: es, ρ, h => by
    unfold andF at h
    rw [post_bind] at h
    refine ew_and (ET.imp (S.T I h) fun b ρ1 q => ?_)
    cases b with
    | true => exact ⟨fun _ => andF_ok S I q, fun z => absurd z (by decide)⟩
    | false => exact ⟨fun z => absurd z (by decide), fun _ => q⟩
theorem orF_ok (S : Snd r) (I : IcOk G lv ic) {pos : Pos} {kb : Bool → Rho → Prop} : ∀ {es : List Expr} {ρ : Rho}, (orF r ic es ρ).post kb Ξ → EW (ic.ctx G lv) (.BoolOp .Or es pos) ρ kb Ξ
  | [], _, h => h.elim
  | [e], _, h => ew_or1 (S.T I h)
  | e :: e2 :: es, ρ, h => by
    unfold orF at h
    rw [post_bind] at h
    refine ew_or (ET.imp (S.T I h) fun b ρ1 q => ?_)
    cases b with
    | true => exact ⟨fun _ => q, fun z => absurd z (by decide)⟩
    | false => exact ⟨fun z => absurd z (by decide), fun _ => orF_ok S I q⟩
theorem evE_ok (S : Snd r) (I : IcOk G lv ic) {e : Expr} (h : (evE r ic e ρ).post k Ξ) : EV (ic.ctx G lv) e ρ k Ξ := by
  unfold evE at h
  split at h
  · exact nameE_ok I h
  · split at h
    · exact ev_non h
    · exact ev_bl h
    · exact ev_int h
    · exact ev_str h
    · exact h.elim
  · rw [post_bind] at h
    refine ev_tup (EVs.mono (dsF_ok S I h) fun ds ρ1 q => ?_)
    obtain ⟨c, q⟩ := post_gate q
    exact ⟨sz (of_decide_eq_true c), q⟩
  · rw [post_bind] at h
    refine ev_lst (EVs.mono (dsF_ok S I h) fun ds ρ1 q => ?_)
    obtain ⟨c, q⟩ := post_gate q
    exact ⟨sz (of_decide_eq_true c), q⟩
  · exact ev_dic h
  · rw [post_bind] at h
    refine ev_bin (EV.mono (S.E I h) fun x ρ1 q => ?_)
    rw [post_bind] at q
    refine EV.mono (S.E I q) fun y ρ2 q => ?_
    obtain ⟨o, ho, q⟩ := post_lift q
    obtain ⟨w, hw, rfl⟩ := map_some ho
    exact ⟨w, bopF_ok hw, q⟩
  · rw [post_bind] at h
    refine ev_neg (EV.mono (S.E I h) fun x ρ1 q => ?_)
    split at q
    · rename_i i hx
      exact ⟨i, hx, q⟩
    · exact q.elim
  · rw [post_bind] at h
    refine ev_not (EV.mono (S.E I h) fun x ρ1 q => ?_)
    split at q
    · rename_i i hx
      exact ⟨i, hx, q⟩
    · exact q.elim
  · exact andV_ok S I h
  · exact orV_ok S I h
  · rw [post_bind] at h
    refine ev_ifExp (ET.imp (S.T I h) fun b ρ1 q => ?_)
    cases b with
    | true => exact ⟨fun _ => S.E I q, fun z => absurd z (by decide)⟩
    | false => exact ⟨fun z => absurd z (by decide), fun _ => S.E I q⟩
  · split at h
    · rw [post_bind] at h
      refine ev_thaw (cmpE_ev S I (post_mono (thawT_ok h) (fun b _ q => ?_) fun _ _ z => z))
      exact ⟨.bl b, rfl, rfl, q⟩
    · rw [post_bind] at h
      exact cmpE_ev S I h
  · exact subF_ok S I h
  · rw [post_bind] at h
    exact lcF_ok S I h
  · split at h
    · exact ev_thaw (cllF_ok S I (thawE_ok h))
    · exact cllF_ok S I h
  · exact h.elim
theorem valB_ok {e : Expr} (h : valB e = true) (env : Env) (whole : Sem Value) : isTrue e env whole = (do let v ← whole; standAt e.pos; holding [v] (truthy v)) := by
  cases e with
  | UnaryOp op a p => cases op <;> first | rfl | (cases h; done)
  | _ => first | rfl | (cases h; done)
theorem evT_ok (S : Snd r) (I : IcOk G lv ic) {e : Expr} {kb : Bool → Rho → Prop} (h : (evT r ic e ρ).post kb Ξ) : ET (ic.ctx G lv) e ρ kb Ξ := by
  unfold evT at h
  split at h
  · exact (andF_ok S I h).t
  · exact (orF_ok S I h).t
  · rw [post_bind] at h
    exact et_not (S.T I h)
  · split at h
    · exact et_thaw (cmpE_et S I (thawT_ok h))
    · exact cmpE_et S I h
  · exact h.elim
  · have h1 := thawT_ok h
    rw [post_bind] at h1
    refine et_thaw (et_val (EV.mono (S.E I h1) fun o ρ1 q => ?_) fun _ _ => rfl)
    obtain ⟨b, hb, q⟩ := post_lift q
    exact ⟨b, truF_ok hb, q⟩
  · obtain ⟨c, h⟩ := post_gate h
    rw [post_bind] at h
    refine et_val (EV.mono (S.E I h) fun o ρ1 q => ?_) (valB_ok c)
    obtain ⟨b, hb, q⟩ := post_lift q
    exact ⟨b, truF_ok hb, q⟩
end
end Fr

set_option Elab.async false
set_option linter.all false
set_option maxRecDepth 100000
set_option maxHeartbeats 4000000
/-! In5: statements, defs, the whole text. -/
namespace Fr
open PySem PySem.Spec PyProof.Rows L2
section
variable {C : Ctx} {P : List Nat} {ρ : Rho} {Φ : Fl → Rho → Prop}
end
section
variable {r : Ops} {G : Gx} {lv : Nat} {ic : IC} {ρ : Rho} {Φ : Fl → Rho → Prop}
theorem compB_ok {e : Expr} (h : compB e = false) (t : Option Expr) (n : Nat) (env : Env) : swapsWith e t n env = pure false := by
  cases e <;> first | rfl | (cases h; done)
theorem compB_sole {e : Expr} (h : compB e = false) (t : Expr) (n : Nat) (env : Env) : swapsWithSole [t] e n env = pure false := compB_ok h (some t) n env
theorem plainTg_ok {es : List Expr} {kk : Nat} {p : Pos} {e : Expr} (h : plainTg (.Tuple es kk p) e = true) (env : Env) : swappedStores [.Tuple es kk p] e env = pure none := by
  cases e <;> first | rfl | (cases h; done)
theorem subTg_ok {a b : Expr} {p : Pos} (e : Expr) (env : Env) : swappedStores [.Subscript a b p] e env = pure none := by
  cases e <;> rfl
theorem forL_ok (S : Snd r) (I : IcOk G lv ic) {tg : Expr} {body : List Stmt} {ds : List D} {ρ1 : Rho} (h : postS (forL (fun d ρ => match tgA ic 12 tg d ρ with
    | some ρ2 => r.B ic body ρ2
    | none => .bad) ds ρ1) Φ) : ForAsk (ic.ctx G lv) ic.pin tg (tgS ic 12 tg) body [] Φ ds ρ1 := by
  refine ⟨fun i ρ' => postS (forL (fun d ρ => match tgA ic 12 tg d ρ with
    | some ρ2 => r.B ic body ρ2
    | none => .bad) (ds.drop i) ρ') Φ, by simpa [wipeR] using h, ?_, ?_⟩
  · intro i d ρ' hd q
    have hdr : ds.drop i = d :: ds.drop (i + 1) := by
      obtain ⟨hi, e⟩ := List.getElem?_eq_some_iff.mp hd
      rw [List.drop_eq_getElem_cons hi, e]
    rw [hdr] at q
    unfold forL at q
    cases e2 : tgA ic 12 tg d ρ' with
    | none =>
      rw [e2] at q
      exact q.elim
    | some ρ2 =>
      rw [e2] at q
      refine ((tgA_ok (G := G) (lv := lv) (ic := ic) 12).1 e2 (S.B I ?_)).1
      cases e3 : r.B ic body ρ2 with
      | bad =>
        simp only [e3] at q
        exact q.elim
      | exc c ρ3 =>
        simp only [e3] at q
        exact q
      | ok fw ρ3 =>
        simp only [e3] at q
        cases fw <;> exact q
  · intro ρ' q
    rw [List.drop_length] at q
    exact q
theorem allA_post {α : Type} {f : Addr → Res α} {k : α → Rho → Prop} {Ξ : Exc → Rho → Prop} (h : (allA f).post k Ξ) (a : Addr) : (f a).post k Ξ := by
  unfold allA at h
  split at h
  · rename_i e
    rw [e a]
    exact h
  · exact h.elim
theorem plainS_ok {ie : Expr} (h : evS.plainI ie = true) {x : Str} {p p1 : Pos} (env : Env) (v : Value) : assign (.Subscript (.Name x p) ie p1) env v = (do
      let ov ← holding [v] (eval (.Name x p) env)
      let iv ← holding [v, ov] (eval ie env)
      standAt p1
      holding [v, ov, iv] (setItem ov iv v)
      release [v, ov, iv] []) := by
  cases ie <;> first | rfl | (cases h; done)
theorem pin_of {i : Nat} (h : (!ic.pin.contains i) = true) : i ∉ ic.pin := by
  intro z
  rw [List.contains_iff_mem.mpr z] at h
  cases h
theorem mem_pin {x : Nat} {l : List Nat} (h : (l.all fun j => !ic.pin.contains j) = true) : ∀ j ∈ l, j ∉ ic.pin := fun j hj => pin_of (List.all_eq_true.mp h j hj)
theorem evS_ok (S : Snd r) (I : IcOk G lv ic) {st : Stmt} (h : postS (evS r ic st ρ) Φ) : S1 (ic.ctx G lv) ic.pin st ρ Φ := by
  unfold evS at h
  unfold postS at h
  split at h
  ·
    rename_i e p
    split at h
    · rename_i i hi
      unfold evS.retS at hi
      split at hi
      · rename_i j hl
        split at hi
        · cases hi
        · cases hi
          obtain ⟨x, xp, ee, hd, hv, hsl, o, hr⟩ := lentS_ok hl
          rw [ee]
          split at h
          · rename_i o2 hr2
            exact s_ret (ev_mov (C := ic.ctx G lv) hr2 h (slot_ok hsl) (visB_ok hv) (dbgB_ok hd).1 (dbgB_ok hd).2.1)
          · exact h.elim
      · cases hi
    · rw [post_bind] at h
      exact s_ret (S.E I h)
  · exact s_retN h
  · exact s_pass h
  · exact s_brk h
  · exact s_cont h
  · obtain ⟨c, h⟩ := post_gate h
    rw [post_bind] at h
    exact s_expr (S.E I h) (compB_ok (by simpa using c) _ _)
  · rw [post_bind] at h
    refine s_if (ET.imp (S.T I h) fun b ρ1 q => ?_)
    cases b with
    | true => exact ⟨fun _ => S.B I q, fun z => absurd z (by decide)⟩
    | false => exact ⟨fun z => absurd z (by decide), fun _ => S.B I q⟩
  ·
    obtain ⟨c, h⟩ := post_gate h
    simp only [Bool.and_eq_true, decide_eq_true_eq] at c
    rw [post_bind] at h
    exact s_for (C := ic.ctx G lv) [] (itF_ok S I (post_mono h (fun ds ρ1 q => forL_ok S I q) fun _ _ z => z)) (mem_pin (x := 0) c.2) c.1.1 (setB_ok (by simpa using c.1.2))
  ·
    rename_i c body p
    refine s_while (fun m ρ' => postS (whileL (r.T ic c) (r.B ic body) m ρ') Φ) 1000000 h fun m ρ' q => ?_
    cases m with
    | zero => exact q.elim
    | succ m =>
      unfold whileL at q
      refine S.T I ?_
      cases e1 : r.T ic c ρ' with
      | bad => rw [e1] at q; exact q.elim
      | exc cc ρ1 => rw [e1] at q; exact q
      | ok b ρ1 =>
        rw [e1] at q
        cases b with
        | false => exact And.intro (fun z => absurd z (by decide)) (fun _ => q)
        | true =>
          refine And.intro (fun _ => S.B I ?_) (fun z => absurd z (by decide))
          cases e2 : r.B ic body ρ1 with
          | bad =>
            simp only [e2] at q
            exact q.elim
          | exc cc ρ2 =>
            simp only [e2] at q
            exact q
          | ok fw ρ2 =>
            simp only [e2] at q
            cases fw with
            | nx => exact ⟨m, Nat.lt_succ_self m, q⟩
            | cont => exact ⟨m, Nat.lt_succ_self m, q⟩
            | brk => exact q
            | ret o => exact q
  · -- x = e
    rename_i x py e spos
    split at h
    · rename_i i hi
      obtain ⟨c, h⟩ := post_gate h
      simp only [Bool.and_eq_true] at c
      have hst := c.2
      unfold IC.stoB at hst
      simp only [Bool.and_eq_true, Bool.or_eq_true, decide_eq_true_eq] at hst
      split at h
      · rename_i elt gens scope pos
        obtain ⟨c2, h⟩ := post_gate h
        simp only [Bool.and_eq_true, decide_eq_true_eq] at c2
        obtain ⟨⟨⟨⟨ct, cl⟩, ck⟩, cp⟩, ca⟩ := c2
        rw [post_bind] at h
        obtain ⟨tg, iter, ifs, eg, hsu, hsb, hbk, hit⟩ := lcF_inv h
        rw [eg]
        refine s_setLc (C := ic.ctx G lv) (sl := tgS ic 12 tg) (namesOf ic (tgS ic 12 tg)) (itF_ok S I (post_mono hit (fun ds ρ1 q => ?_) fun _ _ z => z)) (pin_of c.1) (slot_ok hi) cl ck cp (by simpa using ca) (fun j hj => by rw [own_map]; exact hj) hbk ct hsu (setB_ok hsb)
        rcases q with ⟨hl, ⟨_, q⟩ | ⟨z, _⟩⟩
        · have := lcask_ok (kk := fun acc ρ' => Φ .nx (ρ'.set i (some (.lst acc)))) (Ξ0 := fun c ρ' => Φ (.exc c) ρ') S I hl q
          rw [own_map]
          exact this
        · rw [ct] at z; cases z
      · obtain ⟨c2, h⟩ := post_gate h
        rw [post_bind] at h
        exact s_set (C := ic.ctx G lv) (S.E I h) (pin_of c.1) (slot_ok hi) (locB_ok hst.1) hst.2 (fun env _ => compB_ok (by simpa using c2) _ _ env)
    · exact h.elim
  · -- x[i] = e
    rename_i x p ie p1 e spos
    split at h
    · rename_i i hl
      obtain ⟨x', p', ee, hd, hv, hsl, o, hr⟩ := lentS_ok hl
      cases ee
      obtain ⟨c, h⟩ := post_gate h
      simp only [Bool.and_eq_true] at c
      rw [post_bind] at h
      refine s_setix (C := ic.ctx G lv) (i := i) (EV.mono (S.E I h) fun v ρ1 q => ?_) (slot_ok hsl) (visB_ok hv) (dbgB_ok hd).1 (dbgB_ok hd).2.1 (plainS_ok c.2) (fun env _ => compB_sole (by simpa using c.1) _ _ env) (fun env _ => subTg_ok e env) (fun env => rfl)
      split at q
      · rename_i o0 hr0
        refine ⟨⟨o0, hr0⟩, ?_⟩
        rw [post_bind] at q
        refine EV.mono (S.E I q) fun y ρ2 q => ?_
        split at q
        · rename_i os z hr2 hy
          split at q
          · rename_i j hj
            exact ⟨os, z, j, hr2, hy, hj, q⟩
          · exact q.elim
        · exact q.elim
      · exact q.elim
    · exact h.elim
  · -- a, b = e
    rename_i es kk p e spos
    obtain ⟨c, h⟩ := post_gate h
    simp only [Bool.and_eq_true, decide_eq_true_eq] at c
    rw [post_bind] at h
    refine s_asg (C := ic.ctx G lv) (EV.mono (S.E I h) fun o ρ1 q => ?_) (mem_pin (x := 0) c.2) c.1.1.1 (fun env _ => compB_sole (by simpa using c.1.1.2) _ _ env) (fun env _ => plainTg_ok c.1.2 env) (fun env => rfl)
    split at q
    · rename_i ρ2 h2
      exact ((tgA_ok (G := G) (lv := lv) (ic := ic) 12).1 h2 q).1
    · exact q.elim
  ·
    rename_i x xp m j p2 p3 pos
    obtain ⟨c, h⟩ := post_gate h
    simp only [Bool.and_eq_true, decide_eq_true_eq] at c
    exact s_raise (C := ic.ctx G lv) (I.P.ecs _ c.1.1.2) h c.1.1.1 (glB_ok c.1.2) (dbgB_ok c.2).1
  ·
    rename_i body x xp nm b0 hb hp tp
    obtain ⟨c0, h⟩ := post_gate h
    have hsu := of_decide_eq_true c0
    cases eb : r.B ic body ρ with
    | bad => rw [eb] at h; exact h.elim
    | ok fw ρ1 =>
      rw [eb] at h
      refine s_thru (C := ic.ctx G lv) (S.B I ?_) hsu
      unfold postS
      rw [eb]
      cases fw <;> exact h
    | exc cc ρ1 =>
      rw [eb] at h
      obtain ⟨c, h⟩ := post_gate h
      simp only [Bool.and_eq_true] at c
      obtain ⟨⟨ct, cg⟩, cd⟩ := c
      have hB : ∀ {Ψ : Fl → Rho → Prop}, Ψ (.exc cc) ρ1 → SV (ic.ctx G lv) ic.pin body ρ Ψ := fun {Ψ} q => S.B I (by unfold postS; rw [eb]; exact q)
      split at h
      · rename_i n
        split at h
        · rename_i i hi
          obtain ⟨c2, h⟩ := post_gate h
          simp only [Bool.and_eq_true, decide_eq_true_eq] at c2
          split at h
          · rename_i hh
            have hd := I.P.hnd _ _ _ hh
            refine s_try_as (C := ic.ctx G lv) (hB ?_) (pin_of c2.1) (slot_ok hi) c2.2 (let ⟨_, cx, _, g, _⟩ := hd; ⟨cx, g⟩) (glB_ok cg) (dbgB_ok cd).1 ct hsu
            refine .inl ⟨hd, fun a => ?_⟩
            have h1 := allA_post h a
            refine S.B (I.inSu a cc) ?_
            unfold postS
            cases e3 : r.B { ic with su := some (a, cc) } (b0 :: hb) (ρ1.set i (some (.fz (.exn a)))) with
            | bad => simp only [e3] at h1; exact h1.elim
            | exc c3 ρ3 => simp only [e3] at h1; exact h1.elim
            | ok fw ρ3 =>
              simp only [e3] at h1
              cases fw <;> exact h1
          · rename_i hh
            have hd := I.P.hnd _ _ _ hh
            exact s_try_as (C := ic.ctx G lv) (hB (.inr ⟨hd, h⟩)) (pin_of c2.1) (slot_ok hi) c2.2 (let ⟨_, cx, _, g, _⟩ := hd; ⟨cx, g⟩) (glB_ok cg) (dbgB_ok cd).1 ct hsu
          · exact h.elim
        · exact h.elim
      · split at h
        · rename_i hh
          have hd := I.P.hnd _ _ _ hh
          refine s_try (C := ic.ctx G lv) (hB ?_) (let ⟨_, cx, _, g, _⟩ := hd; ⟨cx, g⟩) (glB_ok cg) (dbgB_ok cd).1 ct hsu
          refine .inl ⟨hd, fun a => ?_⟩
          have h1 := allA_post h a
          refine S.B (I.inSu a cc) ?_
          unfold postS
          cases e3 : r.B { ic with su := some (a, cc) } (b0 :: hb) ρ1 with
          | bad => simp only [e3] at h1; exact h1.elim
          | exc c3 ρ3 => simp only [e3] at h1; exact h1.elim
          | ok fw ρ3 =>
            simp only [e3] at h1
            cases fw <;> exact h1
        · rename_i hh
          have hd := I.P.hnd _ _ _ hh
          exact s_try (C := ic.ctx G lv) (hB (.inr ⟨hd, h⟩)) (let ⟨_, cx, _, g, _⟩ := hd; ⟨cx, g⟩) (glB_ok cg) (dbgB_ok cd).1 ct hsu
        · exact h.elim
  · exact h.elim
theorem evB_ok (S : Snd r) (I : IcOk G lv ic) : ∀ {sts : List Stmt} {ρ : Rho}, postS (evB r ic sts ρ) Φ → SV (ic.ctx G lv) ic.pin sts ρ Φ
  | [], ρ, h => sv_nil h
  | st :: rest, ρ, h => by
    unfold evB postS at h
    rw [post_bind] at h
    refine sv_cons (evS_ok S I (post_mono h (fun fw ρ1 q => ?_) fun _ _ z => z))
    cases fw with
    | nx => exact evB_ok S I q
    | _ => exact q
theorem Snd.mk' (S : Snd r) : Snd (mkOps r) := ⟨fun I h => evE_ok S I h, fun I h => evT_ok S I h, fun I h => evB_ok S I h⟩
end
theorem ops_ok : ∀ n, Snd (ops n)
  | 0 => ⟨fun _ h => h.elim, fun _ h => h.elim, fun _ h => h.elim⟩
  | n + 1 => (ops_ok n).mk'
/-! ### defs -/
theorem outsF_ok {pin : List Nat} {ρ : Rho} : ∀ {os os' : List O} (j : Nat), outsF pin ρ j os = some os' → Outs pin ρ j os os'
  | [], os', j, h => by
    unfold outsF at h
    cases h
    trivial
  | o :: os, os', j, h => by
    cases o with
    | fz d =>
      unfold outsF at h
      split at h
      · rename_i o2 e
        cases h
        exact ⟨.inl ⟨d, rfl, rfl⟩, outsF_ok (j + 1) e⟩
      · cases h
    | lst xs =>
      unfold outsF at h
      split at h
      · rename_i hj
        split at h
        · rename_i o' os2 e1 e2
          cases h
          exact ⟨.inr ⟨hj, e1⟩, outsF_ok (j + 1) e2⟩
        · cases h
      · cases h
    | dic ks xs =>
      unfold outsF at h
      split at h
      · rename_i hj
        split at h
        · rename_i o' os2 e1 e2
          cases h
          exact ⟨.inr ⟨hj, e1⟩, outsF_ok (j + 1) e2⟩
        · cases h
      · cases h
/-- the def x of the text, with its defaults -/
structure DefOk (G : Gx) (x : Str) (fd : FD) : Prop where
  ex : ∃ f fdd params dv, FunD G.K x x params fd.body fd.sc dv [] f fdd ∧ G.mg x = some (.ref f) ∧ (∀ F, AtL G.K F dv fd.dv) ∧ ∀ j, ∃ ds, Vals (dv.drop j) ds ∧ Binds G.K fdd fd.ps ds
  sc : FnScope fd.N fd.ps fd.sc
theorem run_sv {G : Gx} {P : IP} {n m : Nat} {fd : FD} {Φ : FT} {os : List O} {k : O → List O → Prop} {Ξ : Exc → List O → Prop} (I : IcOk G n { P := P, Φ := Φ, N := fd.N, sc := fd.sc, top := true, pin := fd.pin })
    (h : (runF (ops m) P Φ fd os []).post k Ξ) :
    os.length = fd.ps.length ∧ SV { G := G, lv := n, N := fd.N, sc := fd.sc, top := true } fd.pin fd.body (os.map some ++ List.replicate (fd.N.length - os.length) none) (retΦ fd.pin os k Ξ) := by
  unfold runF at h
  split at h
  · rename_i hl
    refine ⟨hl, (ops_ok m).B (Φ := retΦ fd.pin os k Ξ) I ?_⟩
    unfold postS
    cases e : (ops m).B { P := P, Φ := Φ, N := fd.N, sc := fd.sc, top := true, pin := fd.pin } fd.body (os.map some ++ List.replicate (fd.N.length - os.length) none) with
    | bad => simp only [e] at h; exact h.elim
    | exc c ρ =>
      simp only [e] at h
      split at h
      · rename_i os' e2
        exact ⟨os', outsF_ok 0 e2, h⟩
      · exact h.elim
    | ok fw ρ =>
      cases fw with
      | nx =>
        simp only [e] at h
        split at h
        · rename_i os' e2
          exact ⟨os', outsF_ok 0 e2, h⟩
        · exact h.elim
      | ret o =>
        simp only [e] at h
        split at h
        · rename_i os' e2
          exact ⟨os', outsF_ok 0 e2, h⟩
        · exact h.elim
      | brk => simp only [e] at h; exact h.elim
      | cont => simp only [e] at h; exact h.elim
  · exact h.elim
theorem fns_ok {G : Gx} {P : IP} (hP : IPok G P) (hd : ∀ f fd, P.fns.lookup f = some fd → DefOk G f fd) : ∀ n f fd, P.fns.lookup f = some fd → ∀ j, FOK G n f (fd.dv.drop j) (S_of (callN P n) f) := by
  intro n
  induction n with
  | zero =>
    intro f fd hf j
    obtain ⟨fa, fdd, params, dv, F, hm, hdv, hb⟩ := (hd f fd hf).ex
    obtain ⟨ds, h1, h2⟩ := hb j
    refine ⟨fa, fdd, fd.ps, ds, dv.drop j, 0, hm, F.kp, h2, h1, fun F => (hdv F).drop j, Nat.le_refl _, ⟨fun vs H Q E h => ?_, fun A outer s H args us vs Q E hr he hb hv h => ?_⟩⟩
    · obtain ⟨os, F0, A0, k, Ξ, _, _, z, _⟩ := h
      exact False.elim z
    · obtain ⟨os, F0, A0, k, Ξ, _, _, z, _⟩ := h
      exact False.elim z
  | succ n ih =>
    intro f fd hf j
    obtain ⟨fa, fdd, params, dv, F, hm, hdv, hb⟩ := (hd f fd hf).ex
    obtain ⟨ds, h1, h2⟩ := hb j
    have I : IcOk G n { P := P, Φ := callN P n, N := fd.N, sc := fd.sc, top := true, pin := fd.pin } := ⟨hP, ih⟩
    refine ⟨fa, fdd, fd.ps, ds, dv.drop j, n + 1, hm, F.kp, h2, h1, fun F => (hdv F).drop j, Nat.le_refl _, fn_def (P := fd.pin) F (hd f fd hf).sc fun os k Ξ h => ?_⟩
    have h : (callN P (n + 1) f os []).post k Ξ := h
    unfold callN at h
    rw [hf] at h
    exact run_sv I h
/-- the law's def, told by the reckoner -/
theorem law_of {G : Gx} {P : IP} (hP : IPok G P) (hd : ∀ f fd, P.fns.lookup f = some fd → DefOk G f fd) {n : Nat} {fa : Addr} {fdd : FuncData} {x : Str} {fd : FD} {params : Arguments} {dv : List V} (hx : P.fns.lookup x = some fd) (F : FunD G.K x x params fd.body fd.sc dv [] fa fdd) : FnOk G.P G.w G.K G.mg G.base (L2.CX G.P G.w) (n + 1) fa fdd fd.ps (spOf G (S_of (callN P (n + 1)) x)) := by
  have I : IcOk G n { P := P, Φ := callN P n, N := fd.N, sc := fd.sc, top := true, pin := fd.pin } := ⟨hP, fns_ok hP hd n⟩
  refine fn_def (P := fd.pin) F (hd x fd hx).sc fun os k Ξ h => ?_
  have h : (callN P (n + 1) x os []).post k Ξ := h
  unfold callN at h
  rw [hx] at h
  exact run_sv I h
theorem sp_law {G : Gx} {Φ : FT} {H : Hp} {a : Addr} {ns : List Int} {x : Str} (hS : SqL G.K H a (ns.map V.int)) (h : (Φ x [.fz (.scr ns)] []).post (fun o _ => o = .fz (.bl true)) (fun _ _ => False)) : spOf G (S_of Φ x) [.ref a] H (fun v _ => v = .bl true) fun _ _ _ => False := by
  refine ⟨[.fz (.scr ns)], H, [], fun o _ => o = .fz (.bl true), fun _ _ => False, Ex.refl H, Reps.cons (S := []) (T := []) (.fz (.scr hS)) .nil (fun _ z => by cases z), h, fun o os' v F' H' A' T e x r t d m => ?_, fun c os' cls d F' H' A' z => z.elim⟩
  subst e
  have a := t.at_fz
  cases a
  rfl
end Fr

set_option Elab.async false
set_option linter.all false
set_option maxRecDepth 100000
set_option maxHeartbeats 4000000
/-! In6: the reckoner's steps by name: a def's body is one of these terms, by kernel_rfl. -/
namespace Fr
open PySem PySem.Spec PyProof.Rows L2
abbrev Cl := Rho → Res O
abbrev ClT := Rho → Res Bool
abbrev ClB := Rho → Res Fw
@[simp] def nmE (i : Nat) (ρ : Rho) : Res O := match ρ[i]? with
  | some (some (.fz d)) => .ok (.fz d) ρ
  | some (some o) => .ok (.fz o.frz) (ρ.set i (some (.fz o.frz)))
  | _ => .bad
@[simp] def lentN (i : Nat) (ρ : Rho) : Option Nat := match ρ[i]? with
  | some (some (.fz _)) => none
  | some (some _) => some i
  | _ => none
@[simp] def kE (d : D) (ρ : Rho) : Res O := .ok (.fz d) ρ
def sq1 (k : ClB) (fw : Fw) (ρ : Rho) : Res Fw := match fw with
  | .nx => k ρ
  | fw => .ok fw ρ
@[simp] def sq (m : Res Fw) (k : ClB) : Res Fw := m.bind (sq1 k)
def seqR : List ClB → ClB
  | [], ρ => .ok .nx ρ
  | s :: r, ρ => sq (s ρ) (seqR r)
@[simp] def endB (ρ : Rho) : Res Fw := .ok .nx ρ
@[simp] def ret1 (o : O) (ρ : Rho) : Res Fw := .ok (.ret o) ρ
@[simp] def retR (e : Cl) (ρ : Rho) : Res Fw := (e ρ).bind ret1
@[simp] def retN (i : Nat) (pin : List Nat) (ρ : Rho) : Res Fw := match (match lentN i ρ with
    | some i => if i ∈ pin then none else some i
    | none => none) with
  | some i => (match ρ[i]? with
    | some (some o) => .ok (.ret o) (ρ.set i none)
    | _ => .bad)
  | none => (nmE i ρ).bind ret1
@[simp] def expr1 (_ : O) (ρ : Rho) : Res Fw := .ok .nx ρ
@[simp] def exprR (e : Cl) (ρ : Rho) : Res Fw := (e ρ).bind expr1
def iff1 (x y : ClB) : Bool → Rho → Res Fw
  | true, ρ => x ρ
  | false, ρ => y ρ
@[simp] def iffR (t : ClT) (x y : ClB) (ρ : Rho) : Res Fw := (t ρ).bind (iff1 x y)
@[simp] def set1 (i : Nat) (o : O) (ρ : Rho) : Res Fw := .ok .nx (ρ.set i (some o))
@[simp] def setR (i : Nat) (e : Cl) (ρ : Rho) : Res Fw := (e ρ).bind (set1 i)
@[simp] def setL1 (i : Nat) (acc : List O) (ρ : Rho) : Res Fw := .ok .nx (ρ.set i (some (.lst acc)))
@[simp] def setL (i : Nat) (e : Rho → Res (List O)) (ρ : Rho) : Res Fw := (e ρ).bind (setL1 i)
inductive Tg where
  | nm (i : Nat)
  | tup (ts : List Tg)
mutual
def tgX : Nat → Tg → D → Rho → Option Rho
  | 0, _, _, _ => none
  | n + 1, e, d, ρ => match e with
    | .nm i => some (ρ.set i (some (.fz d)))
    | .tup es => (match d with
      | .tup ds => if true = true ∧ es.length = ds.length then tgXs n es ds ρ else none
      | _ => none)
def tgXs : Nat → List Tg → List D → Rho → Option Rho
  | 0, _, _, _ => none
  | n + 1, es, ds, ρ => match es, ds with
    | [], [] => some ρ
    | e :: es, d :: ds => (match tgX n e d ρ with
      | some ρ1 => tgXs n es ds ρ1
      | none => none)
    | _, _ => none
end
def asg2 : Option Rho → Res Fw
  | some ρ => .ok .nx ρ
  | none => .bad
@[simp] def asg1 (t : Tg) (o : O) (ρ : Rho) : Res Fw := asg2 (tgX 12 t o.frz ρ)
@[simp] def asgT (t : Tg) (e : Cl) (ρ : Rho) : Res Fw := (e ρ).bind (asg1 t)
def turn1 (b : ClB) : Option Rho → Res Fw
  | some ρ => b ρ
  | none => .bad
@[simp] def turnR (t : Tg) (b : ClB) (d : D) (ρ : Rho) : Res Fw := turn1 b (tgX 12 t d ρ)
@[simp] def forR (it : Rho → Res (List D)) (t : Tg) (b : ClB) (ρ : Rho) : Res Fw := (it ρ).bind (forL (turnR t b))
@[simp] def whlR (t : ClT) (b : ClB) (ρ : Rho) : Res Fw := whileL t b 1000000 ρ
def setIx3 (i : Nat) (v : O) (ρ : Rho) (os : List O) : Option Nat → Res Fw
  | some j => .ok .nx (ρ.set i (some (.lst (os.set j v))))
  | none => .bad
@[simp] def setIx2 (i : Nat) (v y : O) (ρ : Rho) : Res Fw := match ρ[i]?, y.frz with
  | some (some (.lst os)), .int z => setIx3 i v ρ os (ixN os.length z)
  | _, _ => .bad
@[simp] def setIx1 (i : Nat) (ie : Cl) (v : O) (ρ : Rho) : Res Fw := match ρ[i]? with
  | some (some _) => (ie ρ).bind (setIx2 i v)
  | _ => .bad
def setIx0 (e ie : Cl) (ρ : Rho) : Option Nat → Res Fw
  | some i => (e ρ).bind (setIx1 i ie)
  | none => .bad
@[simp] def setIx (i : Nat) (e ie : Cl) (ρ : Rho) : Res Fw := setIx0 e ie ρ (lentN i ρ)
@[simp] def ds2 (o : O) (ds : List D) (ρ : Rho) : Res (List D) := .ok (o.frz :: ds) ρ
@[simp] def ds1 (m : Rho → Res (List D)) (o : O) (ρ : Rho) : Res (List D) := (m ρ).bind (ds2 o)
def dsR : List Cl → Rho → Res (List D)
  | [], ρ => .ok [] ρ
  | e :: es, ρ => (e ρ).bind (ds1 (dsR es))
@[simp] def tup1 (ds : List D) (ρ : Rho) : Res O := gate (decide (ds.length ≤ 16000000)) (.ok (.fz (.tup ds)) ρ)
@[simp] def tupR (es : List Cl) (ρ : Rho) : Res O := (dsR es ρ).bind tup1
@[simp] def lst1 (ds : List D) (ρ : Rho) : Res O := gate (decide (ds.length ≤ 16000000)) (.ok (.lst (ds.map .fz)) ρ)
@[simp] def lstR (es : List Cl) (ρ : Rho) : Res O := (dsR es ρ).bind lst1
@[simp] def dicR (ρ : Rho) : Res O := .ok (.dic [] []) ρ
@[simp] def bin2 (op : Operator) (x y : O) (ρ : Rho) : Res O := lift ((bopF op x.frz y.frz).map RV.o) ρ
@[simp] def bin1 (op : Operator) (b : Cl) (x : O) (ρ : Rho) : Res O := (b ρ).bind (bin2 op x)
@[simp] def binR (op : Operator) (a b : Cl) (ρ : Rho) : Res O := (a ρ).bind (bin1 op b)
@[simp] def neg1 (x : O) (ρ : Rho) : Res O := match x.frz with
  | .int i => .ok (.fz (.int (-i))) ρ
  | _ => .bad
@[simp] def negR (a : Cl) (ρ : Rho) : Res O := (a ρ).bind neg1
@[simp] def notV1 (x : O) (ρ : Rho) : Res O := match x.frz with
  | .bl b => .ok (.fz (.bl (!b))) ρ
  | _ => .bad
@[simp] def notV (a : Cl) (ρ : Rho) : Res O := (a ρ).bind notV1
@[simp] def cmp2 (op : CmpOp) (x y : O) (ρ : Rho) : Res Bool := lift (cmpF op x.frz y.frz) ρ
@[simp] def cmp1 (op : CmpOp) (b : Cl) (x : O) (ρ : Rho) : Res Bool := (b ρ).bind (cmp2 op x)
@[simp] def cmpR (op : CmpOp) (a b : Cl) (ρ : Rho) : Res Bool := (a ρ).bind (cmp1 op b)
@[simp] def inK1 (ks : List Str) (b : Bool) (x : O) (ρ : Rho) : Res Bool := match x.frz with
  | .str z => .ok (eqB b (decide (z ∈ ks))) ρ
  | _ => .bad
@[simp] def inK (ks : List Str) (b : Bool) (a : Cl) (ρ : Rho) : Res Bool := (a ρ).bind (inK1 ks b)
def chn3 (op' : CmpOp) (c : Cl) (y : O) (ρ : Rho) : Option Bool → Res Bool
  | some true => (c ρ).bind (cmp2 op' y)
  | some false => .ok false ρ
  | none => .bad
@[simp] def chn2 (op op' : CmpOp) (c : Cl) (x y : O) (ρ : Rho) : Res Bool := chn3 op' c y ρ (cmpF op x.frz y.frz)
@[simp] def chn1 (op op' : CmpOp) (b c : Cl) (x : O) (ρ : Rho) : Res Bool := (b ρ).bind (chn2 op op' c x)
@[simp] def chnR (op op' : CmpOp) (a b c : Cl) (ρ : Rho) : Res Bool := (a ρ).bind (chn1 op op' b c)
@[simp] def bl1 (b : Bool) (ρ : Rho) : Res O := .ok (.fz (.bl b)) ρ
@[simp] def blR (t : ClT) (ρ : Rho) : Res O := (t ρ).bind bl1
def and1 (m : ClT) : Bool → Rho → Res Bool
  | true, ρ => m ρ
  | false, ρ => .ok false ρ
def or1 (m : ClT) : Bool → Rho → Res Bool
  | true, ρ => .ok true ρ
  | false, ρ => m ρ
def andR : List ClT → Rho → Res Bool
  | [], _ => .bad
  | [e], ρ => e ρ
  | e :: es, ρ => (e ρ).bind (and1 (andR es))
def orR : List ClT → Rho → Res Bool
  | [], _ => .bad
  | [e], ρ => e ρ
  | e :: es, ρ => (e ρ).bind (or1 (orR es))
def andO1 (m : Cl) (o : O) (ρ : Rho) : Res O := match o.frz with
  | .bl true => m ρ
  | .bl false => .ok (.fz (.bl false)) ρ
  | _ => .bad
def orO1 (m : Cl) (o : O) (ρ : Rho) : Res O := match o.frz with
  | .bl true => .ok (.fz (.bl true)) ρ
  | .bl false => m ρ
  | _ => .bad
def andO : List Cl → Rho → Res O
  | [], _ => .bad
  | [e], ρ => e ρ
  | e :: es, ρ => (e ρ).bind (andO1 (andO es))
def orO : List Cl → Rho → Res O
  | [], _ => .bad
  | [e], ρ => e ρ
  | e :: es, ρ => (e ρ).bind (orO1 (orO es))
@[simp] def notT1 (b : Bool) (ρ : Rho) : Res Bool := .ok (!b) ρ
@[simp] def notT (a : ClT) (ρ : Rho) : Res Bool := (a ρ).bind notT1
@[simp] def tru1 (o : O) (ρ : Rho) : Res Bool := lift (truF o.frz) ρ
@[simp] def truR (a : Cl) (ρ : Rho) : Res Bool := (a ρ).bind tru1
def ite1 (x y : Cl) : Bool → Rho → Res O
  | true, ρ => x ρ
  | false, ρ => y ρ
@[simp] def iteR (t : ClT) (x y : Cl) (ρ : Rho) : Res O := (t ρ).bind (ite1 x y)
@[simp] def par1 (o : O) (ρ : Rho) : Res (Option Int) := match o.frz with
  | .int i => .ok (some i) ρ
  | _ => .bad
def parR : Option Cl → Rho → Res (Option Int)
  | none, ρ => .ok none ρ
  | some e, ρ => (e ρ).bind par1
@[simp] def slc3 (x : O) (l u : Option Int) (ρ : Rho) : Res O := lift ((slF x.frz l u).map RV.o) ρ
@[simp] def slc2 (hi : Option Cl) (x : O) (l : Option Int) (ρ : Rho) : Res O := (parR hi ρ).bind (slc3 x l)
@[simp] def slc1 (lo hi : Option Cl) (x : O) (ρ : Rho) : Res O := (parR lo ρ).bind (slc2 hi x)
@[simp] def slcR (a : Cl) (lo hi : Option Cl) (ρ : Rho) : Res O := (a ρ).bind (slc1 lo hi)
@[simp] def ix2 (x y : O) (ρ : Rho) : Res O := lift ((ixF x.frz y.frz).map O.fz) ρ
@[simp] def ix1 (b : Cl) (x : O) (ρ : Rho) : Res O := (b ρ).bind (ix2 x)
@[simp] def ixR (a b : Cl) (ρ : Rho) : Res O := (a ρ).bind (ix1 b)
def ixO2 (ρ : Rho) : Option O → Res O
  | some (.fz d) => .ok (.fz d) ρ
  | _ => .bad
@[simp] def ixO1 (i : Nat) (y : O) (ρ : Rho) : Res O := match ρ[i]?, y.frz with
  | some (some (.lst os)), .int z => ixO2 ρ (L2.atI os z)
  | _, _ => .bad
def ixN0 (i : Nat) (b : Cl) (ρ : Rho) : Option Nat → Res O
  | some i => (b ρ).bind (ixO1 i)
  | none => ixR (nmE i) b ρ
@[simp] def ixN' (i : Nat) (b : Cl) (ρ : Rho) : Res O := ixN0 i b ρ (lentN i ρ)
def strF (z : Str) : O := .fz (.str z)
@[simp] def tab1 (t : List (Str × Str)) (y : O) (ρ : Rho) : Res O := match y.frz with
  | .str q => lift ((t.lookup q).map strF) ρ
  | _ => .bad
@[simp] def tabR (t : List (Str × Str)) (b : Cl) (ρ : Rho) : Res O := (b ρ).bind (tab1 t)
inductive Ar where
  | val (e : Cl) | own (e : Cl) | lent (i : Nat)
@[simp] def as2 (a : AO) (as : List AO) (ρ : Rho) : Res (List AO) := .ok (a :: as) ρ
@[simp] def asV (m : Rho → Res (List AO)) (o : O) (ρ : Rho) : Res (List AO) := (m ρ).bind (as2 (.fz o.frz, none))
@[simp] def asW (m : Rho → Res (List AO)) (o : O) (ρ : Rho) : Res (List AO) := (m ρ).bind (as2 (o, none))
@[simp] def asL (i : Nat) (as : List AO) (ρ : Rho) : Res (List AO) := match ρ[i]? with
  | some (some o) => .ok ((o, some i) :: as) (ρ.set i none)
  | _ => .bad
def as0 (i : Nat) (m : Rho → Res (List AO)) (ρ : Rho) : Option Nat → Res (List AO)
  | some i => (m ρ).bind (asL i)
  | none => (nmE i ρ).bind (asW m)
def asR : List Ar → Rho → Res (List AO)
  | [], ρ => .ok [] ρ
  | .val e :: es, ρ => (e ρ).bind (asV (asR es))
  | .own e :: es, ρ => (e ρ).bind (asW (asR es))
  | .lent i :: es, ρ => as0 i (asR es) ρ (lentN i ρ)
def finR (as : List AO) (ρ : Rho) : FRes → Res O
  | .ok o os' _ => .ok o (refill as os' ρ)
  | .exc c os' _ => .exc c (refill as os' ρ)
  | .bad => .bad
@[simp] def fst' (a : AO) : O := a.1
@[simp] def call1 (Φ : FT) (f : Str) (dv : List D) (as : List AO) (ρ : Rho) : Res O := finR as ρ (Φ f (as.map fst' ++ dv.map .fz) [])
@[simp] def callR (Φ : FT) (f : Str) (dv : List D) (es : List Ar) (ρ : Rho) : Res O := (asR es ρ).bind (call1 Φ f dv)
def tcall2 (Φ : FT) (es : List Ar) (ρ : Rho) : Option Str → Res O
  | some f => callR Φ f [] es ρ
  | none => .bad
@[simp] def tcall1 (Φ : FT) (t : List (Str × Str)) (es : List Ar) (y : O) (ρ : Rho) : Res O := match y.frz with
  | .str q => tcall2 Φ es ρ (t.lookup q)
  | _ => .bad
@[simp] def tcallR (Φ : FT) (t : List (Str × Str)) (ie : Cl) (es : List Ar) (ρ : Rho) : Res O := (ie ρ).bind (tcall1 Φ t es)
@[simp] def ct1 (f : Str) (ds : List D) (ρ : Rho) : Res O := lift ((ctF f ds).map RV.o) ρ
@[simp] def ctR (f : Str) (es : List Cl) (ρ : Rho) : Res O := (dsR es ρ).bind (ct1 f)
@[simp] def cb1 (f : Str) (ds : List D) (ρ : Rho) : Res O := lift ((cbF f ds).map RV.o) ρ
@[simp] def cbR (f : Str) (es : List Cl) (ρ : Rho) : Res O := (dsR es ρ).bind (cb1 f)
@[simp] def isi1 (t : String) (o : O) (ρ : Rho) : Res O := gate (!o.frz.ex) (.ok (.fz (.bl (isiD o.frz t))) ρ)
@[simp] def isiR (a : Cl) (t : String) (ρ : Rho) : Res O := (a ρ).bind (isi1 t)
@[simp] def isi21 (t u : String) (o : O) (ρ : Rho) : Res O := gate (!o.frz.ex) (.ok (.fz (.bl (isiD o.frz t || isiD o.frz u))) ρ)
@[simp] def isi2R (a : Cl) (t u : String) (ρ : Rho) : Res O := (a ρ).bind (isi21 t u)
@[simp] def ms2 (m a : Str) (ds : List D) (ρ : Rho) : Res O := lift ((msF m a ds).map RV.o) ρ
@[simp] def ms1 (m : Str) (es : List Cl) (v : O) (ρ : Rho) : Res O := match v.frz with
  | .str a => (dsR es ρ).bind (ms2 m a)
  | _ => .bad
@[simp] def msR (m : Str) (a : Cl) (es : List Cl) (ρ : Rho) : Res O := (a ρ).bind (ms1 m es)
def msN0 (m : Str) (i : Nat) (es : List Cl) (ρ : Rho) : Option Nat → Res O
  | some i => (match ρ[i]? with
    | some (some (.lst _)) => .bad
    | _ => .bad)
  | none => msR m (nmE i) es ρ
@[simp] def msN (m : Str) (i : Nat) (es : List Cl) (ρ : Rho) : Res O := msN0 m i es ρ (lentN i ρ)
@[simp] def app1 (i : Nat) (v : O) (ρ : Rho) : Res O := match ρ[i]? with
  | some (some (.lst os)) => gate (decide (os.length < 16000000)) (.ok (.fz .non) (ρ.set i (some (.lst (os ++ [v])))))
  | _ => .bad
def app0 (e : Cl) (ρ : Rho) : Option Nat → Res O
  | some i => (match ρ[i]? with
    | some (some (.lst _)) => (e ρ).bind (app1 i)
    | _ => .bad)
  | none => .bad
@[simp] def appR (i : Nat) (e : Cl) (ρ : Rho) : Res O := app0 e ρ (lentN i ρ)
@[simp] def ext1 (i : Nat) (v : O) (ρ : Rho) : Res O := match ρ[i]?, v.frz with
  | some (some (.lst os)), .lst ds => gate (decide (os.length + ds.length ≤ 16000000)) (.ok (.fz .non) (ρ.set i (some (.lst (os ++ ds.map .fz)))))
  | _, _ => .bad
def ext0 (e : Cl) (ρ : Rho) : Option Nat → Res O
  | some i => (match ρ[i]? with
    | some (some (.lst _)) => (e ρ).bind (ext1 i)
    | _ => .bad)
  | none => .bad
@[simp] def extR (i : Nat) (e : Cl) (ρ : Rho) : Res O := ext0 e ρ (lentN i ρ)
def pop0 (ρ : Rho) : Option Nat → Res O
  | some i => (match ρ[i]? with
    | some (some (.lst os)) => (match os.getLast? with
      | some (.fz d) => .ok (.fz d) (ρ.set i (some (.lst os.dropLast)))
      | _ => .bad)
    | _ => .bad)
  | none => .bad
@[simp] def popR (i : Nat) (ρ : Rho) : Res O := pop0 ρ (lentN i ρ)
/-- what is walked -/
@[simp] def it1 (o : O) (ρ : Rho) : Res (List D) := lift (itemsQ o.frz) ρ
@[simp] def itR (e : Cl) (ρ : Rho) : Res (List D) := (e ρ).bind it1
@[simp] def rng11 (o : O) (ρ : Rho) : Res (List D) := match o.frz with
  | .int j => gate (decide (-(2 ^ 62) ≤ j ∧ j < 2 ^ 62)) (.ok (rngD 0 j.toNat) ρ)
  | _ => .bad
@[simp] def rng1R (a : Cl) (ρ : Rho) : Res (List D) := (a ρ).bind rng11
@[simp] def rng22 (o o2 : O) (ρ : Rho) : Res (List D) := match o.frz, o2.frz with
  | .int i, .int j => gate (decide (-(2 ^ 62) ≤ i ∧ i < 2 ^ 62 ∧ -(2 ^ 62) ≤ j ∧ j < 2 ^ 62)) (.ok (rngD i (j - i).toNat) ρ)
  | _, _ => .bad
@[simp] def rng21 (b : Cl) (o : O) (ρ : Rho) : Res (List D) := (b ρ).bind (rng22 o)
@[simp] def rng2R (a b : Cl) (ρ : Rho) : Res (List D) := (a ρ).bind (rng21 b)
@[simp] def enu1 (o : O) (ρ : Rho) : Res (List D) := match o.frz with
  | .lst ds => .ok (numbered ds) ρ
  | _ => .bad
@[simp] def enuR (a : Cl) (ρ : Rho) : Res (List D) := (a ρ).bind enu1
@[simp] def zip2 (o o2 : O) (ρ : Rho) : Res (List D) := match o.frz, o2.frz with
  | .lst ds, .lst es => .ok (List.zipWith (fun d e => .tup [d, e]) ds es) ρ
  | .tup ds, .tup es => .ok (List.zipWith (fun d e => .tup [d, e]) ds es) ρ
  | _, _ => .bad
@[simp] def zip1 (b : Cl) (o : O) (ρ : Rho) : Res (List D) := (b ρ).bind (zip2 o)
@[simp] def zipR (a b : Cl) (ρ : Rho) : Res (List D) := (a ρ).bind (zip1 b)
@[simp] def zipS2 (o o2 : O) (ρ : Rho) : Res (List D) := match o.frz, o2.frz with
  | .lst ds, .str z => gate (z.cps.all (· < 128) && decide (ds.length = z.cps.size)) (.ok (List.zipWith (fun d e => .tup [d, e]) ds (signs z)) ρ)
  | _, _ => .bad
@[simp] def zipS1 (b : Cl) (o : O) (ρ : Rho) : Res (List D) := (b ρ).bind (zipS2 o)
@[simp] def zipS (a b : Cl) (ρ : Rho) : Res (List D) := (a ρ).bind (zipS1 b)
def lc2 (top : Bool) : Res (List O) → Res (List O)
  | .ok acc ρ => .ok acc ρ
  | .exc c ρ => gate top (.exc c ρ)
  | .bad => .bad
@[simp] def lc1 (top : Bool) (t : Tg) (tst : ClT) (el : Cl) (vs : List Nat) (ds : List D) (ρ : Rho) : Res (List O) := gate (decide (ds.length ≤ 16000000)) (lc2 top (lcL (tgX 12 t) tst el vs ds [] (wipeR ρ vs)))
@[simp] def lcR (top : Bool) (it : Rho → Res (List D)) (t : Tg) (tst : ClT) (el : Cl) (vs : List Nat) (ρ : Rho) : Res (List O) := (it ρ).bind (lc1 top t tst el vs)
@[simp] def yesR (ρ : Rho) : Res Bool := .ok true ρ
@[simp] def lcE1 (acc : List O) (ρ : Rho) : Res O := .ok (.lst acc) ρ
@[simp] def lcE (m : Rho → Res (List O)) (ρ : Rho) : Res O := (m ρ).bind lcE1
def try1 (hd : Exc → ClB) : Res Fw → Res Fw
  | .ok fw ρ1 => .ok fw ρ1
  | .bad => .bad
  | .exc c ρ1 => hd c ρ1
@[simp] def tryH (m : ClB) (hd : Exc → ClB) (ρ : Rho) : Res Fw := try1 hd (m ρ)
noncomputable def hndR (P : IP) (x : Str) (hb : Addr → Exc → ClB) (i : Nat) (c : Exc) (ρ : Rho) : Res Fw := match P.hnd.lookup (c.name, x) with
  | some true => allA fun a => match hb a c (ρ.set i (some (.fz (.exn a)))) with
    | .ok (.ret o) ρ2 => .ok (.ret o) ρ2
    | .ok fw ρ2 => .ok fw (ρ2.set i none)
    | _ => .bad
  | some false => .exc c ρ
  | none => .bad
/-- a def by its body -/
def outR (pin : List Nat) (os : List O) (w : Rho) (m : Res Fw) : FRes := match m with
  | .ok .nx ρ => (match outsF pin ρ 0 os with | some os' => .ok (.fz .non) os' w | none => .bad)
  | .ok (.ret o) ρ => (match outsF pin ρ 0 os with | some os' => .ok o os' w | none => .bad)
  | .exc c ρ => (match outsF pin ρ 0 os with | some os' => .exc c os' w | none => .bad)
  | _ => .bad
theorem callN_run {P : IP} {n : Nat} {f : Str} {fd : FD} {os : List O} {w : Rho} {m : FT → ClB} (h : P.fns.lookup f = some fd) (hb : ∀ Φ ρ, (ops 60).B { P := P, Φ := Φ, N := fd.N, sc := fd.sc, top := true, pin := fd.pin } fd.body ρ = m Φ ρ) (hl : os.length = fd.ps.length) :
    callN P (n + 1) f os w = outR fd.pin os w (m (callN P n) (os.map some ++ List.replicate (fd.N.length - os.length) none)) := by
  show (match P.fns.lookup f with | some fd => runF (ops 60) P (callN P n) fd os w | none => .bad) = _
  rw [h]
  show runF (ops 60) P (callN P n) fd os w = _
  unfold runF
  rw [if_pos hl, hb]
  unfold outR
  generalize m (callN P n) (os.map some ++ List.replicate (fd.N.length - os.length) none) = z
  cases z with
  | ok a ρ => cases a <;> rfl
  | exc c ρ => rfl
  | bad => rfl
@[simp] def excR (x : Str) (ρ : Rho) : Res Fw := .exc { name := x } ρ
@[simp] def brkR (ρ : Rho) : Res Fw := .ok .brk ρ
@[simp] def contR (ρ : Rho) : Res Fw := .ok .cont ρ
def hdlBody : Stmt → List Stmt
  | .Try _ [.ExceptHandler _ _ b _] _ _ _ => b
  | _ => []
def subB : Stmt → Nat → List Stmt
  | .If _ b o _, k => (match k with | 0 => b | _ => o)
  | .For _ _ b _ _, _ => b
  | .While _ b _ _, _ => b
  | .Try b _ _ _ _, _ => b
  | _, _ => []
end Fr

set_option Elab.async false
set_option linter.all false
set_option maxRecDepth 100000
set_option maxHeartbeats 4000000
/-! In7: what simp wants to know of the steps. -/
namespace Fr
open PySem PySem.Spec PyProof.Rows L2
section
variable {α β : Type}
@[simp] theorem bind_ok {a : α} {ρ : Rho} {f : α → Rho → Res β} : (Res.ok a ρ).bind f = f a ρ := rfl
@[simp] theorem bind_exc {c : Exc} {ρ : Rho} {f : α → Rho → Res β} : (Res.exc c ρ : Res α).bind f = .exc c ρ := rfl
@[simp] theorem bind_bad {f : α → Rho → Res β} : (Res.bad : Res α).bind f = .bad := rfl
@[simp] theorem lift_some {a : α} {ρ : Rho} : lift (some a) ρ = .ok a ρ := rfl
@[simp] theorem lift_none {ρ : Rho} : lift (none : Option α) ρ = .bad := rfl
@[simp] theorem gate_true {m : Res α} : gate true m = m := rfl
@[simp] theorem gate_false {m : Res α} : gate false m = .bad := rfl
@[simp] theorem post_ok' {a : α} {ρ : Rho} {k : α → Rho → Prop} {Ξ : Exc → Rho → Prop} : (Res.ok a ρ).post k Ξ = k a ρ := rfl
@[simp] theorem post_exc' {c : Exc} {ρ : Rho} {k : α → Rho → Prop} {Ξ : Exc → Rho → Prop} : (Res.exc c ρ : Res α).post k Ξ = Ξ c ρ := rfl
end
@[simp] theorem sq1_nx {k : ClB} {ρ : Rho} : sq1 k .nx ρ = k ρ := rfl
@[simp] theorem sq1_ret {k : ClB} {o : O} {ρ : Rho} : sq1 k (.ret o) ρ = .ok (.ret o) ρ := rfl
@[simp] theorem sq1_brk {k : ClB} {ρ : Rho} : sq1 k .brk ρ = .ok .brk ρ := rfl
@[simp] theorem sq1_cont {k : ClB} {ρ : Rho} : sq1 k .cont ρ = .ok .cont ρ := rfl
def for1 (turn : D → Rho → Res Fw) (ds : List D) : Res Fw → Res Fw
  | .ok .nx ρ1 => forL turn ds ρ1
  | .ok .cont ρ1 => forL turn ds ρ1
  | .ok .brk ρ1 => .ok .nx ρ1
  | .ok (.ret o) ρ1 => .ok (.ret o) ρ1
  | .exc c ρ1 => .exc c ρ1
  | .bad => .bad
/-- one of two, by a Bool -/
def ifR {α : Sort _} (b : Bool) (x y : α) : α := match b with
  | true => x
  | false => y
section
variable {α β : Type} {b : Bool} {ρ : Rho}
@[simp] theorem ifR_t {α : Sort _} {x y : α} : ifR true x y = x := rfl
@[simp] theorem ifR_f {α : Sort _} {x y : α} : ifR false x y = y := rfl
@[simp] theorem ifR_same {α : Sort _} {x : α} : ifR b x x = x := by cases b <;> rfl
@[simp] theorem ifR_bind {m n : Res α} {f : α → Rho → Res β} : (ifR b m n).bind f = ifR b (m.bind f) (n.bind f) := by cases b <;> rfl
@[simp] theorem ifR_ok {p q : α} : ifR b (Res.ok p ρ) (Res.ok q ρ) = .ok (ifR b p q) ρ := by cases b <;> rfl
@[simp] theorem ifR_and {p : Bool} : ifR b p false = (b && p) := by cases b <;> rfl
@[simp] theorem ifR_or {p : Bool} : ifR b true p = (b || p) := by cases b <;> rfl
@[simp] theorem ifR_nand {p : Bool} : ifR b false p = (!b && p) := by cases b <;> rfl
@[simp] theorem ifR_nor {p : Bool} : ifR b p true = (!b || p) := by cases b <;> rfl
@[simp] theorem ifR_fz {x y : D} : ifR b (O.fz x) (O.fz y) = .fz (ifR b x y) := by cases b <;> rfl
@[simp] theorem ifR_bl {p q : Bool} : ifR b (D.bl p) (D.bl q) = .bl (ifR b p q) := by cases b <;> rfl
@[simp] theorem ifR_int {p q : Int} : ifR b (D.int p) (D.int q) = .int (ifR b p q) := by cases b <;> rfl
@[simp] theorem ifR_str {p q : Str} : ifR b (D.str p) (D.str q) = .str (ifR b p q) := by cases b <;> rfl
@[simp] theorem ifR_ret {x y : O} : ifR b (Fw.ret x) (Fw.ret y) = .ret (ifR b x y) := by cases b <;> rfl
@[simp] theorem ifR_some {x y : α} : ifR b (some x) (some y) = some (ifR b x y) := by cases b <;> rfl
@[simp] theorem ifR_lift {x y : Option α} : lift (ifR b x y) ρ = ifR b (lift x ρ) (lift y ρ) := by cases b <;> rfl
@[simp] theorem ifR_for1 {turn : D → Rho → Res Fw} {ds : List D} {m n : Res Fw} : for1 turn ds (ifR b m n) = ifR b (for1 turn ds m) (for1 turn ds n) := by cases b <;> rfl
@[simp] theorem ifR_fin {as : List AO} {m n : FRes} : finR as ρ (ifR b m n) = ifR b (finR as ρ m) (finR as ρ n) := by cases b <;> rfl
@[simp] theorem ifR_out {pin : List Nat} {os : List O} {w : Rho} {m n : Res Fw} : outR pin os w (ifR b m n) = ifR b (outR pin os w m) (outR pin os w n) := by cases b <;> rfl
@[simp] theorem ifR_try {hd : Exc → ClB} {m n : Res Fw} : try1 hd (ifR b m n) = ifR b (try1 hd m) (try1 hd n) := by cases b <;> rfl
@[simp] theorem ifR_lc2 {top : Bool} {m n : Res (List O)} : lc2 top (ifR b m n) = ifR b (lc2 top m) (lc2 top n) := by cases b <;> rfl
@[simp] theorem ifR_gate {m n : Res α} {c : Bool} : gate c (ifR b m n) = ifR b (gate c m) (gate c n) := by cases b <;> rfl
theorem gate_b {m : Res α} : gate b m = ifR b m .bad := by cases b <;> rfl
end
/-! clauses -/
section
variable {ρ : Rho} {b : Bool}
@[simp] theorem seqR_nil : seqR [] ρ = .ok .nx ρ := rfl
@[simp] theorem seqR_cons {s : ClB} {r : List ClB} : seqR (s :: r) ρ = (s ρ).bind (sq1 (seqR r)) := rfl
@[simp] theorem sq1_if {k : ClB} {x y : Fw} : sq1 k (ifR b x y) ρ = ifR b (sq1 k x ρ) (sq1 k y ρ) := by cases b <;> rfl
@[simp] theorem iff1_eq {x y : ClB} : iff1 x y b ρ = ifR b (x ρ) (y ρ) := by cases b <;> rfl
@[simp] theorem dsR_nil : dsR [] ρ = .ok [] ρ := rfl
@[simp] theorem dsR_cons {e : Cl} {es : List Cl} : dsR (e :: es) ρ = (e ρ).bind (ds1 (dsR es)) := rfl
@[simp] theorem and1_eq {m : ClT} : and1 m b ρ = ifR b (m ρ) (.ok false ρ) := by cases b <;> rfl
@[simp] theorem or1_eq {m : ClT} : or1 m b ρ = ifR b (.ok true ρ) (m ρ) := by cases b <;> rfl
@[simp] theorem andR_one {e : ClT} : andR [e] ρ = e ρ := rfl
@[simp] theorem andR_cons {e f : ClT} {es : List ClT} : andR (e :: f :: es) ρ = (e ρ).bind (and1 (andR (f :: es))) := rfl
@[simp] theorem orR_one {e : ClT} : orR [e] ρ = e ρ := rfl
@[simp] theorem orR_cons {e f : ClT} {es : List ClT} : orR (e :: f :: es) ρ = (e ρ).bind (or1 (orR (f :: es))) := rfl
@[simp] theorem andO_one {e : Cl} : andO [e] ρ = e ρ := rfl
@[simp] theorem andO_cons {e f : Cl} {es : List Cl} : andO (e :: f :: es) ρ = (e ρ).bind (andO1 (andO (f :: es))) := rfl
@[simp] theorem orO_one {e : Cl} : orO [e] ρ = e ρ := rfl
@[simp] theorem orO_cons {e f : Cl} {es : List Cl} : orO (e :: f :: es) ρ = (e ρ).bind (orO1 (orO (f :: es))) := rfl
@[simp] theorem andO1_bl {m : Cl} : andO1 m (.fz (.bl b)) ρ = ifR b (m ρ) (.ok (.fz (.bl false)) ρ) := by cases b <;> simp [andO1]
@[simp] theorem orO1_bl {m : Cl} : orO1 m (.fz (.bl b)) ρ = ifR b (.ok (.fz (.bl true)) ρ) (m ρ) := by cases b <;> simp [orO1]
@[simp] theorem ite1_eq {x y : Cl} : ite1 x y b ρ = ifR b (x ρ) (y ρ) := by cases b <;> rfl
@[simp] theorem parR_n : parR none ρ = .ok none ρ := rfl
@[simp] theorem parR_s {e : Cl} : parR (some e) ρ = (e ρ).bind par1 := rfl
@[simp] theorem setIx3_s {i j : Nat} {v : O} {os : List O} : setIx3 i v ρ os (some j) = .ok .nx (ρ.set i (some (.lst (os.set j v)))) := rfl
@[simp] theorem setIx0_s {i : Nat} {e ie : Cl} : setIx0 e ie ρ (some i) = (e ρ).bind (setIx1 i ie) := rfl
@[simp] theorem chn3_s {op : CmpOp} {c : Cl} {y : O} : chn3 op c y ρ (some b) = ifR b ((c ρ).bind (cmp2 op y)) (.ok false ρ) := by cases b <;> rfl
@[simp] theorem ixO2_s {d : D} : ixO2 ρ (some (.fz d)) = .ok (.fz d) ρ := rfl
@[simp] theorem ixN0_s {i j : Nat} {e : Cl} : ixN0 i e ρ (some j) = (e ρ).bind (ixO1 j) := rfl
@[simp] theorem ixN0_n {i : Nat} {e : Cl} : ixN0 i e ρ none = ixR (nmE i) e ρ := rfl
@[simp] theorem asR_nil : asR [] ρ = .ok [] ρ := rfl
@[simp] theorem asR_val {e : Cl} {es : List Ar} : asR (.val e :: es) ρ = (e ρ).bind (asV (asR es)) := rfl
@[simp] theorem asR_own {e : Cl} {es : List Ar} : asR (.own e :: es) ρ = (e ρ).bind (asW (asR es)) := rfl
@[simp] theorem asR_lent {i : Nat} {es : List Ar} : asR (.lent i :: es) ρ = as0 i (asR es) ρ (lentN i ρ) := rfl
@[simp] theorem as0_s {i j : Nat} {m : Rho → Res (List AO)} : as0 i m ρ (some j) = (m ρ).bind (asL j) := rfl
@[simp] theorem as0_n {i : Nat} {m : Rho → Res (List AO)} : as0 i m ρ none = (nmE i ρ).bind (asW m) := rfl
@[simp] theorem fin_ok {as : List AO} {o : O} {os : List O} {w : Rho} : finR as ρ (.ok o os w) = .ok o (refill as os ρ) := rfl
@[simp] theorem fin_exc {as : List AO} {c : Exc} {os : List O} {w : Rho} : finR as ρ (.exc c os w) = .exc c (refill as os ρ) := rfl
@[simp] theorem tcall2_s {Φ : FT} {es : List Ar} {f : Str} : tcall2 Φ es ρ (some f) = callR Φ f [] es ρ := rfl
@[simp] theorem msN0_n {m : Str} {i : Nat} {es : List Cl} : msN0 m i es ρ none = msR m (nmE i) es ρ := rfl
@[simp] theorem app0_s {i : Nat} {e : Cl} : app0 e ρ (some i) = (match ρ[i]? with
    | some (some (.lst _)) => (e ρ).bind (app1 i)
    | _ => .bad) := rfl
@[simp] theorem ext0_s {i : Nat} {e : Cl} : ext0 e ρ (some i) = (match ρ[i]? with
    | some (some (.lst _)) => (e ρ).bind (ext1 i)
    | _ => .bad) := rfl
@[simp] theorem pop0_s {i : Nat} : pop0 ρ (some i) = (match ρ[i]? with
    | some (some (.lst os)) => (match os.getLast? with
      | some (.fz d) => .ok (.fz d) (ρ.set i (some (.lst os.dropLast)))
      | _ => .bad)
    | _ => .bad) := rfl
@[simp] theorem lc2_ok {top : Bool} {acc : List O} : lc2 top (.ok acc ρ) = .ok acc ρ := rfl
@[simp] theorem lc2_exc {top : Bool} {c : Exc} : lc2 top (.exc c ρ) = gate top (.exc c ρ) := rfl
@[simp] theorem asg2_s : asg2 (some ρ) = .ok .nx ρ := rfl
@[simp] theorem turn1_s {b : ClB} : turn1 b (some ρ) = b ρ := rfl
@[simp] theorem try1_ok {hd : Exc → ClB} {fw : Fw} : try1 hd (.ok fw ρ) = .ok fw ρ := rfl
@[simp] theorem try1_exc {hd : Exc → ClB} {c : Exc} : try1 hd (.exc c ρ) = hd c ρ := rfl
@[simp] theorem out_nx {pin : List Nat} {os : List O} {w : Rho} : outR pin os w (.ok .nx ρ) = (match outsF pin ρ 0 os with | some os' => .ok (.fz .non) os' w | none => .bad) := rfl
@[simp] theorem out_ret {pin : List Nat} {os : List O} {w : Rho} {o : O} : outR pin os w (.ok (.ret o) ρ) = (match outsF pin ρ 0 os with | some os' => .ok o os' w | none => .bad) := rfl
@[simp] theorem out_exc {pin : List Nat} {os : List O} {w : Rho} {c : Exc} : outR pin os w (.exc c ρ) = (match outsF pin ρ 0 os with | some os' => .exc c os' w | none => .bad) := rfl
end
@[simp] theorem ex_exn {a : Addr} : D.ex (.exn a) = true := rfl
@[simp] theorem frzS_some {o : O} : frzS (some o) = some (.fz o.frz) := rfl
@[simp] theorem frzS_none : frzS none = none := rfl
@[simp] theorem rvo_d {d : D} : RV.o (.d d) = .fz d := rfl
@[simp] theorem rvo_l {ds : List D} : RV.o (.l ds) = .lst (ds.map .fz) := rfl
@[simp] theorem tg_nm {n i : Nat} {d : D} {ρ : Rho} : tgX (n + 1) (.nm i) d ρ = some (ρ.set i (some (.fz d))) := by unfold tgX; rfl
@[simp] theorem tg_tp {n : Nat} {ts : List Tg} {ds : List D} {ρ : Rho} : tgX (n + 1) (.tup ts) (.tup ds) ρ = if ts.length = ds.length then tgXs n ts ds ρ else none := by
  unfold tgX
  simp
@[simp] theorem tgs_nil' {n : Nat} {ρ : Rho} : tgXs (n + 1) [] [] ρ = some ρ := by unfold tgXs; rfl
@[simp] theorem tgs_cons' {n : Nat} {t : Tg} {ts : List Tg} {d : D} {ds : List D} {ρ : Rho} : tgXs (n + 1) (t :: ts) (d :: ds) ρ = (tgX n t d ρ).bind fun ρ1 => tgXs n ts ds ρ1 := by
  rw [tgXs]
  cases tgX n t d ρ <;> rfl
def thawE1 (ρ : Rho) : Res O → Res O
  | .ok (.fz d) _ => gate d.flat (.ok (.fz d) ρ)
  | .ok _ _ => .bad
  | .exc c _ => (match c.fld with | none => .exc c ρ | some _ => .bad)
  | .bad => .bad
def thawT1 (ρ : Rho) : Res Bool → Res Bool
  | .ok b _ => .ok b ρ
  | .exc c _ => (match c.fld with | none => .exc c ρ | some _ => .bad)
  | .bad => .bad
@[simp] theorem thawE_eq {m : Rho → Res O} {ρ : Rho} : thawE m ρ = thawE1 ρ (m (ρ.map frzS)) := by
  unfold thawE
  cases m (ρ.map frzS) with
  | ok o ρ1 => cases o <;> rfl
  | exc c ρ1 => rfl
  | bad => rfl
@[simp] theorem thawT_eq {m : Rho → Res Bool} {ρ : Rho} : thawT m ρ = thawT1 ρ (m (ρ.map frzS)) := by
  unfold thawT
  cases m (ρ.map frzS) <;> rfl
@[simp] theorem thawE1_ok {ρ ρ1 : Rho} {d : D} : thawE1 ρ (.ok (.fz d) ρ1) = gate d.flat (.ok (.fz d) ρ) := rfl
@[simp] theorem thawT1_ok {ρ ρ1 : Rho} {b : Bool} : thawT1 ρ (.ok b ρ1) = .ok b ρ := rfl
@[simp] theorem thawE1_if {ρ : Rho} {b : Bool} {m n : Res O} : thawE1 ρ (ifR b m n) = ifR b (thawE1 ρ m) (thawE1 ρ n) := by cases b <;> rfl
@[simp] theorem thawT1_if {ρ : Rho} {b : Bool} {m n : Res Bool} : thawT1 ρ (ifR b m n) = ifR b (thawT1 ρ m) (thawT1 ρ n) := by cases b <;> rfl
@[simp] theorem fl_non : D.flat .non = true := rfl
@[simp] theorem fl_bl {b : Bool} : D.flat (.bl b) = true := rfl
@[simp] theorem fl_int {i : Int} : D.flat (.int i) = true := rfl
@[simp] theorem fl_str {z : Str} : D.flat (.str z) = true := rfl
@[simp] theorem isNon_non : isNon .non = true := rfl
@[simp] theorem isNon_bl {b : Bool} : isNon (.bl b) = false := rfl
@[simp] theorem isNon_int {b : Int} : isNon (.int b) = false := rfl
@[simp] theorem isNon_str {b : Str} : isNon (.str b) = false := rfl
@[simp] theorem isNon_tup {b : List D} : isNon (.tup b) = false := rfl
@[simp] theorem isNon_lst {b : List D} : isNon (.lst b) = false := rfl
/-! operators -/
def numT (i : Int) : Str := (toString i : Str)
section
variable {i j : Int} {a b : Str} {xs ys : List D}
@[simp] theorem bop_add : bopF .Add (.int i) (.int j) = some (.d (.int (i + j))) := rfl
@[simp] theorem bop_sub : bopF .Sub (.int i) (.int j) = some (.d (.int (i - j))) := rfl
@[simp] theorem bop_adds : bopF .Add (.str a) (.str b) = if a.length + b.length ≤ 16000000 then some (.d (.str (a ++ b))) else none := rfl
@[simp] theorem bop_addt : bopF .Add (.tup xs) (.tup ys) = if xs.length + ys.length ≤ 16000000 then some (.d (.tup (xs ++ ys))) else none := rfl
@[simp] theorem bop_addl : bopF .Add (.lst xs) (.lst ys) = if xs.length + ys.length ≤ 16000000 then some (.l (xs ++ ys)) else none := rfl
@[simp] theorem bop_mul : bopF .Mult (.int i) (.int j) = if (-(2 ^ 64) < i ∧ i < 2 ^ 64) ∨ (-(2 ^ 64) < j ∧ j < 2 ^ 64) then some (.d (.int (i * j))) else none := rfl
@[simp] theorem bop_fdiv : bopF .FloorDiv (.int i) (.int j) = if 0 < j ∧ j < 1073741824 then some (.d (.int (i / j))) else none := rfl
@[simp] theorem bop_mod : bopF .Mod (.int i) (.int j) = if 0 < j then some (.d (.int (i % j))) else none := rfl
@[simp] theorem bop_pow : bopF .Pow (.int i) (.int j) = if 0 ≤ j ∧ j ≤ 1000000 ∧ i.natAbs < 2 ^ 64 then some (.d (.int (i ^ j.toNat))) else none := rfl
@[simp] theorem cmp_lt : cmpF .Lt (.int i) (.int j) = some (decide (i < j)) := rfl
@[simp] theorem cmp_le : cmpF .LtE (.int i) (.int j) = some (decide (i ≤ j)) := rfl
@[simp] theorem cmp_gt : cmpF .Gt (.int i) (.int j) = some (decide (j < i)) := rfl
@[simp] theorem cmp_ge : cmpF .GtE (.int i) (.int j) = some (decide (j ≤ i)) := rfl
@[simp] theorem cmp_eq {x y : D} : cmpF .Eq x y = eqQ x y := rfl
@[simp] theorem cmp_ne {x y : D} : cmpF .NotEq x y = (eqQ x y).map (!·) := by unfold cmpF; cases eqQ x y <;> rfl
@[simp] theorem cmp_in {x y : D} : cmpF .In x y = inQ x y := rfl
@[simp] theorem cmp_ni {x y : D} : cmpF .NotIn x y = (inQ x y).map (!·) := by unfold cmpF; cases inQ x y <;> rfl
@[simp] theorem cmp_is {x : D} : cmpF .Is x .non = if x.ex = true then none else some (isNon x) := by unfold cmpF isQ; rfl
@[simp] theorem cmp_isn {x : D} : cmpF .IsNot x .non = if x.ex = true then none else some (!isNon x) := by unfold cmpF isnQ; rfl
@[simp] theorem cmp_isB {p q : Bool} : cmpF .Is (.bl p) (.bl q) = some (decide (p = q)) := by unfold cmpF isQ; rfl
@[simp] theorem cmp_isNB {q : Bool} : cmpF .Is .non (.bl q) = some false := by unfold cmpF isQ; rfl
@[simp] theorem cmp_isnB {p q : Bool} : cmpF .IsNot (.bl p) (.bl q) = some (!decide (p = q)) := by unfold cmpF isnQ; rfl
@[simp] theorem eqQ_i : eqQ (.int i) (.int j) = some (decide (i = j)) := rfl
@[simp] theorem eqQ_s : eqQ (.str a) (.str b) = some (decide (a = b)) := rfl
@[simp] theorem eqQ_b {p q : Bool} : eqQ (.bl p) (.bl q) = some (decide (p = q)) := rfl
@[simp] theorem inQ_c {c : Nat} : inQ (.str ⟨#[c]⟩) (.str a) = some (decide (c ∈ a.cps.toList)) := rfl
@[simp] theorem inQ_l {x : D} : inQ x (.lst ys) = if x.flat = true ∧ ys.all D.flat = true then some (ys.any fun d => eqF d x) else none := rfl
@[simp] theorem inQ_t {x : D} : inQ x (.tup ys) = if x.flat = true ∧ ys.all D.flat = true then some (ys.any fun d => eqF d x) else none := rfl
@[simp] theorem eqF_i : eqF (.int i) (.int j) = (i == j) := rfl
@[simp] theorem eqF_s : eqF (.str a) (.str b) = (a == b) := rfl
@[simp] theorem tru_n : truF .non = some false := rfl
@[simp] theorem tru_b {p : Bool} : truF (.bl p) = some p := rfl
@[simp] theorem tru_i : truF (.int i) = some (i != 0) := rfl
@[simp] theorem tru_s : truF (.str a) = if a.length ≤ 16000000 then some ((a.length : Int) != 0) else none := rfl
@[simp] theorem tru_l : truF (.lst xs) = some (!xs.isEmpty) := rfl
@[simp] theorem tru_t : truF (.tup xs) = some (!xs.isEmpty) := rfl
@[simp] theorem len_s : lenQ (.str a) = if a.length ≤ 16000000 then some (.d (.int a.length)) else none := rfl
@[simp] theorem len_l : lenQ (.lst xs) = some (.d (.int xs.length)) := rfl
@[simp] theorem len_t : lenQ (.tup xs) = some (.d (.int xs.length)) := rfl
@[simp] theorem cb_len {d : D} : cbF "len" [d] = lenQ d := by kernel_rfl
@[simp] theorem cb_abs : cbF "abs" [.int i] = some (.d (.int (if i < 0 then -i else i))) := by kernel_rfl
@[simp] theorem cb_min : cbF "min" [.int i, .int j] = some (.d (.int (if j < i then j else i))) := by kernel_rfl
@[simp] theorem cb_max : cbF "max" [.int i, .int j] = some (.d (.int (if j > i then j else i))) := by kernel_rfl
@[simp] theorem cb_sum : cbF "sum" [.lst xs] = (match intsQ xs with | some ns => some (.d (.int ns.sum)) | none => none) := by kernel_rfl
@[simp] theorem cb_all : cbF "all" [.lst xs] = (match blsQ xs with | some bs => some (.d (.bl (bs.all id))) | none => none) := by kernel_rfl
@[simp] theorem cb_any : cbF "any" [.lst xs] = (match blsQ xs with | some bs => some (.d (.bl (bs.any id))) | none => none) := by kernel_rfl
@[simp] theorem ct_ii : ctF "int" [.int i] = some (.d (.int i)) := by kernel_rfl
@[simp] theorem ct_ib {p : Bool} : ctF "int" [.bl p] = some (.d (.int (if p then 1 else 0))) := by kernel_rfl
@[simp] theorem ct_is : ctF "int" [.str a] = if a.length ≤ 640 then (match PySem.intText? a with | some n => some (.d (.int n)) | none => none) else none := by kernel_rfl
@[simp] theorem ct_si : ctF "str" [.int i] = if i.natAbs.log2 < 1920 then some (.d (.str (numT i))) else none := by kernel_rfl
@[simp] theorem ct_ss : ctF "str" [.str a] = some (.d (.str a)) := by kernel_rfl
@[simp] theorem ct_tl : ctF "tuple" [.lst xs] = some (.d (.tup xs)) := by kernel_rfl
@[simp] theorem ct_tt : ctF "tuple" [.tup xs] = some (.d (.tup xs)) := by kernel_rfl
@[simp] theorem ct_ll : ctF "list" [.lst xs] = some (.l xs) := by kernel_rfl
@[simp] theorem ct_lt : ctF "list" [.tup xs] = some (.l xs) := by kernel_rfl
@[simp] theorem ms_joinl : msF "join" a [.lst xs] = (match strsQ xs with | some ys => if (ys.map (·.length)).sum + ys.length * a.length ≤ 16000000 then some (.d (.str (Txt.join a ys))) else none | none => none) := by kernel_rfl
@[simp] theorem ms_joint : msF "join" a [.tup xs] = (match strsQ xs with | some ys => if (ys.map (·.length)).sum + ys.length * a.length ≤ 16000000 then some (.d (.str (Txt.join a ys))) else none | none => none) := by kernel_rfl
@[simp] theorem ms_split : msF "split" a [.str b] = if (b.length == 0) = false ∧ a.length + 2 ≤ 16000000 then some (.l ((Txt.split a b).map .str)) else none := by kernel_rfl
@[simp] theorem ms_part : msF "partition" a [.str b] = if (b.length == 0) = false ∧ a.length ≤ 16000000 then some (.d (.tup [.str (Txt.partition a b).1, .str (Txt.partition a b).2.1, .str (Txt.partition a b).2.2])) else none := by kernel_rfl
@[simp] theorem ixF_l : ixF (.lst xs) (.int i) = L2.atI xs i := rfl
@[simp] theorem ixF_t : ixF (.tup xs) (.int i) = L2.atI xs i := rfl
@[simp] theorem ixF_s : ixF (.str a) (.int i) = if a.length ≤ 16000000 then (match L2.atI a.cps.toList i with | some c => some (.str ⟨#[c]⟩) | none => none) else none := rfl
@[simp] theorem slF_s {lo hi : Option Int} : slF (.str a) lo hi = if a.length ≤ 16000000 then some (.d (.str (cutS a lo hi))) else none := rfl
@[simp] theorem slF_l {lo hi : Option Int} : slF (.lst xs) lo hi = some (.l (cutD xs lo hi)) := rfl
@[simp] theorem slF_t {lo hi : Option Int} : slF (.tup xs) lo hi = some (.d (.tup (cutD xs lo hi))) := rfl
@[simp] theorem slF_c {ns : List Int} {lo hi : Option Int} : slF (.scr ns) lo hi = some (.l (cutD (ns.map .int) lo hi)) := rfl
@[simp] theorem items_l : itemsQ (.lst xs) = some xs := rfl
@[simp] theorem items_t : itemsQ (.tup xs) = some xs := rfl
@[simp] theorem items_s : itemsQ (.str a) = some (signs a) := rfl
@[simp] theorem items_c {ns : List Int} : itemsQ (.scr ns) = some (ns.map .int) := rfl
@[simp] theorem eqB_t {p : Bool} : eqB true p = p := rfl
@[simp] theorem eqB_f {p : Bool} : eqB false p = !p := rfl
end
@[simp] theorem refill_nil {os : List O} {ρ : Rho} : refill [] os ρ = ρ := by cases os <;> simp [refill]
@[simp] theorem refill_n {o o' : O} {as : List AO} {os : List O} {ρ : Rho} : refill ((o, none) :: as) (o' :: os) ρ = refill as os ρ := by simp [refill]
@[simp] theorem refill_s {o o' : O} {i : Nat} {as : List AO} {os : List O} {ρ : Rho} : refill ((o, some i) :: as) (o' :: os) ρ = (refill as os ρ).set i (some o') := by simp [refill]
@[simp] theorem outs_nil {pin : List Nat} {ρ : Rho} {j : Nat} : outsF pin ρ j [] = some [] := by simp [outsF]
@[simp] theorem outs_fz {pin : List Nat} {ρ : Rho} {j : Nat} {d : D} {os : List O} : outsF pin ρ j (.fz d :: os) = (match outsF pin ρ (j + 1) os with | some os' => some (.fz d :: os') | none => none) := by
  conv => lhs; unfold outsF
  first | done | rfl | (cases outsF pin ρ (j + 1) os <;> rfl)
@[simp] theorem outs_lst {pin : List Nat} {ρ : Rho} {j : Nat} {xs : List O} {os : List O} : outsF pin ρ j (.lst xs :: os) = (if j ∈ pin then (match ρ[j]?, outsF pin ρ (j + 1) os with | some (some o'), some os' => some (o' :: os') | _, _ => none) else none) := by
  conv => lhs; unfold outsF
  first | done | rfl
/-! loops -/
@[simp] theorem forL_nil {turn : D → Rho → Res Fw} {ρ : Rho} : forL turn [] ρ = .ok .nx ρ := rfl
theorem forL_cons {turn : D → Rho → Res Fw} {d : D} {ds : List D} {ρ : Rho} : forL turn (d :: ds) ρ = for1 turn ds (turn d ρ) := rfl
@[simp] theorem for1_nx {turn : D → Rho → Res Fw} {ds : List D} {ρ : Rho} : for1 turn ds (.ok .nx ρ) = forL turn ds ρ := rfl
@[simp] theorem for1_cont {turn : D → Rho → Res Fw} {ds : List D} {ρ : Rho} : for1 turn ds (.ok .cont ρ) = forL turn ds ρ := rfl
@[simp] theorem for1_brk {turn : D → Rho → Res Fw} {ds : List D} {ρ : Rho} : for1 turn ds (.ok .brk ρ) = .ok .nx ρ := rfl
@[simp] theorem for1_ret {turn : D → Rho → Res Fw} {ds : List D} {o : O} {ρ : Rho} : for1 turn ds (.ok (.ret o) ρ) = .ok (.ret o) ρ := rfl
@[simp] theorem for1_exc {turn : D → Rho → Res Fw} {ds : List D} {c : Exc} {ρ : Rho} : for1 turn ds (.exc c ρ) = .exc c ρ := rfl
/-- a loop whose turns change a state that f tells -/
theorem forL_fold {α : Type} {turn : D → Rho → Res Fw} (st : α → Rho → Prop) (f : α → D → α) (ds : List D) (h : ∀ a ρ d, d ∈ ds → st a ρ → ∃ ρ', turn d ρ = .ok .nx ρ' ∧ st (f a d) ρ') : ∀ a ρ, st a ρ → ∃ ρ', forL turn ds ρ = .ok .nx ρ' ∧ st (ds.foldl f a) ρ' := by
  induction ds with
  | nil => intro a ρ hs; exact ⟨ρ, rfl, hs⟩
  | cons d ds ih =>
    intro a ρ hs
    obtain ⟨ρ1, e1, s1⟩ := h a ρ d List.mem_cons_self hs
    obtain ⟨ρ2, e2, s2⟩ := ih (fun a ρ d hd => h a ρ d (List.mem_cons_of_mem _ hd)) (f a d) ρ1 s1
    exact ⟨ρ2, by rw [forL_cons, e1]; exact e2, s2⟩
/-- a comprehension's items, each by f; the slots as they were -/
theorem lcL_map {tgt : D → Rho → Option Rho} {el : Cl} {vs : List Nat} {ρ : Rho} (f : D → O) : ∀ (ds : List D) (acc : List O), (∀ d ∈ ds, ∃ ρ2 ρ4, tgt d ρ = some ρ2 ∧ el ρ2 = .ok (f d) ρ4 ∧ wipeR ρ4 vs = ρ) → wipeR ρ vs = ρ → lcL tgt yesR el vs ds acc ρ = .ok (acc ++ ds.map f) ρ
  | [], acc, h, hw => by unfold lcL; rw [hw]; simp
  | d :: ds, acc, h, hw => by
    obtain ⟨ρ2, ρ4, e1, e2, e3⟩ := h d List.mem_cons_self
    unfold lcL
    rw [e1]
    simp only [yesR, e2, e3]
    rw [lcL_map f ds _ (fun d hd => h d (List.mem_cons_of_mem _ hd)) hw]
    simp
/-- .. those that p takes -/
theorem lcL_filter {tgt : D → Rho → Option Rho} {tst : ClT} {el : Cl} {vs : List Nat} {ρ : Rho} (p : D → Bool) (f : D → O) : ∀ (ds : List D) (acc : List O), (∀ d ∈ ds, ∃ ρ2 ρ3, tgt d ρ = some ρ2 ∧ tst ρ2 = .ok (p d) ρ3 ∧ wipeR ρ3 vs = ρ ∧ (p d = true → ∃ ρ4, el ρ3 = .ok (f d) ρ4 ∧ wipeR ρ4 vs = ρ)) → wipeR ρ vs = ρ → lcL tgt tst el vs ds acc ρ = .ok (acc ++ (ds.filter p).map f) ρ
  | [], acc, h, hw => by unfold lcL; rw [hw]; simp
  | d :: ds, acc, h, hw => by
    obtain ⟨ρ2, ρ3, e1, e2, e3, e4⟩ := h d List.mem_cons_self
    unfold lcL
    rw [e1]
    simp only [e2]
    cases hp : p d with
    | false =>
      simp only [e3]
      rw [lcL_filter p f ds _ (fun d hd => h d (List.mem_cons_of_mem _ hd)) hw]
      simp [hp]
    | true =>
      obtain ⟨ρ4, e5, e6⟩ := e4 hp
      simp only [e5, e6]
      rw [lcL_filter p f ds _ (fun d hd => h d (List.mem_cons_of_mem _ hd)) hw]
      simp [hp]
/-- .. where f tells none the element raises c -/
theorem lcL_try {tgt : D → Rho → Option Rho} {el : Cl} {vs : List Nat} {ρ : Rho} {c : Exc} (f : D → Option O) : ∀ (ds : List D) (acc : List O), (∀ d ∈ ds, ∃ ρ2 ρ4, tgt d ρ = some ρ2 ∧ wipeR ρ4 vs = ρ ∧ match f d with | some o => el ρ2 = .ok o ρ4 | none => el ρ2 = .exc c ρ4) → wipeR ρ vs = ρ →
    lcL tgt yesR el vs ds acc ρ = (match ds.mapM f with | some os => .ok (acc ++ os) ρ | none => .exc c ρ)
  | [], acc, h, hw => by unfold lcL; rw [hw]; simp
  | d :: ds, acc, h, hw => by
    obtain ⟨ρ2, ρ4, e1, e3, e2⟩ := h d List.mem_cons_self
    unfold lcL
    rw [e1, List.mapM_cons]
    simp only [yesR]
    cases hf : f d with
    | none =>
      rw [hf] at e2
      simp only at e2
      simp only [e2, e3]
      rfl
    | some o =>
      rw [hf] at e2
      simp only at e2
      simp only [e2, e3]
      rw [lcL_try f ds _ (fun d hd => h d (List.mem_cons_of_mem _ hd)) hw]
      cases ds.mapM f <;> simp
end Fr

set_option Elab.async false
set_option linter.all false
set_option maxRecDepth 100000
set_option maxHeartbeats 4000000
/-! In8: loops that look for one; cuts of known lists. -/
namespace Fr
open PySem PySem.Spec PyProof.Rows L2
@[simp] theorem ifR_not {α : Sort _} {b : Bool} {x y : α} : ifR (!b) x y = ifR b y x := by cases b <;> rfl
@[simp] theorem ifR_tf {b : Bool} : ifR b true false = b := by cases b <;> rfl
@[simp] theorem ifR_ft {b : Bool} : ifR b false true = !b := by cases b <;> rfl
@[simp] theorem ifR_frok {b : Bool} {o o' : O} {os : List O} {w : Rho} : ifR b (FRes.ok o os w) (FRes.ok o' os w) = FRes.ok (ifR b o o') os w := by cases b <;> rfl
@[simp] theorem frzL_mapf {α : Type} {f : α → O} : ∀ {ds : List α}, frzL (ds.map f) = ds.map fun d => (f d).frz
  | [] => by simp
  | d :: ds => by simp [frzL_mapf (ds := ds)]
@[simp] theorem blsQ_f {α : Type} {f : α → Bool} : ∀ {ds : List α}, blsQ (ds.map fun d => .bl (f d)) = some (ds.map f)
  | [] => rfl
  | d :: ds => by rw [List.map_cons, blsQ, blsQ_f (ds := ds)]; rfl
@[simp] theorem strsQ_f {α : Type} {f : α → Str} : ∀ {ds : List α}, strsQ (ds.map fun d => .str (f d)) = some (ds.map f)
  | [] => rfl
  | d :: ds => by rw [List.map_cons, strsQ, strsQ_f (ds := ds)]; rfl
@[simp] theorem strsQ_g : ∀ {ds : List Str}, strsQ (ds.map .str) = some ds
  | [] => rfl
  | d :: ds => by rw [List.map_cons, strsQ, strsQ_g (ds := ds)]
@[simp] theorem strsQ_nil : strsQ [] = some [] := rfl
@[simp] theorem strsQ_cons {z : Str} {ds : List D} : strsQ (.str z :: ds) = (strsQ ds).map (z :: ·) := by rw [strsQ]; cases strsQ ds <;> rfl
@[simp] theorem intsQ_f {α : Type} {f : α → Int} : ∀ {ds : List α}, intsQ (ds.map fun d => .int (f d)) = some (ds.map f)
  | [] => rfl
  | d :: ds => by rw [List.map_cons, intsQ, intsQ_f (ds := ds)]; rfl
@[simp] theorem wipeR_nil {ρ : Rho} : wipeR ρ [] = ρ := rfl
@[simp] theorem wipeR_cons {ρ : Rho} {i : Nat} {is : List Nat} : wipeR ρ (i :: is) = (wipeR ρ is).set i none := rfl
theorem map_toNat : ∀ {a b : List Char}, a.map Char.toNat = b.map Char.toNat → a = b
  | [], [], _ => rfl
  | [], _ :: _, h => by cases h
  | _ :: _, [], h => by cases h
  | c :: a, d :: b, h => by
    injection h with h1 h2
    rw [map_toNat h2, show c = d from Char.ext (UInt32.toNat_inj.mp h1)]
@[simp] theorem ofString_inj {a b : String} : Str.ofString a = Str.ofString b ↔ a = b := by
  refine ⟨fun h => ?_, fun h => by rw [h]⟩
  rw [Str.ofString_eq_toList, Str.ofString_eq_toList] at h
  injection h with h
  have h2 : a.toList.map Char.toNat = b.toList.map Char.toNat := by simpa using h
  exact String.toList_inj.mp (map_toNat h2)
@[simp] theorem ixN32 : L2.ixN 3 2 = some 2 := rfl
@[simp] theorem ixN31 : L2.ixN 3 1 = some 1 := rfl
theorem mapM_comp {α β γ δ : Type} {f : β → Option γ} {g : α → β} (h : α → Option δ) (k : δ → γ) (e : ∀ a, f (g a) = (h a).map k) : ∀ l : List α, (l.map g).mapM f = (l.mapM h).map (List.map k)
  | [] => rfl
  | a :: l => by
    rw [List.map_cons, List.mapM_cons, List.mapM_cons, e, mapM_comp h k e l]
    cases h a with
    | none => rfl
    | some d => cases l.mapM h <;> rfl
theorem loop_ret {turn : D → Rho → Res Fw} {m : Res Fw} (p : D → Bool) (I : Rho → Prop) (o : O) : ∀ {ds : List D} {ρ : Rho}, forL turn ds ρ = m → I ρ → (∀ d ∈ ds, ∀ ρ, I ρ → ∃ ρ', I ρ' ∧ turn d ρ = ifR (p d) (.ok .nx ρ') (.ok (.ret o) ρ')) → ∃ ρ', I ρ' ∧ m = ifR (ds.all p) (.ok .nx ρ') (.ok (.ret o) ρ')
  | [], ρ, e, hI, _ => ⟨ρ, hI, e.symm⟩
  | d :: ds, ρ, e, hI, ht => by
    obtain ⟨ρ1, h1, e1⟩ := ht d List.mem_cons_self ρ hI
    rw [forL_cons, e1] at e
    rw [List.all_cons]
    cases hp : p d with
    | false =>
      rw [hp] at e
      exact ⟨ρ1, h1, e.symm⟩
    | true =>
      rw [hp] at e
      exact loop_ret p I o (ds := ds) (ρ := ρ1) e h1 fun d hd => ht d (List.mem_cons_of_mem _ hd)
theorem loop_exc {turn : D → Rho → Res Fw} {m : Res Fw} (p : D → Bool) (I : Rho → Prop) (c : Exc) : ∀ {ds : List D} {ρ : Rho}, forL turn ds ρ = m → I ρ → (∀ d ∈ ds, ∀ ρ, I ρ → ∃ ρ', I ρ' ∧ turn d ρ = ifR (p d) (.ok .nx ρ') (.exc c ρ')) → ∃ ρ', I ρ' ∧ m = ifR (ds.all p) (.ok .nx ρ') (.exc c ρ')
  | [], ρ, e, hI, _ => ⟨ρ, hI, e.symm⟩
  | d :: ds, ρ, e, hI, ht => by
    obtain ⟨ρ1, h1, e1⟩ := ht d List.mem_cons_self ρ hI
    rw [forL_cons, e1] at e
    rw [List.all_cons]
    cases hp : p d with
    | false =>
      rw [hp] at e
      exact ⟨ρ1, h1, e.symm⟩
    | true =>
      rw [hp] at e
      exact loop_exc p I c (ds := ds) (ρ := ρ1) e h1 fun d hd => ht d (List.mem_cons_of_mem _ hd)
/-- a loop that always goes on, its state told by the items left -/
theorem loop_nx {turn : D → Rho → Res Fw} {m : Res Fw} (I : List D → Rho → Prop) : ∀ {ds : List D} {ρ : Rho}, forL turn ds ρ = m → I ds ρ → (∀ d ds' ρ, d ∈ ds → I (d :: ds') ρ → ∃ ρ', I ds' ρ' ∧ turn d ρ = .ok .nx ρ') → ∃ ρ', I [] ρ' ∧ m = .ok .nx ρ'
  | [], ρ, e, hI, _ => ⟨ρ, hI, e.symm⟩
  | d :: ds, ρ, e, hI, ht => by
    obtain ⟨ρ1, h1, e1⟩ := ht d ds ρ List.mem_cons_self hI
    rw [forL_cons, e1] at e
    exact loop_nx I (ds := ds) (ρ := ρ1) e h1 fun d ds' ρ hd => ht d ds' ρ (List.mem_cons_of_mem _ hd)
@[simp] theorem signs_all {z : Str} {p : D → Bool} : (signs z).all p = z.cps.toList.all fun c => p (.str ⟨#[c]⟩) := by
  unfold signs
  rw [List.all_map]
  rfl
theorem mem_signs {z : Str} {d : D} (h : d ∈ signs z) : ∃ c, d = .str ⟨#[c]⟩ := by
  unfold signs at h
  obtain ⟨c, _, rfl⟩ := List.mem_map.mp h
  exact ⟨c, rfl⟩
@[simp] theorem cutD_1 {x : D} {xs : List D} : cutD (x :: xs) (some 1) none = xs := by
  unfold cutD
  simp [HT.sIx]
@[simp] theorem cutD_25 {a b c d e f : D} : cutD [a, b, c, d, e, f] (some 2) (some 5) = [c, d, e] := rfl
theorem cutD_mid {x l : D} {xs : List D} : cutD (x :: (xs ++ [l])) (some 1) (some (-1)) = xs := by
  unfold cutD
  simp [HT.sIx]
  rw [show (-1 + ((xs.length : Int) + 1 + 1)).toNat - 1 = xs.length from by omega]
  simp
theorem atI_neg {x l : D} {xs : List D} : L2.atI (x :: (xs ++ [l])) (-1) = some l := by
  unfold L2.atI L2.ixN
  have h : ((-1 : Int) + ((x :: (xs ++ [l])).length : Nat)).toNat = xs.length + 1 := by simp; omega
  rw [if_neg (by decide), if_pos (by simp; omega), h]
  simp
@[simp] theorem at_0 {α : Type} {x : α} {xs : List α} : L2.atI (x :: xs) 0 = some x := by
  unfold L2.atI L2.ixN
  rw [if_pos (by decide), if_pos (by simp <;> omega)]
  simp
@[simp] theorem at_1 {α : Type} {x y : α} {xs : List α} : L2.atI (x :: y :: xs) 1 = some y := by
  unfold L2.atI L2.ixN
  rw [if_pos (by decide), if_pos (by simp <;> omega)]
  simp
@[simp] theorem at_2 {α : Type} {x y z : α} {xs : List α} : L2.atI (x :: y :: z :: xs) 2 = some z := by
  unfold L2.atI L2.ixN
  rw [if_pos (by decide), if_pos (by simp <;> omega)]
  simp
@[simp] theorem at_3 {α : Type} {x y z a : α} {xs : List α} : L2.atI (x :: y :: z :: a :: xs) 3 = some a := by
  unfold L2.atI L2.ixN
  rw [if_pos (by decide), if_pos (by simp <;> omega)]
  simp
@[simp] theorem at_4 {α : Type} {x y z a b : α} {xs : List α} : L2.atI (x :: y :: z :: a :: b :: xs) 4 = some b := by
  unfold L2.atI L2.ixN
  rw [if_pos (by decide), if_pos (by simp <;> omega)]
  simp
@[simp] theorem at_5 {α : Type} {x y z a b c : α} {xs : List α} : L2.atI (x :: y :: z :: a :: b :: c :: xs) 5 = some c := by
  unfold L2.atI L2.ixN
  rw [if_pos (by decide), if_pos (by simp <;> omega)]
  simp
end Fr

set_option Elab.async false
set_option linter.all false
set_option maxRecDepth 100000
set_option maxHeartbeats 4000000
/-! Pl: what the package's small defs tell, in plain Lean. -/
namespace Fr
open PySem PySem.Spec PyProof.Rows L2
abbrev noText : Exc := { name := "NoText" }
def isWhole (d : D) (l m : Int) : Bool := match d with
  | .int i => decide (l ≤ i) && decide (i ≤ m)
  | _ => false
@[simp] theorem isWhole_i {i l m : Int} : isWhole (.int i) l m = (decide (l ≤ i) && decide (i ≤ m)) := rfl
theorem isWhole_int {d : D} {a b : Int} (h : isWhole d a b = true) : ∃ i, d = .int i ∧ a ≤ i ∧ i ≤ b := by
  cases d <;> simp [isWhole] at h
  exact ⟨_, rfl, h⟩
mutual
/-- no exception inside, no great text -/
def cl : D → Bool
  | .exn _ => false
  | .str z => decide (z.length ≤ 100000)
  | .tup xs => clL xs
  | .lst xs => clL xs
  | .dic _ xs => clL xs
  | _ => true
def clL : List D → Bool
  | [] => true
  | x :: xs => cl x && clL xs
end
@[simp] theorem clL_nil : clL [] = true := by rw [clL]
@[simp] theorem clL_cons (x : D) (xs : List D) : clL (x :: xs) = (cl x && clL xs) := by rw [clL]
@[simp] theorem cl_tup (xs : List D) : cl (.tup xs) = clL xs := by rw [cl]
@[simp] theorem cl_lst (xs : List D) : cl (.lst xs) = clL xs := by rw [cl]
@[simp] theorem cl_int (i : Int) : cl (.int i) = true := by rw [cl] <;> simp
@[simp] theorem cl_bl (i : Bool) : cl (.bl i) = true := by rw [cl] <;> simp
@[simp] theorem cl_non : cl .non = true := by rw [cl] <;> simp
@[simp] theorem cl_str (z : Str) : cl (.str z) = decide (z.length ≤ 100000) := by rw [cl]
theorem cl_ex {d : D} (h : cl d = true) : d.ex = false := by
  cases d <;> first | rfl | (rw [cl] at h; cases h)
theorem clL_all : ∀ {xs : List D}, clL xs = true ↔ ∀ x ∈ xs, cl x = true
  | [] => by simp
  | x :: xs => by simp [clL_all (xs := xs)]
def nameOk (z : Str) : Bool := (decide (1 ≤ (z.length : Int)) && decide ((z.length : Int) ≤ 8)) && z.cps.toList.all fun c => decide (c ∈ ("abcdefghijklmnopqrstuvwxyz" : Str).cps.toList)
def isName (d : D) : Bool := match d with
  | .str z => nameOk z
  | _ => false
def ltD : D → D → Bool
  | .int i, .int j => decide (i < j)
  | _, _ => false
def isRobeD (d : D) : Bool := match d with
  | .tup [a, b, c] => isWhole a 1 999 && isWhole b 0 99 && isWhole c 0 99 && ltD b a
  | _ => false
def isPart (d : D) : Bool := match d with
  | .tup [x, a, b, c] => isName x && isRobeD (.tup [a, b, c])
  | _ => false
def areParts (d : D) : Bool := match d with
  | .tup ps => (decide (1 ≤ (ps.length : Int)) && decide ((ps.length : Int) ≤ 4)) && ps.all isPart
  | _ => false
def one1 (p : D → Bool) (xs : List D) : Bool := match xs with
  | [x] => p x
  | _ => false
def two2 (p q : D → Bool) (xs : List D) : Bool := match xs with
  | [x, y] => p x && q y
  | _ => false
@[simp] theorem one1_1 {p : D → Bool} {x : D} : one1 p [x] = p x := rfl
@[simp] theorem two2_2 {p q : D → Bool} {x y : D} : two2 p q [x, y] = (p x && q y) := rfl
def lookP : List (Str × (List D → Bool)) := [("buy", one1 fun d => isWhole d 1 1000000), ("sew", fun xs => isPart (.tup xs)), ("hand", two2 isName isName), ("back", one1 isName), ("mend", two2 isName fun d => isWhole d 0 9999), ("alter", two2 isName fun d => isWhole d 1 1098), ("cut", two2 isName areParts), ("cast", one1 isName), ("grow", two2 isName fun d => isWhole d 1 500), ("mark", two2 isName fun d => isWhole d 1 999), ("fade", one1 isName)]
def ltMid (mid : List D) (l : D) : Bool := match mid with
  | [_, a] => ltD a l
  | _ => false
def isDeedL (k : Str) (mid : List D) (l : D) : Bool := (match lookP.lookup k with
  | none => false
  | some p => isWhole l 0 9999 && p mid) && (!decide (k = "mend") || ltMid mid l)
def num1 (w : Str) : Bool := !(decide (1 ≤ (w.length : Int)) && decide ((w.length : Int) ≤ 60)) || (decide (w.cps.toList[0]? = some 48) && !decide (w = "0"))
def digs (w : Str) : Bool := w.cps.toList.all fun c => decide (c ∈ ("0123456789" : Str).cps.toList)
def numOf (w : Str) : Option Int := if num1 w then none else if digs w then some ((NumText.digitsVal w.cps.toList : Nat) : Int) else none
theorem cons_of {w : Str} (h : 1 ≤ (w.length : Int)) : ∃ c cs, w.cps.toList = c :: cs := by
  cases e : w.cps.toList with
  | nil =>
    have : w.length = 0 := by rw [show w.length = w.cps.toList.length from by simp [Str.length], e]; rfl
    omega
  | cons c cs => exact ⟨c, cs, rfl⟩
theorem one_eq (c n : Nat) : (decide ((⟨#[c]⟩ : Str) = ⟨#[n]⟩)) = decide (c = n) := by
  by_cases h : c = n
  · subst h; simp
  · rw [decide_eq_false h, decide_eq_false]
    intro e
    injection e with e
    exact h (by simpa using e)

theorem s48 : ("0" : Str) = ⟨#[48]⟩ := by decide
theorem digs_all {w : Str} (h : digs w = true) : NumText.AllDigits w.cps.toList := fun c hc => by
  have h1 := List.all_eq_true.mp h c hc
  have h2 : c ∈ ("0123456789" : Str).cps.toList := of_decide_eq_true h1
  have e : ("0123456789" : Str).cps.toList = [48, 49, 50, 51, 52, 53, 54, 55, 56, 57] := by decide
  rw [e] at h2
  simp at h2
  omega
theorem num1_ne {w : Str} (h : num1 w = false) : 1 ≤ (w.length : Int) ∧ (w.length : Int) ≤ 60 := by
  unfold num1 at h
  simp at h
  omega
theorem le_sum : ∀ {l : List Nat} {n : Nat}, n ∈ l → n ≤ l.sum
  | a :: l, n, h => by
    rw [List.sum_cons]
    rcases List.mem_cons.mp h with e | h
    · omega
    · have := le_sum h
      omega
theorem split_small {z : Str} (h : z.length ≤ 50000) : (Txt.split z "/").length ≤ 50002 ∧ ∀ w ∈ Txt.split z "/", w.length ≤ 100000 := by
  have h1 := PyProof.Rows.split_le z "/"
  have h2 := PyProof.Rows.split_weight z "/" (by decide)
  refine ⟨by omega, fun w hw => ?_⟩
  have h3 : w.length ≤ ((Txt.split z "/").map (·.length)).sum := le_sum (List.mem_map_of_mem hw)
  omega
def readRobe (z : Str) : Option D := match (Txt.split z "/").mapM Fr.numOf with
  | some ns => if isRobeD (.tup (ns.map .int)) then some (.tup (ns.map .int)) else none
  | none => none
theorem cl_ints (ns : List Int) : clL (ns.map .int) = true := clL_all.mpr fun x hx => by
  obtain ⟨i, _, rfl⟩ := List.mem_map.mp hx
  simp
def partOf (z : Str) : Option D := if (Txt.partition z ":").2.1 = "" then none else match readRobe (Txt.partition z ":").2.2 with
  | some (.tup xs) => some (.tup (.str (Txt.partition z ":").1 :: xs))
  | _ => none
theorem readRobe_tup {z : Str} {d : D} (h : readRobe z = some d) : ∃ xs, d = .tup xs ∧ xs.length = 3 := by
  unfold readRobe at h
  cases e : (Txt.split z "/").mapM Fr.numOf with
  | none => rw [e] at h; cases h
  | some ns =>
    rw [e] at h
    dsimp only at h
    split at h
    · rename_i hr
      cases h
      refine ⟨_, rfl, ?_⟩
      revert hr
      generalize ns.map D.int = xs
      intro hr
      unfold isRobeD at hr
      split at hr
      · rename_i h; injection h with h; rw [h]; rfl
      · cases hr
    · cases h
def thingsOf (z k : Str) : Option (List D) := if k = "n" then (Fr.numOf z).map fun i => [.int i] else if k = "r" then (match readRobe z with
  | some (.tup xs) => some xs
  | _ => none) else if k = "p" then ((Txt.split z ",").mapM partOf).map fun ds => [.tup ds] else some [.str z]
theorem part_le (z s : Str) : (Txt.partition z s).2.2.length ≤ z.length := by
  unfold Txt.partition
  split
  · simp [Builtin.Str.strSub, Str.length]
  · exact Nat.zero_le _
theorem split_small' {z : Str} (h : z.length ≤ 50000) : (Txt.split z ",").length ≤ 50002 ∧ ∀ w ∈ Txt.split z ",", w.length ≤ 50000 := by
  have h1 := PyProof.Rows.split_le z ","
  have h2 := PyProof.Rows.split_weight z "," (by decide)
  refine ⟨by omega, fun w hw => ?_⟩
  have h4 := List.length_pos_of_mem hw
  have h3 : w.length ≤ ((Txt.split z ",").map (·.length)).sum := le_sum (List.mem_map_of_mem hw)
  omega
theorem partOf_tup {z : Str} {d : D} (h : partOf z = some d) : ∃ xs, d = .tup xs := by
  unfold partOf at h
  split at h
  · cases h
  · split at h
    · cases h; exact ⟨_, rfl⟩
    · cases h
def formsP : List (Str × Str) := [("buy", "nn"), ("sew", "wrn"), ("hand", "wwn"), ("back", "wn"), ("mend", "wnn"), ("alter", "wnn"), ("cut", "wpn"), ("cast", "wn"), ("grow", "wnn"), ("mark", "wnn"), ("fade", "wn")]
/-- the things of the words, each by its form's sign -/
def thingsL : List Str → List Nat → Option (List D)
  | w :: ws, c :: cs => (match thingsOf w ⟨#[c]⟩, thingsL ws cs with
    | some ds, some es => some (ds ++ es)
    | _, _ => none)
  | _, _ => some []
/-- texts kept short -/
def strShort (n : Nat) (d : D) : Prop := ∀ z, d = .str z → z.length ≤ n
end Fr

set_option Elab.async false
set_option linter.all false
set_option maxRecDepth 100000
set_option maxHeartbeats 4000000
/-! Pd: deeds as data, their texts, and that a text is read back. -/
namespace Fr
open PySem PySem.Spec PyProof.Rows L2
open TL (tl numL)
theorem str_ext' {a b : Str} (h : a.cps.toList = b.cps.toList) : a = b := by
  obtain ⟨a⟩ := a
  obtain ⟨b⟩ := b
  have : a = b := by simpa using h
  rw [this]
theorem app_cps' (a b : Str) : (a ++ b).cps.toList = a.cps.toList ++ b.cps.toList := TL.tl_append a b
/-! numbers -/
theorem num_tl {i : Int} (h : 0 ≤ i) : (numT i).cps.toList = numL i.toNat := by
  have e : i = ((i.toNat : Nat) : Int) := (Int.toNat_of_nonneg h).symm
  have := TL.tl_num i.toNat
  rw [← e] at this
  exact this
theorem num_len {i : Int} (h : 0 ≤ i) (h1 : i ≤ 9999999) : (numT i).length ≤ 7 := by
  have := TL.numL_len (n := i.toNat) (k := 7) (by decide) (by omega)
  rw [← num_tl h] at this
  exact this
theorem numL_head : ∀ (n : Nat), 0 < n → (numL n)[0]? ≠ some 48 := by
  intro n
  induction n using Nat.strongRecOn with
  | _ n ih =>
    intro h0
    by_cases h : n < 10
    · rw [TL.numL_lt h]
      simp
      omega
    · rw [TL.numL_step (by omega), List.getElem?_append_left (List.length_pos_iff.mpr (TL.numL_ne _))]
      exact ih (n / 10) (by omega) (by omega)
theorem numOf_num {i : Int} (h : 0 ≤ i) (h1 : i ≤ 9999999) : Fr.numOf (numT i) = some i := by
  have ht := num_tl h
  have hl := num_len h h1
  have hne : 1 ≤ (numT i).length := by
    have := List.length_pos_iff.mpr (TL.numL_ne i.toNat)
    rw [← ht] at this
    exact this
  have e1 : num1 (numT i) = false := by
    unfold num1
    rw [ht]
    by_cases h0 : i = 0
    · subst h0
      decide
    · have := numL_head i.toNat (by omega)
      simp [this]
      omega
  have e2 : digs (numT i) = true := by
    unfold digs
    rw [ht, List.all_eq_true]
    intro c hc
    have := TL.numL_digits i.toNat c hc
    have e : ("0123456789" : Str).cps.toList = [48, 49, 50, 51, 52, 53, 54, 55, 56, 57] := by decide
    rw [e]
    simp
    omega
  unfold Fr.numOf
  rw [if_neg (by rw [e1]; decide), if_pos e2, ht, TL.numL_val, Int.toNat_of_nonneg h]
/-- only signs that p takes -/
def OnlyC (p : Nat → Prop) (z : Str) : Prop := ∀ c ∈ z.cps.toList, p c
theorem OnlyC.mono {p q : Nat → Prop} {z : Str} (h : OnlyC p z) (i : ∀ c, p c → q c) : OnlyC q z := fun c hc => i c (h c hc)
theorem OnlyC.app {p : Nat → Prop} {a b : Str} (h : OnlyC p a) (h' : OnlyC p b) : OnlyC p (a ++ b) := by
  intro c hc
  rw [app_cps'] at hc
  rcases List.mem_append.mp hc with hc | hc
  · exact h c hc
  · exact h' c hc
theorem mem_joinL {S : List Nat} {c : Nat} : ∀ {ls : List (List Nat)}, c ∈ TL.joinL S ls → c ∈ S ∨ ∃ l ∈ ls, c ∈ l
  | [], h => by cases h
  | [l], h => .inr ⟨l, List.mem_singleton.mpr rfl, h⟩
  | l :: m :: r, h => by
    have h : c ∈ l ++ (S ++ TL.joinL S (m :: r)) := h
    rcases List.mem_append.mp h with h | h
    · exact .inr ⟨l, List.mem_cons_self, h⟩
    · rcases List.mem_append.mp h with h | h
      · exact .inl h
      · rcases mem_joinL h with h | ⟨k, hk, h⟩
        · exact .inl h
        · exact .inr ⟨k, List.mem_cons_of_mem _ hk, h⟩
theorem OnlyC.join {p : Nat → Prop} {y : Str} {zs : List Str} (hy : OnlyC p y) (h : ∀ z ∈ zs, OnlyC p z) : OnlyC p (Txt.join y zs) := by
  intro c hc
  rw [TL.join_eq] at hc
  have hc : c ∈ tl (Str.join y zs) := hc
  rw [TL.tl_join] at hc
  rcases mem_joinL hc with hc | ⟨l, hl, hc⟩
  · exact hy c hc
  · obtain ⟨z, hz, rfl⟩ := List.mem_map.mp hl
    exact h z hz c hc
theorem OnlyC.num {i : Int} (h : 0 ≤ i) : OnlyC (fun c => 48 ≤ c ∧ c ≤ 57) (numT i) := by
  intro c hc
  rw [num_tl h] at hc
  exact TL.numL_digits i.toNat c hc
theorem joinL_len {S : List Nat} {n : Nat} : ∀ {ls : List (List Nat)}, (∀ l ∈ ls, l.length ≤ n) → (TL.joinL S ls).length ≤ ls.length * (n + S.length)
  | [], _ => Nat.zero_le _
  | [l], h => by
    have := h l (List.mem_singleton.mpr rfl)
    show l.length ≤ 1 * (n + S.length)
    omega
  | l :: m :: r, h => by
    show (l ++ (S ++ TL.joinL S (m :: r))).length ≤ _
    have h1 := h l List.mem_cons_self
    have h2 := joinL_len (S := S) (n := n) (ls := m :: r) fun k hk => h k (List.mem_cons_of_mem _ hk)
    simp only [List.length_append, List.length_cons, Nat.add_mul, Nat.one_mul] at h2 ⊢
    omega
theorem join_len {y : Str} {zs : List Str} {n : Nat} (h : ∀ z ∈ zs, z.length ≤ n) : (Txt.join y zs).length ≤ zs.length * (n + y.length) := by
  rw [TL.join_eq]
  show (tl (Str.join y zs)).length ≤ _
  rw [TL.tl_join]
  have := joinL_len (S := tl y) (n := n) (ls := zs.map tl) (by
    intro l hl
    obtain ⟨z, hz, rfl⟩ := List.mem_map.mp hl
    exact h z hz)
  rw [List.length_map] at this
  exact this
/-! names -/
theorem OnlyC.name {z : Str} (h : nameOk z = true) : OnlyC (fun c => 97 ≤ c ∧ c ≤ 122) z := by
  intro c hc
  unfold nameOk at h
  rw [Bool.and_eq_true] at h
  have h1 : c ∈ ("abcdefghijklmnopqrstuvwxyz" : Str).cps.toList := of_decide_eq_true (List.all_eq_true.mp h.2 c hc)
  have e : ("abcdefghijklmnopqrstuvwxyz" : Str).cps.toList = [97, 98, 99, 100, 101, 102, 103, 104, 105, 106, 107, 108, 109, 110, 111, 112, 113, 114, 115, 116, 117, 118, 119, 120, 121, 122] := by decide
  rw [e] at h1
  simp at h1
  omega
theorem name_len {z : Str} (h : nameOk z = true) : z.length ≤ 8 := by
  unfold nameOk at h
  simp at h
  omega
/-! robes -/
structure RobeOk (s t o : Int) : Prop where
  s1 : 1 ≤ s
  s2 : s ≤ 999
  t1 : 0 ≤ t
  t2 : t ≤ 99
  o1 : 0 ≤ o
  o2 : o ≤ 99
  ts : t < s
def robeT (s t o : Int) : Str := Txt.join "/" [numT s, numT t, numT o]
theorem robe_app (s t o : Int) : robeT s t o = numT s ++ "/" ++ numT t ++ "/" ++ numT o := by
  unfold robeT
  rw [TL.join_eq]
  show (numT s ++ "/") ++ ((numT t ++ "/") ++ numT o) = _
  apply str_ext'
  simp only [app_cps', List.append_assoc]
theorem isRobe_ok {s t o : Int} (h : RobeOk s t o) : isRobeD (.tup [.int s, .int t, .int o]) = true := by
  obtain ⟨h1, h2, h3, h4, h5, h6, h7⟩ := h
  simp [isRobeD, ltD, h1, h2, h3, h4, h5, h6, h7]
theorem readRobe_ok {s t o : Int} (h : RobeOk s t o) : readRobe (robeT s t o) = some (.tup [.int s, .int t, .int o]) := by
  have hr := isRobe_ok h
  obtain ⟨h1, h2, h3, h4, h5, h6, h7⟩ := h
  have hsp : Txt.split (robeT s t o) "/" = [numT s, numT t, numT o] := by
    refine TL.split_join (s := 47) (S := []) (by decide +kernel) (by decide +kernel) (by simp) fun p hp hc => ?_
    simp only [List.mem_cons, List.not_mem_nil, or_false] at hp
    rcases hp with rfl | rfl | rfl
    · have := OnlyC.num (i := s) (by omega) _ hc
      omega
    · have := OnlyC.num h3 _ hc
      omega
    · have := OnlyC.num h5 _ hc
      omega
  unfold readRobe
  rw [hsp]
  simp [numOf_num (i := s) (by omega) (by omega), numOf_num h3 (by omega), numOf_num h5 (by omega), hr]
theorem OnlyC.robe {s t o : Int} (h : RobeOk s t o) : OnlyC (fun c => 47 ≤ c ∧ c ≤ 57) (robeT s t o) := by
  obtain ⟨h1, h2, h3, h4, h5, h6, h7⟩ := h
  refine OnlyC.join (by unfold OnlyC; decide +kernel) fun z hz => ?_
  simp only [List.mem_cons, List.not_mem_nil, or_false] at hz
  rcases hz with rfl | rfl | rfl
  · exact (OnlyC.num (i := s) (by omega)).mono fun c h => by omega
  · exact (OnlyC.num h3).mono fun c h => by omega
  · exact (OnlyC.num h5).mono fun c h => by omega
theorem robe_len {s t o : Int} (h : RobeOk s t o) : (robeT s t o).length ≤ 24 := by
  obtain ⟨h1, h2, h3, h4, h5, h6, h7⟩ := h
  refine Nat.le_trans (join_len (n := 7) fun z hz => ?_) (show 3 * (7 + ("/" : Str).length) ≤ 24 by decide)
  simp only [List.mem_cons, List.not_mem_nil, or_false] at hz
  rcases hz with rfl | rfl | rfl
  · exact num_len (by omega) (by omega)
  · exact num_len h3 (by omega)
  · exact num_len h5 (by omega)
/-! parts -/
structure Prt where
  x : Str
  s : Int
  t : Int
  o : Int
def Prt.ok (p : Prt) : Prop := nameOk p.x = true ∧ RobeOk p.s p.t p.o
def Prt.d (p : Prt) : D := .tup [.str p.x, .int p.s, .int p.t, .int p.o]
def Prt.txt (p : Prt) : Str := p.x ++ ":" ++ robeT p.s p.t p.o
theorem Prt.only {p : Prt} (h : p.ok) : OnlyC (fun c => (47 ≤ c ∧ c ≤ 58) ∨ (97 ≤ c ∧ c ≤ 122)) p.txt := by
  refine ((OnlyC.name h.1).mono fun c h => .inr h).app ?_ |>.app ((OnlyC.robe h.2).mono fun c h => .inl (by omega))
  unfold OnlyC
  decide +kernel
theorem Prt.len {p : Prt} (h : p.ok) : p.txt.length ≤ 33 := by
  have h1 := name_len h.1
  have h2 := robe_len h.2
  show (p.x ++ ":" ++ robeT p.s p.t p.o).cps.toList.length ≤ 33
  rw [app_cps', app_cps', List.length_append, List.length_append]
  have h3 : (":" : Str).cps.toList.length = 1 := by decide +kernel
  have h4 : p.x.cps.toList.length = p.x.length := rfl
  have h5 : (robeT p.s p.t p.o).cps.toList.length = (robeT p.s p.t p.o).length := rfl
  omega
theorem partOf_ok {p : Prt} (h : p.ok) : partOf p.txt = some p.d := by
  have e : Txt.partition p.txt ":" = (p.x, (":" : Str), robeT p.s p.t p.o) := TL.partition_app (s := 58) (S := []) (by decide +kernel) fun hc => by
    have := OnlyC.name h.1 _ hc
    omega
  unfold partOf
  rw [e]
  simp only
  rw [if_neg (by decide +kernel), readRobe_ok h.2]
  rfl
theorem isPart_ok {p : Prt} (h : p.ok) : isPart p.d = true := by
  unfold isPart Prt.d
  simp [isName, h.1, isRobe_ok h.2]
/-! fields -/
inductive Fd where
  | n (i : Int) | w (x : Str) | r (s t o : Int) | p (ps : List Prt)
namespace Fd
def ok : Fd → Prop
  | n i => 0 ≤ i ∧ i ≤ 9999999
  | w x => nameOk x = true
  | r s t o => RobeOk s t o
  | p ps => ps ≠ [] ∧ ps.length ≤ 4 ∧ ∀ q ∈ ps, q.ok
def ds : Fd → List D
  | n i => [.int i]
  | w x => [.str x]
  | r s t o => [.int s, .int t, .int o]
  | p ps => [.tup (ps.map Prt.d)]
def txt : Fd → Str
  | n i => numT i
  | w x => x
  | r s t o => robeT s t o
  | p ps => Txt.join "," (ps.map Prt.txt)
def kd : Fd → Nat
  | n _ => 110
  | w _ => 119
  | r _ _ _ => 114
  | p _ => 112
theorem only {f : Fd} (h : f.ok) : OnlyC (fun c => 33 ≤ c) f.txt := by
  cases f with
  | n i => exact (OnlyC.num h.1).mono fun c h => by omega
  | w x => exact (OnlyC.name h).mono fun c h => by omega
  | r s t o => exact (OnlyC.robe h).mono fun c h => by omega
  | p ps =>
    refine OnlyC.join (by unfold OnlyC; decide +kernel) fun z hz => ?_
    obtain ⟨q, hq, rfl⟩ := List.mem_map.mp hz
    exact (Prt.only (h.2.2 q hq)).mono fun c h => by omega
theorem len {f : Fd} (h : f.ok) : f.txt.length ≤ 200 := by
  cases f with
  | n i => exact Nat.le_trans (num_len h.1 h.2) (by decide)
  | w x => exact Nat.le_trans (name_len h) (by decide)
  | r s t o => exact Nat.le_trans (robe_len h) (by decide)
  | p ps =>
    refine Nat.le_trans (join_len (n := 33) fun z hz => ?_) ?_
    · obtain ⟨q, hq, rfl⟩ := List.mem_map.mp hz
      exact Prt.len (h.2.2 q hq)
    · have h1 := h.2.1
      have h2 : ("," : Str).length = 1 := by decide +kernel
      rw [List.length_map, h2]
      omega
theorem parts_mapM : ∀ {ps : List Prt}, (∀ q ∈ ps, q.ok) → (ps.map Prt.txt).mapM partOf = some (ps.map Prt.d)
  | [], _ => rfl
  | q :: ps, h => by
    rw [List.map_cons, List.mapM_cons, partOf_ok (h q List.mem_cons_self), parts_mapM fun q hq => h q (List.mem_cons_of_mem _ hq)]
    rfl
theorem things {f : Fd} (h : f.ok) : thingsOf f.txt ⟨#[f.kd]⟩ = some f.ds := by
  cases f with
  | n i =>
    have e : (⟨#[110]⟩ : Str) = "n" := by decide
    show thingsOf (numT i) ⟨#[110]⟩ = _
    unfold thingsOf
    rw [if_pos e, numOf_num h.1 h.2]
    rfl
  | w x =>
    show thingsOf x ⟨#[119]⟩ = _
    unfold thingsOf
    rw [if_neg (by decide), if_neg (by decide), if_neg (by decide)]
    rfl
  | r s t o =>
    show thingsOf (robeT s t o) ⟨#[114]⟩ = _
    unfold thingsOf
    rw [if_neg (by decide), if_pos (by decide), readRobe_ok h]
    rfl
  | p ps =>
    show thingsOf (Txt.join "," (ps.map Prt.txt)) ⟨#[112]⟩ = _
    have e : Txt.split (Txt.join "," (ps.map Prt.txt)) "," = ps.map Prt.txt := by
      refine TL.split_join (s := 44) (S := []) (by decide +kernel) (by decide +kernel) (by simpa using h.1) fun z hz hc => ?_
      obtain ⟨q, hq, rfl⟩ := List.mem_map.mp hz
      have := Prt.only (h.2.2 q hq) _ hc
      omega
    unfold thingsOf
    rw [if_neg (by decide), if_neg (by decide), if_pos (by decide), e, parts_mapM h.2.2]
    rfl
theorem ds_len {f : Fd} : f.ds.length ≤ 4 := by cases f <;> simp [ds]
end Fd
theorem thingsL_ok : ∀ {fs : List Fd}, (∀ f ∈ fs, f.ok) → thingsL (fs.map Fd.txt) (fs.map Fd.kd) = some (fs.flatMap Fd.ds)
  | [], _ => rfl
  | f :: fs, h => by
    rw [List.map_cons, List.map_cons, thingsL, Fd.things (h f List.mem_cons_self), thingsL_ok fun f hf => h f (List.mem_cons_of_mem _ hf)]
    simp
def words (k : Str) (fs : List Fd) : List Str := k :: fs.map Fd.txt
def deedT (k : Str) (fs : List Fd) : Str := Txt.join " " (words k fs)
def deedD (k : Str) (fs : List Fd) : D := .tup (.str k :: fs.flatMap Fd.ds)
theorem deed_split {k : Str} {fs : List Fd} (hk : OnlyC (fun c => 33 ≤ c) k) (h : ∀ f ∈ fs, f.ok) : Txt.split (deedT k fs) " " = words k fs := by
  refine TL.split_join (s := 32) (S := []) (by decide +kernel) (by decide +kernel) (by simp [words]) fun z hz hc => ?_
  rcases List.mem_cons.mp hz with rfl | hz
  · have := hk _ hc
    omega
  · obtain ⟨f, hf, rfl⟩ := List.mem_map.mp hz
    have := Fd.only (h f hf) _ hc
    omega
inductive Shape : Str → List Fd → Prop
  | sew (x : Str) (s t o d : Int) : Shape "sew" [.w x, .r s t o, .n d]
  | cut (x : Str) (ps : List Prt) (d : Int) : Shape "cut" [.w x, .p ps, .n d]
  | flat (k : Str) (fs : List Fd) : k ≠ "sew" → k ≠ "cut" → (∀ f ∈ fs, (∃ i, f = .n i) ∨ ∃ x, f = .w x) → Shape k fs
structure DeedOk (k : Str) (fs : List Fd) : Prop where
  fok : ∀ f ∈ fs, f.ok
  kc : OnlyC (fun c => 33 ≤ c) k
  kl : k.length ≤ 8
  form : ∃ form, formsP.lookup k = some form ∧ form.cps.toList = fs.map Fd.kd
  last : ∃ a mid l, fs.flatMap Fd.ds = a :: mid ++ [l] ∧ isDeedL k (a :: mid) l = true
  n3 : fs.length ≤ 3
  shape : Shape k fs
theorem Fd.cl_ds {f : Fd} (h : f.ok) : clL f.ds = true := by
  cases f with
  | n i => simp [Fd.ds]
  | w x =>
    have := name_len h
    simp [Fd.ds]
    omega
  | r s t o => simp [Fd.ds]
  | p ps =>
    have : clL (ps.map Prt.d) = true := clL_all.mpr fun d hd => by
      obtain ⟨q, hq, rfl⟩ := List.mem_map.mp hd
      have := name_len (h.2.2 q hq).1
      simp [Prt.d]
      omega
    simp [Fd.ds, this]
theorem cl_flat {fs : List Fd} (h : ∀ f ∈ fs, f.ok) : clL (fs.flatMap Fd.ds) = true := clL_all.mpr fun d hd => by
  obtain ⟨f, hf, hd⟩ := List.mem_flatMap.mp hd
  exact clL_all.mp (Fd.cl_ds (h f hf)) d hd
theorem words_len {k : Str} {fs : List Fd} (h : DeedOk k fs) : ∀ w ∈ words k fs, w.length ≤ 200 := by
  intro w hw
  rcases List.mem_cons.mp hw with rfl | hw
  · exact Nat.le_trans h.kl (by decide)
  · obtain ⟨f, hf, rfl⟩ := List.mem_map.mp hw
    exact Fd.len (h.fok f hf)
theorem deedT_len {k : Str} {fs : List Fd} (h : DeedOk k fs) : (deedT k fs).length ≤ 1000 := by
  have h1 := join_len (y := " ") (words_len h)
  have h2 : (" " : Str).length = 1 := by decide +kernel
  have h3 := h.n3
  rw [h2] at h1
  have h4 : (words k fs).length = fs.length + 1 := by simp [words]
  rw [h4] at h1
  show (Txt.join " " (words k fs)).length ≤ 1000
  omega
theorem kd_ascii {fs : List Fd} {form : Str} (h : form.cps.toList = fs.map Fd.kd) : form.cps.all (· < 128) = true := by
  rw [← Array.all_toList, h, List.all_eq_true]
  intro c hc
  obtain ⟨f, _, rfl⟩ := List.mem_map.mp hc
  cases f <;> simp [Fd.kd]
def strD : D → Str
  | .int i => numT i
  | .str x => x
  | _ => ""
@[simp] theorem strD_s {x : Str} : strD (.str x) = x := rfl
@[simp] theorem strD_i {x : Int} : strD (.int x) = numT x := rfl
def Fd.d1 : Fd → D
  | n i => .int i
  | w x => .str x
  | _ => .non
theorem flat_ds : ∀ {fs : List Fd}, (∀ f ∈ fs, (∃ i, f = .n i) ∨ ∃ x, f = .w x) → fs.flatMap Fd.ds = fs.map Fd.d1
  | [], _ => rfl
  | f :: fs, h => by
    rw [List.flatMap_cons, List.map_cons, flat_ds fun f hf => h f (List.mem_cons_of_mem _ hf)]
    rcases h f List.mem_cons_self with ⟨i, rfl⟩ | ⟨x, rfl⟩ <;> rfl
theorem flat_txt {fs : List Fd} (h : ∀ f ∈ fs, (∃ i, f = .n i) ∨ ∃ x, f = .w x) : fs.map (fun f => strD f.d1) = fs.map Fd.txt := by
  refine List.map_congr_left fun f hf => ?_
  rcases h f hf with ⟨i, rfl⟩ | ⟨x, rfl⟩ <;> rfl
theorem log_ok {i : Int} (h : 0 ≤ i) (h1 : i ≤ 9999999) : i.natAbs.log2 < 1920 := by
  have : i.natAbs ≤ 9999999 := by omega
  by_cases h0 : i.natAbs = 0
  · rw [h0]; decide
  · have : i.natAbs.log2 < 30 := (Nat.log2_lt h0).mpr (Nat.lt_of_le_of_lt this (by decide))
    omega
theorem str_flat {fs : List Fd} (h : ∀ f ∈ fs, (∃ i, f = .n i) ∨ ∃ x, f = .w x) (hf : ∀ f ∈ fs, f.ok) {d : D} (hd : d ∈ fs.map Fd.d1) : ctF "str" [d] = some (.d (.str (strD d))) := by
  obtain ⟨f, hm, rfl⟩ := List.mem_map.mp hd
  have h2 := hf f hm
  rcases h f hm with ⟨i, rfl⟩ | ⟨x, rfl⟩
  · simp [Fd.d1, strD, log_ok h2.1 h2.2]
  · simp [Fd.d1, strD]
def partS : D → Str
  | .tup [.str x, .int s, .int t, .int o] => Prt.txt ⟨x, s, t, o⟩
  | _ => ""
@[simp] theorem partS_d {q : Prt} : partS q.d = q.txt := rfl
@[simp] theorem len_app {a b : Str} : (a ++ b).length = a.length + b.length := by
  show (a ++ b).cps.toList.length = a.cps.toList.length + b.cps.toList.length
  rw [app_cps', List.length_append]
@[simp] theorem len_slash : (Str.ofString "/").length = 1 := by decide +kernel
@[simp] theorem len_colon : (Str.ofString ":").length = 1 := by decide +kernel
@[simp] theorem len_comma : (Str.ofString ",").length = 1 := by decide +kernel
@[simp] theorem len_space : (Str.ofString " ").length = 1 := by decide +kernel
@[simp] theorem len_empty : (Str.ofString "").length = 0 := by decide +kernel
theorem bop_adds_ok {a b : Str} (h : a.length + b.length ≤ 16000000) : bopF .Add (.str a) (.str b) = some (.d (.str (a ++ b))) := by rw [bop_adds, if_pos h]
theorem sum_le {n : Nat} : ∀ {zs : List Str}, (∀ z ∈ zs, z.length ≤ n) → (zs.map (·.length)).sum ≤ zs.length * n
  | [], _ => Nat.zero_le _
  | z :: zs, h => by
    have h1 := h z List.mem_cons_self
    have h2 := sum_le (n := n) (zs := zs) fun z hz => h z (List.mem_cons_of_mem _ hz)
    rw [List.map_cons, List.sum_cons, List.length_cons, Nat.add_mul, Nat.one_mul]
    omega
theorem thingsOf_len {z c : Str} {ds : List D} (h : thingsOf z c = some ds) : ds.length ≤ 4 := by
  unfold thingsOf at h
  split at h
  · cases e : Fr.numOf z with
    | none => rw [e] at h; cases h
    | some i => rw [e] at h; cases h; show 1 ≤ 4; decide
  · split at h
    · cases e : readRobe z with
      | none => rw [e] at h; cases h
      | some d =>
        obtain ⟨xs, rfl, hl⟩ := readRobe_tup e
        rw [e] at h
        cases h
        omega
    · split at h
      · cases e : (Txt.split z ",").mapM partOf with
        | none => rw [e] at h; cases h
        | some i => rw [e] at h; cases h; show 1 ≤ 4; decide
      · cases h; show 1 ≤ 4; decide
/-! the pen -/
def PenIs (k : Int) (ps : List O) : Prop := ∃ (cs : List Int) (a g : Int), ps = [.fz (.lst (cs.map .int)), .fz (.int a), .fz (.int g)] ∧ cs.length ≤ 63 ∧ 0 ≤ a ∧ a ≤ k ∧ 0 ≤ g
theorem PenIs.mono {k l : Int} {ps : List O} (h : PenIs k ps) (i : k ≤ l) : PenIs l ps := by
  obtain ⟨cs, a, g, e, h1, h2, h3, h4⟩ := h
  exact ⟨cs, a, g, e, h1, h2, by omega, h4⟩
theorem mod_ex (x : Int) {m : Int} (hm : 0 < m) : ∃ v, 0 ≤ v ∧ v < m ∧ bopF .Mod (.int x) (.int m) = some (.d (.int v)) := ⟨x % m, Int.emod_nonneg _ (by omega), Int.emod_lt_of_pos _ hm, by rw [bop_mod, if_pos hm]⟩
theorem mul_ex {i j bi bj : Int} (h0 : 0 ≤ i) (h1 : i ≤ bi) (h2 : 0 ≤ j) (h3 : j ≤ bj) (hb : bi < 18446744073709551616) : ∃ v, 0 ≤ v ∧ v ≤ bi * bj ∧ bopF .Mult (.int i) (.int j) = some (.d (.int v)) := by
  refine ⟨i * j, Int.mul_nonneg h0 h2, Int.mul_le_mul h1 h3 h2 (by omega), ?_⟩
  rw [bop_mul, if_pos]
  left
  omega
theorem mulL_ex {i j : Int} (h0 : 0 ≤ i) (h1 : i ≤ 1000000) (h2 : 0 ≤ j) : ∃ v, 0 ≤ v ∧ bopF .Mult (.int i) (.int j) = some (.d (.int v)) := by
  refine ⟨i * j, Int.mul_nonneg h0 h2, ?_⟩
  rw [bop_mul, if_pos]
  left
  omega
theorem pow_ex {i j : Int} (h0 : 0 ≤ i) (h1 : i < 18446744073709551616) (h2 : 0 ≤ j) (h3 : j ≤ 1000) : ∃ v, 0 ≤ v ∧ bopF .Pow (.int i) (.int j) = some (.d (.int v)) := by
  refine ⟨i ^ j.toNat, Int.pow_nonneg h0, ?_⟩
  rw [bop_pow, if_pos]
  omega
theorem div_ex {i j : Int} (h0 : 0 ≤ i) (h1 : 0 < j) (h2 : j < 1073741824) : ∃ v, 0 ≤ v ∧ bopF .FloorDiv (.int i) (.int j) = some (.d (.int v)) := by
  refine ⟨i / j, Int.ediv_nonneg h0 (by omega), ?_⟩
  rw [bop_fdiv, if_pos ⟨h1, h2⟩]
theorem abs_ex (x : Int) : ∃ y, 0 ≤ y ∧ cbF "abs" [.int x] = some (.d (.int y)) := ⟨_, by split <;> omega, cb_abs⟩
theorem ib_ex (p : Bool) : ∃ y : Int, 0 ≤ y ∧ ctF "int" [.bl p] = some (.d (.int y)) := ⟨_, by split <;> omega, ct_ib⟩
theorem eq_nil (cs : List Int) : eqQ (.lst (cs.map .int)) (.lst []) = some cs.isEmpty := by
  show (if (D.lst (cs.map .int)).ok = true ∧ (D.lst []).ok = true then some ((D.lst (cs.map .int)).eq (.lst [])) else none) = _
  rw [if_pos ⟨ok_ints cs, ok_ints []⟩]
  cases cs with
  | nil => decide +kernel
  | cons c cs =>
    congr 1
theorem at_D (xs : List D) {r : Int} (h0 : 0 ≤ r) (h1 : r < (xs.length : Int)) : ∃ d, d ∈ xs ∧ L2.atI xs r = some d := by
  have h2 : r.toNat < xs.length := by omega
  refine ⟨xs[r.toNat], List.getElem_mem h2, ?_⟩
  unfold L2.atI L2.ixN
  rw [if_pos h0, if_pos h1]
  simp [h2]
theorem rng_mem {lo : Int} {n : Nat} {d : D} (h : d ∈ rngD lo n) : ∃ i, d = .int i := by
  unfold rngD at h
  obtain ⟨i, _, rfl⟩ := List.mem_map.mp h
  exact ⟨_, rfl⟩
@[simp] theorem rng_len {lo : Int} {n : Nat} : (rngD lo n).length = n := by simp [rngD]
/-- a comprehension whose element changes a lent list: state told by what it gives -/
theorem lcL_pen {tgt : D → Rho → Option Rho} {el : Cl} {vs : List Nat} (st : Int → Rho → Prop) (g : D → Prop) (c m : Int) (ds : List D) (h : ∀ d ∈ ds, ∀ k ρ, st k ρ → k ≤ m → ∃ ρ2 ρ4 x, tgt d ρ = some ρ2 ∧ el ρ2 = .ok (.fz x) ρ4 ∧ g x ∧ st (k + c) (wipeR ρ4 vs)) (hc : 0 ≤ c) : ∀ (acc : List O) (k : Int) (ρ : Rho), st k ρ → k + c * (ds.length : Int) ≤ m + c → ∃ (xs : List D) (ρ' : Rho), xs.length = ds.length ∧ (∀ x ∈ xs, g x) ∧ st (k + c * (ds.length : Int)) ρ' ∧ lcL tgt yesR el vs ds acc ρ = .ok (acc ++ xs.map .fz) (wipeR ρ' vs) := by
  induction ds with
  | nil =>
    intro acc k ρ hs _
    exact ⟨[], ρ, rfl, by simp, by simpa using hs, by unfold lcL; simp⟩
  | cons d ds ih =>
    intro acc k ρ hs hk
    have hz : 0 ≤ c * (ds.length : Int) := Int.mul_nonneg hc (by omega)
    have hx : c * ((d :: ds).length : Int) = c + c * (ds.length : Int) := by
      rw [List.length_cons, Int.natCast_add, Int.mul_add]
      simp
      omega
    obtain ⟨ρ2, ρ4, x, e1, e2, hg, s2⟩ := h d List.mem_cons_self k ρ hs (by omega)
    obtain ⟨xs, ρ', hl, hx2, s3, e3⟩ := ih (fun d hd => h d (List.mem_cons_of_mem _ hd)) (acc ++ [.fz x]) (k + c) _ s2 (by omega)
    refine ⟨x :: xs, ρ', by simp [hl], ?_, ?_, ?_⟩
    · intro y hy
      rcases List.mem_cons.mp hy with rfl | hy
      · exact hg
      · exact hx2 y hy
    · rw [hx]
      rw [show k + (c + c * (ds.length : Int)) = k + c + c * (ds.length : Int) from by omega]
      exact s3
    · unfold lcL
      rw [e1]
      simp only [yesR, e2]
      rw [e3]
      simp
theorem lcL_pen_e {tgt : D → Rho → Option Rho} {el : Cl} {vs : List Nat} {ds : List D} {acc : List O} {ρ : Rho} {r : Res (List O)} (e : lcL tgt yesR el vs ds acc ρ = r) (st : Int → Rho → Prop) (g : D → Prop) (c m k : Int) (hs : st k ρ) (hk : k + c * (ds.length : Int) ≤ m + c) (hc : 0 ≤ c) (h : ∀ d ∈ ds, ∀ k ρ, st k ρ → k ≤ m → ∃ ρ2 ρ4 x, tgt d ρ = some ρ2 ∧ el ρ2 = .ok (.fz x) ρ4 ∧ g x ∧ st (k + c) (wipeR ρ4 vs)) :
    ∃ (xs : List D) (ρ' : Rho), xs.length = ds.length ∧ (∀ x ∈ xs, g x) ∧ st (k + c * (ds.length : Int)) ρ' ∧ r = .ok (acc ++ xs.map .fz) (wipeR ρ' vs) := by
  rw [← e]
  exact lcL_pen st g c m ds h hc acc k ρ hs hk
theorem at_any {α : Type} (xs : List α) {r : Int} (h0 : 0 ≤ r) (h1 : r < (xs.length : Int)) : ∃ d, d ∈ xs ∧ L2.atI xs r = some d := by
  have h2 : r.toNat < xs.length := by omega
  refine ⟨xs[r.toNat], List.getElem_mem h2, ?_⟩
  unfold L2.atI L2.ixN
  rw [if_pos h0, if_pos h1]
  simp [h2]
theorem joinL_nil : ∀ ls : List (List Nat), TL.joinL [] ls = ls.flatten
  | [] => rfl
  | [l] => by simp [TL.joinL]
  | l :: m :: r => by
    show l ++ ([] ++ TL.joinL [] (m :: r)) = _
    rw [joinL_nil (m :: r)]
    simp
theorem letters_ok {xs : List D} (h : ∀ x ∈ xs, ∃ c, x = .str ⟨#[c]⟩ ∧ c ∈ ("abcdefghijklmnopqrstuvwxyz" : Str).cps.toList) : ∃ cs : List Nat, xs = cs.map (fun c => .str ⟨#[c]⟩) ∧ ∀ c ∈ cs, c ∈ ("abcdefghijklmnopqrstuvwxyz" : Str).cps.toList := by
  induction xs with
  | nil => exact ⟨[], rfl, by simp⟩
  | cons x xs ih =>
    obtain ⟨cs, rfl, hc⟩ := ih fun x hx => h x (List.mem_cons_of_mem _ hx)
    obtain ⟨c, rfl, hcc⟩ := h x List.mem_cons_self
    refine ⟨c :: cs, rfl, fun d hd => ?_⟩
    rcases List.mem_cons.mp hd with rfl | hd
    · exact hcc
    · exact hc d hd
theorem join_letters (cs : List Nat) : (Txt.join "" (cs.map fun c => (⟨#[c]⟩ : Str))).cps.toList = cs := by
  rw [TL.join_eq]
  show tl (Str.join "" (cs.map fun c => (⟨#[c]⟩ : Str))) = cs
  rw [TL.tl_join, show tl (Str.ofString "") = [] from by decide +kernel, joinL_nil]
  induction cs with
  | nil => rfl
  | cons c cs ih =>
    rw [List.map_cons, List.map_cons, List.flatten_cons, ih]
    rfl
theorem name_made {cs : List Nat} (h : ∀ c ∈ cs, c ∈ ("abcdefghijklmnopqrstuvwxyz" : Str).cps.toList) (h1 : 1 ≤ cs.length) (h2 : cs.length ≤ 8) : nameOk (Txt.join "" (cs.map fun c => (⟨#[c]⟩ : Str))) = true := by
  have e := join_letters cs
  have hl : (Txt.join "" (cs.map fun c => (⟨#[c]⟩ : Str))).length = cs.length := by
    show (Txt.join "" (cs.map fun c => (⟨#[c]⟩ : Str))).cps.toList.length = _
    rw [e]
  unfold nameOk
  rw [hl, e, Bool.and_eq_true, Bool.and_eq_true]
  refine ⟨⟨by simp; omega, by simp; omega⟩, List.all_eq_true.mpr fun c hc => decide_eq_true (h c hc)⟩
theorem ok_buy {n d : Int} (h1 : 1 ≤ n ∧ n ≤ 1000000) (h2 : 0 ≤ d ∧ d ≤ 9999) : DeedOk "buy" [.n n, .n d] where
  fok := by
    intro f hf
    simp only [List.mem_cons, List.not_mem_nil, or_false] at hf
    rcases hf with rfl | rfl
    all_goals first | assumption | exact ⟨by omega, by omega⟩
  kc := by unfold OnlyC; decide +kernel
  kl := by decide +kernel
  form := ⟨"nn", by kernel_rfl, show ("nn" : Str).cps.toList = [110, 110] from by decide +kernel⟩
  last := ⟨.int n, [], .int d, rfl, by
    have e : lookP.lookup ("buy" : Str) = some (one1 fun d => isWhole d 1 1000000) := by kernel_rfl
    simp [isDeedL, e, h1, h2]⟩
  n3 := by simp
  shape := .flat _ _ (by decide) (by decide) (by simp)
theorem ok_sew {x : Str} {s t o d : Int} (hx : nameOk x = true) (hr : RobeOk s t o) (h2 : 0 ≤ d ∧ d ≤ 9999) : DeedOk "sew" [.w x, .r s t o, .n d] where
  fok := by
    intro f hf
    simp only [List.mem_cons, List.not_mem_nil, or_false] at hf
    rcases hf with rfl | rfl | rfl
    all_goals first | assumption | exact ⟨by omega, by omega⟩
  kc := by unfold OnlyC; decide +kernel
  kl := by decide +kernel
  form := ⟨"wrn", by kernel_rfl, show ("wrn" : Str).cps.toList = [119, 114, 110] from by decide +kernel⟩
  last := ⟨.str x, [.int s, .int t, .int o], .int d, rfl, by
    have e : lookP.lookup ("sew" : Str) = some (fun xs => isPart (.tup xs)) := by kernel_rfl
    simp [isDeedL, e, isPart, isName, hx, isRobe_ok hr, h2]⟩
  n3 := by simp
  shape := .sew _ _ _ _ _
theorem ok_hand {x y : Str} {d : Int} (hx : nameOk x = true) (hy : nameOk y = true) (h2 : 0 ≤ d ∧ d ≤ 9999) : DeedOk "hand" [.w x, .w y, .n d] where
  fok := by
    intro f hf
    simp only [List.mem_cons, List.not_mem_nil, or_false] at hf
    rcases hf with rfl | rfl | rfl
    all_goals first | assumption | exact ⟨by omega, by omega⟩
  kc := by unfold OnlyC; decide +kernel
  kl := by decide +kernel
  form := ⟨"wwn", by kernel_rfl, show ("wwn" : Str).cps.toList = [119, 119, 110] from by decide +kernel⟩
  last := ⟨.str x, [.str y], .int d, rfl, by
    have e : lookP.lookup ("hand" : Str) = some (two2 isName isName) := by kernel_rfl
    simp [isDeedL, e, isName, hx, hy, h2]⟩
  n3 := by simp
  shape := .flat _ _ (by decide) (by decide) (by simp)
theorem ok_mend {x : Str} {a b : Int} (hx : nameOk x = true) (h1 : 0 ≤ a ∧ a ≤ 9999) (h2 : 0 ≤ b ∧ b ≤ 9999) (h3 : a < b) : DeedOk "mend" [.w x, .n a, .n b] where
  fok := by
    intro f hf
    simp only [List.mem_cons, List.not_mem_nil, or_false] at hf
    rcases hf with rfl | rfl | rfl
    all_goals first | assumption | exact ⟨by omega, by omega⟩
  kc := by unfold OnlyC; decide +kernel
  kl := by decide +kernel
  form := ⟨"wnn", by kernel_rfl, show ("wnn" : Str).cps.toList = [119, 110, 110] from by decide +kernel⟩
  last := ⟨.str x, [.int a], .int b, rfl, by
    have e : lookP.lookup ("mend" : Str) = some (two2 isName fun d => isWhole d 0 9999) := by kernel_rfl
    simp [isDeedL, e, isName, hx, h1, h2, h3, ltMid, ltD]⟩
  n3 := by simp
  shape := .flat _ _ (by decide) (by decide) (by simp)
theorem ok_alter {x : Str} {a d : Int} (hx : nameOk x = true) (h1 : 1 ≤ a ∧ a ≤ 1098) (h2 : 0 ≤ d ∧ d ≤ 9999) : DeedOk "alter" [.w x, .n a, .n d] where
  fok := by
    intro f hf
    simp only [List.mem_cons, List.not_mem_nil, or_false] at hf
    rcases hf with rfl | rfl | rfl
    all_goals first | assumption | exact ⟨by omega, by omega⟩
  kc := by unfold OnlyC; decide +kernel
  kl := by decide +kernel
  form := ⟨"wnn", by kernel_rfl, show ("wnn" : Str).cps.toList = [119, 110, 110] from by decide +kernel⟩
  last := ⟨.str x, [.int a], .int d, rfl, by
    have e : lookP.lookup ("alter" : Str) = some (two2 isName fun d => isWhole d 1 1098) := by kernel_rfl
    simp [isDeedL, e, isName, hx, h1, h2]⟩
  n3 := by simp
  shape := .flat _ _ (by decide) (by decide) (by simp)
theorem ok_grow {x : Str} {a d : Int} (hx : nameOk x = true) (h1 : 1 ≤ a ∧ a ≤ 500) (h2 : 0 ≤ d ∧ d ≤ 9999) : DeedOk "grow" [.w x, .n a, .n d] where
  fok := by
    intro f hf
    simp only [List.mem_cons, List.not_mem_nil, or_false] at hf
    rcases hf with rfl | rfl | rfl
    all_goals first | assumption | exact ⟨by omega, by omega⟩
  kc := by unfold OnlyC; decide +kernel
  kl := by decide +kernel
  form := ⟨"wnn", by kernel_rfl, show ("wnn" : Str).cps.toList = [119, 110, 110] from by decide +kernel⟩
  last := ⟨.str x, [.int a], .int d, rfl, by
    have e : lookP.lookup ("grow" : Str) = some (two2 isName fun d => isWhole d 1 500) := by kernel_rfl
    simp [isDeedL, e, isName, hx, h1, h2]⟩
  n3 := by simp
  shape := .flat _ _ (by decide) (by decide) (by simp)
theorem ok_mark {x : Str} {a d : Int} (hx : nameOk x = true) (h1 : 1 ≤ a ∧ a ≤ 999) (h2 : 0 ≤ d ∧ d ≤ 9999) : DeedOk "mark" [.w x, .n a, .n d] where
  fok := by
    intro f hf
    simp only [List.mem_cons, List.not_mem_nil, or_false] at hf
    rcases hf with rfl | rfl | rfl
    all_goals first | assumption | exact ⟨by omega, by omega⟩
  kc := by unfold OnlyC; decide +kernel
  kl := by decide +kernel
  form := ⟨"wnn", by kernel_rfl, show ("wnn" : Str).cps.toList = [119, 110, 110] from by decide +kernel⟩
  last := ⟨.str x, [.int a], .int d, rfl, by
    have e : lookP.lookup ("mark" : Str) = some (two2 isName fun d => isWhole d 1 999) := by kernel_rfl
    simp [isDeedL, e, isName, hx, h1, h2]⟩
  n3 := by simp
  shape := .flat _ _ (by decide) (by decide) (by simp)
theorem ok_back {x : Str} {d : Int} (hx : nameOk x = true) (h2 : 0 ≤ d ∧ d ≤ 9999) : DeedOk "back" [.w x, .n d] where
  fok := by
    intro f hf
    simp only [List.mem_cons, List.not_mem_nil, or_false] at hf
    rcases hf with rfl | rfl
    all_goals first | assumption | exact ⟨by omega, by omega⟩
  kc := by unfold OnlyC; decide +kernel
  kl := by decide +kernel
  form := ⟨"wn", by kernel_rfl, show ("wn" : Str).cps.toList = [119, 110] from by decide +kernel⟩
  last := ⟨.str x, [], .int d, rfl, by
    have e : lookP.lookup ("back" : Str) = some (one1 isName) := by kernel_rfl
    simp [isDeedL, e, isName, hx, h2]⟩
  n3 := by simp
  shape := .flat _ _ (by decide) (by decide) (by simp)
theorem ok_cast {x : Str} {d : Int} (hx : nameOk x = true) (h2 : 0 ≤ d ∧ d ≤ 9999) : DeedOk "cast" [.w x, .n d] where
  fok := by
    intro f hf
    simp only [List.mem_cons, List.not_mem_nil, or_false] at hf
    rcases hf with rfl | rfl
    all_goals first | assumption | exact ⟨by omega, by omega⟩
  kc := by unfold OnlyC; decide +kernel
  kl := by decide +kernel
  form := ⟨"wn", by kernel_rfl, show ("wn" : Str).cps.toList = [119, 110] from by decide +kernel⟩
  last := ⟨.str x, [], .int d, rfl, by
    have e : lookP.lookup ("cast" : Str) = some (one1 isName) := by kernel_rfl
    simp [isDeedL, e, isName, hx, h2]⟩
  n3 := by simp
  shape := .flat _ _ (by decide) (by decide) (by simp)
theorem ok_fade {x : Str} {d : Int} (hx : nameOk x = true) (h2 : 0 ≤ d ∧ d ≤ 9999) : DeedOk "fade" [.w x, .n d] where
  fok := by
    intro f hf
    simp only [List.mem_cons, List.not_mem_nil, or_false] at hf
    rcases hf with rfl | rfl
    all_goals first | assumption | exact ⟨by omega, by omega⟩
  kc := by unfold OnlyC; decide +kernel
  kl := by decide +kernel
  form := ⟨"wn", by kernel_rfl, show ("wn" : Str).cps.toList = [119, 110] from by decide +kernel⟩
  last := ⟨.str x, [], .int d, rfl, by
    have e : lookP.lookup ("fade" : Str) = some (one1 isName) := by kernel_rfl
    simp [isDeedL, e, isName, hx, h2]⟩
  n3 := by simp
  shape := .flat _ _ (by decide) (by decide) (by simp)
theorem areParts_ok {ps : List Prt} (h0 : ps ≠ []) (h1 : ps.length ≤ 4) (h : ∀ q ∈ ps, q.ok) : areParts (.tup (ps.map Prt.d)) = true := by
  have h2 : 1 ≤ ps.length := List.length_pos_iff.mpr h0
  have h3 : (ps.map Prt.d).all isPart = true := by
    rw [List.all_map, List.all_eq_true]
    exact fun q hq => isPart_ok (h q hq)
  unfold areParts
  simp only [h3, List.length_map, Bool.and_true, Bool.and_eq_true, decide_eq_true_eq]
  omega
theorem ok_cut {x : Str} {ps : List Prt} {d : Int} (hx : nameOk x = true) (hp : Fd.ok (.p ps)) (h2 : 0 ≤ d ∧ d ≤ 9999) : DeedOk "cut" [.w x, .p ps, .n d] where
  fok := by
    intro f hf
    simp only [List.mem_cons, List.not_mem_nil, or_false] at hf
    rcases hf with rfl | rfl | rfl
    all_goals first | assumption | exact ⟨by omega, by omega⟩
  kc := by unfold OnlyC; decide +kernel
  kl := by decide +kernel
  form := ⟨"wpn", by kernel_rfl, show ("wpn" : Str).cps.toList = [119, 112, 110] from by decide +kernel⟩
  last := ⟨.str x, [.tup (ps.map Prt.d)], .int d, rfl, by
    have e : lookP.lookup ("cut" : Str) = some (two2 isName areParts) := by kernel_rfl
    simp [isDeedL, e, isName, hx, areParts_ok hp.1 hp.2.1 hp.2.2, h2]⟩
  n3 := by simp
  shape := .cut _ _ _
theorem prts_of {xs : List D} (h : ∀ x ∈ xs, ∃ q : Prt, x = q.d ∧ q.ok) : ∃ qs : List Prt, xs = qs.map Prt.d ∧ ∀ q ∈ qs, q.ok := by
  induction xs with
  | nil => exact ⟨[], rfl, by simp⟩
  | cons x xs ih =>
    obtain ⟨qs, rfl, hc⟩ := ih fun x hx => h x (List.mem_cons_of_mem _ hx)
    obtain ⟨q, rfl, hq⟩ := h x List.mem_cons_self
    refine ⟨q :: qs, rfl, fun d hd => ?_⟩
    rcases List.mem_cons.mp hd with rfl | hd
    · exact hq
    · exact hc d hd
end Fr

set_option Elab.async false
set_option linter.all false
set_option maxRecDepth 100000
set_option maxHeartbeats 4000000
/-! K74m: the table of the defs, each body by steps. -/
namespace K74
open PySem PySem.Spec PyProof.Rows L2 Fr
def top (i : Nat) : Stmt := PySem.Challenge.pw_feastrobes_k74_deeds_written_and_read.main.body.getD i (.Pass ⟨0, 0, 0, 0⟩)
abbrev s_show_robe : Stmt := top 1
def fd_show_robe : FD := { ps := ["robe"], N := ["robe", "part"], sc := defScope s_show_robe, body := defBody s_show_robe, pin := [0] }
abbrev s_show_part : Stmt := top 2
def fd_show_part : FD := { ps := ["part"], N := ["part"], sc := defScope s_show_part, body := defBody s_show_part, pin := [0] }
abbrev s_words_of : Stmt := top 3
def fd_words_of : FD := { ps := ["deed"], N := ["deed", "thing", "part"], sc := defScope s_words_of, body := defBody s_words_of, pin := [0] }
abbrev s_show_deed : Stmt := top 4
def fd_show_deed : FD := { ps := ["deed"], N := ["deed"], sc := defScope s_show_deed, body := defBody s_show_deed, pin := [0] }
abbrev s_is_name : Stmt := top 8
def fd_is_name : FD := { ps := ["thing"], N := ["thing", "sign"], sc := defScope s_is_name, body := defBody s_is_name, pin := [0] }
abbrev s_is_whole : Stmt := top 14
def fd_is_whole : FD := { ps := ["thing", "least", "most"], N := ["thing", "least", "most"], sc := defScope s_is_whole, body := defBody s_is_whole, pin := [0, 1, 2] }
abbrev s_is_day : Stmt := top 15
def fd_is_day : FD := { ps := ["thing"], N := ["thing"], sc := defScope s_is_day, body := defBody s_is_day, pin := [0] }
abbrev s_is_person : Stmt := top 16
def fd_is_person : FD := { ps := ["thing"], N := ["thing"], sc := defScope s_is_person, body := defBody s_is_person, pin := [0] }
abbrev s_is_robe : Stmt := top 17
def fd_is_robe : FD := { ps := ["thing"], N := ["thing", "size", "take", "out"], sc := defScope s_is_robe, body := defBody s_is_robe, pin := [0] }
abbrev s_is_part : Stmt := top 23
def fd_is_part : FD := { ps := ["thing"], N := ["thing"], sc := defScope s_is_part, body := defBody s_is_part, pin := [0] }
abbrev s_are_parts : Stmt := top 24
def fd_are_parts : FD := { ps := ["thing"], N := ["thing", "part"], sc := defScope s_are_parts, body := defBody s_are_parts, pin := [0] }
abbrev s_is_buying : Stmt := top 25
def fd_is_buying : FD := { ps := ["thing"], N := ["thing"], sc := defScope s_is_buying, body := defBody s_is_buying, pin := [0] }
abbrev s_is_sewing : Stmt := top 26
def fd_is_sewing : FD := { ps := ["thing"], N := ["thing"], sc := defScope s_is_sewing, body := defBody s_is_sewing, pin := [0] }
abbrev s_is_handing : Stmt := top 27
def fd_is_handing : FD := { ps := ["thing"], N := ["thing"], sc := defScope s_is_handing, body := defBody s_is_handing, pin := [0] }
abbrev s_is_mending : Stmt := top 28
def fd_is_mending : FD := { ps := ["thing"], N := ["thing"], sc := defScope s_is_mending, body := defBody s_is_mending, pin := [0] }
abbrev s_is_altering : Stmt := top 29
def fd_is_altering : FD := { ps := ["thing"], N := ["thing"], sc := defScope s_is_altering, body := defBody s_is_altering, pin := [0] }
abbrev s_is_cutting : Stmt := top 30
def fd_is_cutting : FD := { ps := ["thing"], N := ["thing"], sc := defScope s_is_cutting, body := defBody s_is_cutting, pin := [0] }
abbrev s_is_growing : Stmt := top 31
def fd_is_growing : FD := { ps := ["thing"], N := ["thing"], sc := defScope s_is_growing, body := defBody s_is_growing, pin := [0] }
abbrev s_is_marking : Stmt := top 32
def fd_is_marking : FD := { ps := ["thing"], N := ["thing"], sc := defScope s_is_marking, body := defBody s_is_marking, pin := [0] }
abbrev s_is_naming : Stmt := top 33
def fd_is_naming : FD := { ps := ["thing"], N := ["thing"], sc := defScope s_is_naming, body := defBody s_is_naming, pin := [0] }
abbrev s_is_deed : Stmt := top 35
def fd_is_deed : FD := { ps := ["thing"], N := ["thing"], sc := defScope s_is_deed, body := defBody s_is_deed, pin := [0] }
abbrev s_need_text : Stmt := top 43
def fd_need_text : FD := { ps := ["text"], N := ["text"], sc := defScope s_need_text, body := defBody s_need_text, pin := [0] }
abbrev s_number_of : Stmt := top 44
def fd_number_of : FD := { ps := ["word"], N := ["word", "sign"], sc := defScope s_number_of, body := defBody s_number_of, pin := [0] }
abbrev s_read_robe : Stmt := top 45
def fd_read_robe : FD := { ps := ["text"], N := ["text", "found", "word"], sc := defScope s_read_robe, body := defBody s_read_robe, pin := [0] }
abbrev s_part_of : Stmt := top 46
def fd_part_of : FD := { ps := ["text"], N := ["text", "name", "middle", "robe"], sc := defScope s_part_of, body := defBody s_part_of, pin := [0] }
abbrev s_things_of : Stmt := top 47
def fd_things_of : FD := { ps := ["word", "kind"], N := ["word", "kind", "part"], sc := defScope s_things_of, body := defBody s_things_of, pin := [0, 1] }
abbrev s_read_deed : Stmt := top 48
def fd_read_deed : FD := { ps := ["text"], N := ["text", "words", "form", "e", "things", "word", "kind", "deed"], sc := defScope s_read_deed, body := defBody s_read_deed, pin := [0] }
abbrev s__law_pen : Stmt := top 50
def fd__law_pen : FD := { ps := ["_law_script"], N := ["_law_script", "_law_cell"], sc := defScope s__law_pen, body := defBody s__law_pen, pin := [0] }
abbrev s__law_take : Stmt := top 51
def fd__law_take : FD := { ps := ["_law_pen_here", "_law_upto"], N := ["_law_pen_here", "_law_upto", "_law_found", "_law_at", "_law_cell", "_law_great", "_law_number"], sc := defScope s__law_take, body := defBody s__law_take, pin := [0, 1], mu := [0] }
abbrev s__law_robe : Stmt := top 52
def fd__law_robe : FD := { ps := ["_law_pen_here"], N := ["_law_pen_here", "_law_length", "_law_take_here", "_law_out"], sc := defScope s__law_robe, body := defBody s__law_robe, pin := [0], mu := [0] }
abbrev s__law_name : Stmt := top 53
def fd__law_name : FD := { ps := ["_law_pen_here"], N := ["_law_pen_here", "_law_abc", "_law_some", "_law_k"], sc := defScope s__law_name, body := defBody s__law_name, pin := [0], mu := [0] }
abbrev s__law_deed : Stmt := top 54
def fd__law_deed : FD := { ps := ["_law_pen_here"], N := ["_law_pen_here", "_law_way", "_law_name_here", "_law_day", "_law_last", "_law_parts", "_law_k"], sc := defScope s__law_deed, body := defBody s__law_deed, pin := [0], mu := [0] }
abbrev s__law_deed_text : Stmt := top 55
def fd__law_deed_text : FD := { ps := ["_law_deed_here"], N := ["_law_deed_here", "_law_words", "_law_rest", "_law_parts", "_law_part", "_law_thing"], sc := defScope s__law_deed_text, body := defBody s__law_deed_text, pin := [0] }
abbrev s__law_same : Stmt := top 56
def fd__law_same : FD := { ps := ["_law_found", "_law_due"], N := ["_law_found", "_law_due", "_law_one", "_law_other"], sc := defScope s__law_same, body := defBody s__law_same, pin := [0, 1] }
abbrev s_law : Stmt := top 57
def fd_law : FD := { ps := ["_law_script"], N := ["_law_script", "_law_pen_here", "_law_some", "_law_turn", "_law_deed_here", "_law_text", "_law_found", "_law_k"], sc := defScope s_law, body := defBody s_law, pin := [0] }
def csts0 : List (Str × D) := [("LETTERS", .str "abcdefghijklmnopqrstuvwxyz"), ("LONGEST", .int 8), ("MOST_SIZE", .int 999), ("MOST_FOLK", .int 500), ("MOST_SEAM", .int 99), ("MOST_DAY", .int 9999), ("MOST_BOUGHT", .int 1000000), ("MOST_ALTERED", .int 1098), ("MOST_PARTS", .int 4), ("MOST_MARK", .int 999), ("FIGURES", .str "0123456789"), ("MOST_FIGURES", .int 60)]
def csts : List (Str × D) := csts0
def fns0 : List (Str × FD) := [("show_robe", fd_show_robe), ("show_part", fd_show_part), ("words_of", fd_words_of), ("show_deed", fd_show_deed), ("is_name", fd_is_name), ("is_whole", fd_is_whole), ("is_day", fd_is_day), ("is_person", fd_is_person), ("is_robe", fd_is_robe), ("is_part", fd_is_part), ("are_parts", fd_are_parts), ("is_buying", fd_is_buying)]
def fns1 : List (Str × FD) := [("is_sewing", fd_is_sewing), ("is_handing", fd_is_handing), ("is_mending", fd_is_mending), ("is_altering", fd_is_altering), ("is_cutting", fd_is_cutting), ("is_growing", fd_is_growing), ("is_marking", fd_is_marking), ("is_naming", fd_is_naming), ("is_deed", fd_is_deed), ("need_text", fd_need_text), ("number_of", fd_number_of), ("read_robe", fd_read_robe)]
def fns2 : List (Str × FD) := [("part_of", fd_part_of), ("things_of", fd_things_of), ("read_deed", fd_read_deed), ("_law_pen", fd__law_pen), ("_law_take", fd__law_take), ("_law_robe", fd__law_robe), ("_law_name", fd__law_name), ("_law_deed", fd__law_deed), ("_law_deed_text", fd__law_deed_text), ("_law_same", fd__law_same), ("law", fd_law)]
def fns : List (Str × FD) := fns0 ++ fns1 ++ fns2
def fres0 : List Str := ["abs", "all", "bool", "int", "isinstance", "len", "list", "min", "range", "str", "tuple", "zip"]
def fres : List Str := fres0
def t_FORMS : List (Str × Str) := [("buy", "nn"), ("sew", "wrn"), ("hand", "wwn"), ("back", "wn"), ("mend", "wnn"), ("alter", "wnn"), ("cut", "wpn"), ("cast", "wn"), ("grow", "wnn"), ("mark", "wnn"), ("fade", "wn")]
def t_LOOKS : List (Str × Str) := [("buy", "is_buying"), ("sew", "is_sewing"), ("hand", "is_handing"), ("back", "is_naming"), ("mend", "is_mending"), ("alter", "is_altering"), ("cut", "is_cutting"), ("cast", "is_naming"), ("grow", "is_growing"), ("mark", "is_marking"), ("fade", "is_naming")]
def k_FORMS : List Str := ["buy", "sew", "hand", "back", "mend", "alter", "cut", "cast", "grow", "mark", "fade"]
def k_LOOKS : List Str := ["buy", "sew", "hand", "back", "mend", "alter", "cut", "cast", "grow", "mark", "fade"]
def PP : IP := { cst := csts, fns := fns, fre := fres, ecs := ["NoText"], hnd := [(("NoText", "NoText"), true)], isE := [], tbS := [("FORMS", t_FORMS)], tbF := [("LOOKS", t_LOOKS)], tbK := [("FORMS", k_FORMS), ("LOOKS", k_LOOKS)] }
noncomputable def m_show_robe (Φ : FT) : ClB := (seqR [retR (msR "join" (kE (.str "/")) [lcE (lcR true (itR (nmE 0)) (.nm 1) yesR (ctR "str" [nmE 1]) [1])])])
theorem b_show_robe : ∀ (Φ : FT) (ρ : Rho), (ops 60).B { P := PP, Φ := Φ, N := fd_show_robe.N, sc := fd_show_robe.sc, top := true, pin := fd_show_robe.pin } fd_show_robe.body ρ = m_show_robe Φ ρ := by
  intro Φ ρ
  kernel_rfl
theorem l_show_robe : PP.fns.lookup ("show_robe" : Str) = some fd_show_robe := by kernel_rfl
noncomputable def m_show_part (Φ : FT) : ClB := (seqR [retR (binR .Add (binR .Add (ixN' 0 (kE (.int 0))) (kE (.str ":"))) (callR Φ "show_robe" [] [.val (slcR (nmE 0) (some (kE (.int 1))) none)]))])
theorem b_show_part : ∀ (Φ : FT) (ρ : Rho), (ops 60).B { P := PP, Φ := Φ, N := fd_show_part.N, sc := fd_show_part.sc, top := true, pin := fd_show_part.pin } fd_show_part.body ρ = m_show_part Φ ρ := by
  intro Φ ρ
  kernel_rfl
theorem l_show_part : PP.fns.lookup ("show_part" : Str) = some fd_show_part := by kernel_rfl
noncomputable def m_words_of (Φ : FT) : ClB := (seqR [iffR (thawT (cmpR .Eq (ixN' 0 (kE (.int 0))) (kE (.str "sew")))) (seqR [retR (lstR [ixN' 0 (kE (.int 0)), ixN' 0 (kE (.int 1)), callR Φ "show_robe" [] [.val (slcR (nmE 0) (some (kE (.int 2))) (some (kE (.int 5))))], ctR "str" [ixN' 0 (kE (.int 5))]])]) (seqR []),
  iffR (thawT (cmpR .Eq (ixN' 0 (kE (.int 0))) (kE (.str "cut")))) (seqR [retR (lstR [ixN' 0 (kE (.int 0)), ixN' 0 (kE (.int 1)), msR "join" (kE (.str ",")) [lcE (lcR true (itR (ixN' 0 (kE (.int 2)))) (.nm 2) yesR (callR Φ "show_part" [] [.val (nmE 2)]) [2])], ctR "str" [ixN' 0 (kE (.int 3))]])]) (seqR []),
  retR (lcE (lcR true (itR (nmE 0)) (.nm 1) yesR (ctR "str" [nmE 1]) [1]))])
theorem b_words_of : ∀ (Φ : FT) (ρ : Rho), (ops 60).B { P := PP, Φ := Φ, N := fd_words_of.N, sc := fd_words_of.sc, top := true, pin := fd_words_of.pin } fd_words_of.body ρ = m_words_of Φ ρ := by
  intro Φ ρ
  kernel_rfl
theorem l_words_of : PP.fns.lookup ("words_of" : Str) = some fd_words_of := by kernel_rfl
noncomputable def m_show_deed (Φ : FT) : ClB := (seqR [retR (msR "join" (kE (.str " ")) [callR Φ "words_of" [] [.val (nmE 0)]])])
theorem b_show_deed : ∀ (Φ : FT) (ρ : Rho), (ops 60).B { P := PP, Φ := Φ, N := fd_show_deed.N, sc := fd_show_deed.sc, top := true, pin := fd_show_deed.pin } fd_show_deed.body ρ = m_show_deed Φ ρ := by
  intro Φ ρ
  kernel_rfl
theorem l_show_deed : PP.fns.lookup ("show_deed" : Str) = some fd_show_deed := by kernel_rfl
noncomputable def m_is_name (Φ : FT) : ClB := (seqR [iffR (orR [notT (truR (isiR (nmE 0) "str")), notT (thawT (chnR .LtE .LtE (kE (.int 1)) (thawE (cbR "len" [nmE 0])) (kE (.int 8))))]) (seqR [retR (kE (.bl false))]) (seqR []),
  forR (itR (nmE 0)) (.nm 1) (seqR [iffR (thawT (cmpR .NotIn (nmE 1) (kE (.str "abcdefghijklmnopqrstuvwxyz")))) (seqR [retR (kE (.bl false))]) (seqR [])]),
  retR (kE (.bl true))])
theorem b_is_name : ∀ (Φ : FT) (ρ : Rho), (ops 60).B { P := PP, Φ := Φ, N := fd_is_name.N, sc := fd_is_name.sc, top := true, pin := fd_is_name.pin } fd_is_name.body ρ = m_is_name Φ ρ := by
  intro Φ ρ
  kernel_rfl
theorem l_is_name : PP.fns.lookup ("is_name" : Str) = some fd_is_name := by kernel_rfl
noncomputable def m_is_whole (Φ : FT) : ClB := (seqR [retR (andO [isiR (nmE 0) "int", notV (isiR (nmE 0) "bool"), blR (thawT (chnR .LtE .LtE (nmE 1) (nmE 0) (nmE 2)))])])
theorem b_is_whole : ∀ (Φ : FT) (ρ : Rho), (ops 60).B { P := PP, Φ := Φ, N := fd_is_whole.N, sc := fd_is_whole.sc, top := true, pin := fd_is_whole.pin } fd_is_whole.body ρ = m_is_whole Φ ρ := by
  intro Φ ρ
  kernel_rfl
theorem l_is_whole : PP.fns.lookup ("is_whole" : Str) = some fd_is_whole := by kernel_rfl
noncomputable def m_is_day (Φ : FT) : ClB := (seqR [retR (callR Φ "is_whole" [] [.val (nmE 0), .val (kE (.int 0)), .val (kE (.int 9999))])])
theorem b_is_day : ∀ (Φ : FT) (ρ : Rho), (ops 60).B { P := PP, Φ := Φ, N := fd_is_day.N, sc := fd_is_day.sc, top := true, pin := fd_is_day.pin } fd_is_day.body ρ = m_is_day Φ ρ := by
  intro Φ ρ
  kernel_rfl
theorem l_is_day : PP.fns.lookup ("is_day" : Str) = some fd_is_day := by kernel_rfl
noncomputable def m_is_person (Φ : FT) : ClB := (seqR [retR (callR Φ "is_whole" [] [.val (nmE 0), .val (kE (.int 1)), .val (kE (.int 500))])])
theorem b_is_person : ∀ (Φ : FT) (ρ : Rho), (ops 60).B { P := PP, Φ := Φ, N := fd_is_person.N, sc := fd_is_person.sc, top := true, pin := fd_is_person.pin } fd_is_person.body ρ = m_is_person Φ ρ := by
  intro Φ ρ
  kernel_rfl
theorem l_is_person : PP.fns.lookup ("is_person" : Str) = some fd_is_person := by kernel_rfl
noncomputable def m_is_robe (Φ : FT) : ClB := (seqR [iffR (orR [notT (truR (isiR (nmE 0) "tuple")), thawT (cmpR .NotEq (thawE (cbR "len" [nmE 0])) (kE (.int 3)))]) (seqR [retR (kE (.bl false))]) (seqR []),
  asgT (.tup [.nm 1, .nm 2, .nm 3]) (nmE 0),
  iffR (orR [notT (truR (callR Φ "is_whole" [] [.val (nmE 1), .val (kE (.int 1)), .val (kE (.int 999))])), notT (truR (callR Φ "is_whole" [] [.val (nmE 2), .val (kE (.int 0)), .val (kE (.int 99))])), notT (truR (callR Φ "is_whole" [] [.val (nmE 3), .val (kE (.int 0)), .val (kE (.int 99))]))]) (seqR [retR (kE (.bl false))]) (seqR []),
  retR (blR (thawT (cmpR .Lt (nmE 2) (nmE 1))))])
theorem b_is_robe : ∀ (Φ : FT) (ρ : Rho), (ops 60).B { P := PP, Φ := Φ, N := fd_is_robe.N, sc := fd_is_robe.sc, top := true, pin := fd_is_robe.pin } fd_is_robe.body ρ = m_is_robe Φ ρ := by
  intro Φ ρ
  kernel_rfl
theorem l_is_robe : PP.fns.lookup ("is_robe" : Str) = some fd_is_robe := by kernel_rfl
noncomputable def m_is_part (Φ : FT) : ClB := (seqR [retR (andO [isiR (nmE 0) "tuple", blR (thawT (cmpR .Eq (thawE (cbR "len" [nmE 0])) (kE (.int 4)))), callR Φ "is_name" [] [.val (ixN' 0 (kE (.int 0)))], callR Φ "is_robe" [] [.val (slcR (nmE 0) (some (kE (.int 1))) none)]])])
theorem b_is_part : ∀ (Φ : FT) (ρ : Rho), (ops 60).B { P := PP, Φ := Φ, N := fd_is_part.N, sc := fd_is_part.sc, top := true, pin := fd_is_part.pin } fd_is_part.body ρ = m_is_part Φ ρ := by
  intro Φ ρ
  kernel_rfl
theorem l_is_part : PP.fns.lookup ("is_part" : Str) = some fd_is_part := by kernel_rfl
noncomputable def m_are_parts (Φ : FT) : ClB := (seqR [retR (andO [isiR (nmE 0) "tuple", blR (thawT (chnR .LtE .LtE (kE (.int 1)) (thawE (cbR "len" [nmE 0])) (kE (.int 4)))), cbR "all" [lcE (lcR true (itR (nmE 0)) (.nm 1) yesR (callR Φ "is_part" [] [.val (nmE 1)]) [1])]])])
theorem b_are_parts : ∀ (Φ : FT) (ρ : Rho), (ops 60).B { P := PP, Φ := Φ, N := fd_are_parts.N, sc := fd_are_parts.sc, top := true, pin := fd_are_parts.pin } fd_are_parts.body ρ = m_are_parts Φ ρ := by
  intro Φ ρ
  kernel_rfl
theorem l_are_parts : PP.fns.lookup ("are_parts" : Str) = some fd_are_parts := by kernel_rfl
noncomputable def m_is_buying (Φ : FT) : ClB := (seqR [retR (andO [blR (thawT (cmpR .Eq (thawE (cbR "len" [nmE 0])) (kE (.int 1)))), callR Φ "is_whole" [] [.val (ixN' 0 (kE (.int 0))), .val (kE (.int 1)), .val (kE (.int 1000000))]])])
theorem b_is_buying : ∀ (Φ : FT) (ρ : Rho), (ops 60).B { P := PP, Φ := Φ, N := fd_is_buying.N, sc := fd_is_buying.sc, top := true, pin := fd_is_buying.pin } fd_is_buying.body ρ = m_is_buying Φ ρ := by
  intro Φ ρ
  kernel_rfl
theorem l_is_buying : PP.fns.lookup ("is_buying" : Str) = some fd_is_buying := by kernel_rfl
noncomputable def m_is_sewing (Φ : FT) : ClB := (seqR [retR (callR Φ "is_part" [] [.val (nmE 0)])])
theorem b_is_sewing : ∀ (Φ : FT) (ρ : Rho), (ops 60).B { P := PP, Φ := Φ, N := fd_is_sewing.N, sc := fd_is_sewing.sc, top := true, pin := fd_is_sewing.pin } fd_is_sewing.body ρ = m_is_sewing Φ ρ := by
  intro Φ ρ
  kernel_rfl
theorem l_is_sewing : PP.fns.lookup ("is_sewing" : Str) = some fd_is_sewing := by kernel_rfl
noncomputable def m_is_handing (Φ : FT) : ClB := (seqR [retR (andO [blR (thawT (cmpR .Eq (thawE (cbR "len" [nmE 0])) (kE (.int 2)))), callR Φ "is_name" [] [.val (ixN' 0 (kE (.int 0)))], callR Φ "is_name" [] [.val (ixN' 0 (kE (.int 1)))]])])
theorem b_is_handing : ∀ (Φ : FT) (ρ : Rho), (ops 60).B { P := PP, Φ := Φ, N := fd_is_handing.N, sc := fd_is_handing.sc, top := true, pin := fd_is_handing.pin } fd_is_handing.body ρ = m_is_handing Φ ρ := by
  intro Φ ρ
  kernel_rfl
theorem l_is_handing : PP.fns.lookup ("is_handing" : Str) = some fd_is_handing := by kernel_rfl
noncomputable def m_is_mending (Φ : FT) : ClB := (seqR [retR (andO [blR (thawT (cmpR .Eq (thawE (cbR "len" [nmE 0])) (kE (.int 2)))), callR Φ "is_name" [] [.val (ixN' 0 (kE (.int 0)))], callR Φ "is_day" [] [.val (ixN' 0 (kE (.int 1)))]])])
theorem b_is_mending : ∀ (Φ : FT) (ρ : Rho), (ops 60).B { P := PP, Φ := Φ, N := fd_is_mending.N, sc := fd_is_mending.sc, top := true, pin := fd_is_mending.pin } fd_is_mending.body ρ = m_is_mending Φ ρ := by
  intro Φ ρ
  kernel_rfl
theorem l_is_mending : PP.fns.lookup ("is_mending" : Str) = some fd_is_mending := by kernel_rfl
noncomputable def m_is_altering (Φ : FT) : ClB := (seqR [retR (andO [blR (thawT (cmpR .Eq (thawE (cbR "len" [nmE 0])) (kE (.int 2)))), callR Φ "is_name" [] [.val (ixN' 0 (kE (.int 0)))], callR Φ "is_whole" [] [.val (ixN' 0 (kE (.int 1))), .val (kE (.int 1)), .val (kE (.int 1098))]])])
theorem b_is_altering : ∀ (Φ : FT) (ρ : Rho), (ops 60).B { P := PP, Φ := Φ, N := fd_is_altering.N, sc := fd_is_altering.sc, top := true, pin := fd_is_altering.pin } fd_is_altering.body ρ = m_is_altering Φ ρ := by
  intro Φ ρ
  kernel_rfl
theorem l_is_altering : PP.fns.lookup ("is_altering" : Str) = some fd_is_altering := by kernel_rfl
noncomputable def m_is_cutting (Φ : FT) : ClB := (seqR [retR (andO [blR (thawT (cmpR .Eq (thawE (cbR "len" [nmE 0])) (kE (.int 2)))), callR Φ "is_name" [] [.val (ixN' 0 (kE (.int 0)))], callR Φ "are_parts" [] [.val (ixN' 0 (kE (.int 1)))]])])
theorem b_is_cutting : ∀ (Φ : FT) (ρ : Rho), (ops 60).B { P := PP, Φ := Φ, N := fd_is_cutting.N, sc := fd_is_cutting.sc, top := true, pin := fd_is_cutting.pin } fd_is_cutting.body ρ = m_is_cutting Φ ρ := by
  intro Φ ρ
  kernel_rfl
theorem l_is_cutting : PP.fns.lookup ("is_cutting" : Str) = some fd_is_cutting := by kernel_rfl
noncomputable def m_is_growing (Φ : FT) : ClB := (seqR [retR (andO [blR (thawT (cmpR .Eq (thawE (cbR "len" [nmE 0])) (kE (.int 2)))), callR Φ "is_name" [] [.val (ixN' 0 (kE (.int 0)))], callR Φ "is_person" [] [.val (ixN' 0 (kE (.int 1)))]])])
theorem b_is_growing : ∀ (Φ : FT) (ρ : Rho), (ops 60).B { P := PP, Φ := Φ, N := fd_is_growing.N, sc := fd_is_growing.sc, top := true, pin := fd_is_growing.pin } fd_is_growing.body ρ = m_is_growing Φ ρ := by
  intro Φ ρ
  kernel_rfl
theorem l_is_growing : PP.fns.lookup ("is_growing" : Str) = some fd_is_growing := by kernel_rfl
noncomputable def m_is_marking (Φ : FT) : ClB := (seqR [retR (andO [blR (thawT (cmpR .Eq (thawE (cbR "len" [nmE 0])) (kE (.int 2)))), callR Φ "is_name" [] [.val (ixN' 0 (kE (.int 0)))], callR Φ "is_whole" [] [.val (ixN' 0 (kE (.int 1))), .val (kE (.int 1)), .val (kE (.int 999))]])])
theorem b_is_marking : ∀ (Φ : FT) (ρ : Rho), (ops 60).B { P := PP, Φ := Φ, N := fd_is_marking.N, sc := fd_is_marking.sc, top := true, pin := fd_is_marking.pin } fd_is_marking.body ρ = m_is_marking Φ ρ := by
  intro Φ ρ
  kernel_rfl
theorem l_is_marking : PP.fns.lookup ("is_marking" : Str) = some fd_is_marking := by kernel_rfl
noncomputable def m_is_naming (Φ : FT) : ClB := (seqR [retR (andO [blR (thawT (cmpR .Eq (thawE (cbR "len" [nmE 0])) (kE (.int 1)))), callR Φ "is_name" [] [.val (ixN' 0 (kE (.int 0)))]])])
theorem b_is_naming : ∀ (Φ : FT) (ρ : Rho), (ops 60).B { P := PP, Φ := Φ, N := fd_is_naming.N, sc := fd_is_naming.sc, top := true, pin := fd_is_naming.pin } fd_is_naming.body ρ = m_is_naming Φ ρ := by
  intro Φ ρ
  kernel_rfl
theorem l_is_naming : PP.fns.lookup ("is_naming" : Str) = some fd_is_naming := by kernel_rfl
noncomputable def m_is_deed (Φ : FT) : ClB := (seqR [iffR (orR [notT (truR (isiR (nmE 0) "tuple")), thawT (cmpR .Lt (thawE (cbR "len" [nmE 0])) (kE (.int 3))), notT (truR (isiR (ixN' 0 (kE (.int 0))) "str"))]) (seqR [retR (kE (.bl false))]) (seqR []),
  iffR (orR [thawT (inK k_LOOKS false (ixN' 0 (kE (.int 0)))), notT (truR (callR Φ "is_day" [] [.val (ixN' 0 (negR (kE (.int 1))))])), notT (truR (tcallR Φ t_LOOKS (ixN' 0 (kE (.int 0))) [.val (slcR (nmE 0) (some (kE (.int 1))) (some (negR (kE (.int 1)))))]))]) (seqR [retR (kE (.bl false))]) (seqR []),
  retR (orO [blR (thawT (cmpR .NotEq (ixN' 0 (kE (.int 0))) (kE (.str "mend")))), blR (thawT (cmpR .Lt (ixN' 0 (kE (.int 2))) (ixN' 0 (kE (.int 3)))))])])
theorem b_is_deed : ∀ (Φ : FT) (ρ : Rho), (ops 60).B { P := PP, Φ := Φ, N := fd_is_deed.N, sc := fd_is_deed.sc, top := true, pin := fd_is_deed.pin } fd_is_deed.body ρ = m_is_deed Φ ρ := by
  intro Φ ρ
  kernel_rfl
theorem l_is_deed : PP.fns.lookup ("is_deed" : Str) = some fd_is_deed := by kernel_rfl
noncomputable def m_need_text (Φ : FT) : ClB := (seqR [iffR (notT (truR (isiR (nmE 0) "str"))) (seqR [excR "NoText"]) (seqR [])])
theorem b_need_text : ∀ (Φ : FT) (ρ : Rho), (ops 60).B { P := PP, Φ := Φ, N := fd_need_text.N, sc := fd_need_text.sc, top := true, pin := fd_need_text.pin } fd_need_text.body ρ = m_need_text Φ ρ := by
  intro Φ ρ
  kernel_rfl
theorem l_need_text : PP.fns.lookup ("need_text" : Str) = some fd_need_text := by kernel_rfl
noncomputable def m_number_of (Φ : FT) : ClB := (seqR [iffR (orR [notT (thawT (chnR .LtE .LtE (kE (.int 1)) (thawE (cbR "len" [nmE 0])) (kE (.int 60)))), andR [thawT (cmpR .Eq (ixN' 0 (kE (.int 0))) (kE (.str "0"))), thawT (cmpR .NotEq (nmE 0) (kE (.str "0")))]]) (seqR [excR "NoText"]) (seqR []),
  forR (itR (nmE 0)) (.nm 1) (seqR [iffR (thawT (cmpR .NotIn (nmE 1) (kE (.str "0123456789")))) (seqR [excR "NoText"]) (seqR [])]),
  retR (ctR "int" [nmE 0])])
theorem b_number_of : ∀ (Φ : FT) (ρ : Rho), (ops 60).B { P := PP, Φ := Φ, N := fd_number_of.N, sc := fd_number_of.sc, top := true, pin := fd_number_of.pin } fd_number_of.body ρ = m_number_of Φ ρ := by
  intro Φ ρ
  kernel_rfl
theorem l_number_of : PP.fns.lookup ("number_of" : Str) = some fd_number_of := by kernel_rfl
noncomputable def m_read_robe (Φ : FT) : ClB := (seqR [exprR (callR Φ "need_text" [] [.val (nmE 0)]),
  setR 1 (ctR "tuple" [lcE (lcR true (itR (msN "split" 0 [kE (.str "/")])) (.nm 2) yesR (callR Φ "number_of" [] [.val (nmE 2)]) [2])]),
  iffR (notT (truR (callR Φ "is_robe" [] [.val (nmE 1)]))) (seqR [excR "NoText"]) (seqR []),
  retN 1 [0]])
theorem b_read_robe : ∀ (Φ : FT) (ρ : Rho), (ops 60).B { P := PP, Φ := Φ, N := fd_read_robe.N, sc := fd_read_robe.sc, top := true, pin := fd_read_robe.pin } fd_read_robe.body ρ = m_read_robe Φ ρ := by
  intro Φ ρ
  kernel_rfl
theorem l_read_robe : PP.fns.lookup ("read_robe" : Str) = some fd_read_robe := by kernel_rfl
noncomputable def m_part_of (Φ : FT) : ClB := (seqR [asgT (.tup [.nm 1, .nm 2, .nm 3]) (msN "partition" 0 [kE (.str ":")]),
  iffR (thawT (cmpR .Eq (nmE 2) (kE (.str "")))) (seqR [excR "NoText"]) (seqR []),
  retR (binR .Add (tupR [nmE 1]) (callR Φ "read_robe" [] [.val (nmE 3)]))])
theorem b_part_of : ∀ (Φ : FT) (ρ : Rho), (ops 60).B { P := PP, Φ := Φ, N := fd_part_of.N, sc := fd_part_of.sc, top := true, pin := fd_part_of.pin } fd_part_of.body ρ = m_part_of Φ ρ := by
  intro Φ ρ
  kernel_rfl
theorem l_part_of : PP.fns.lookup ("part_of" : Str) = some fd_part_of := by kernel_rfl
noncomputable def m_things_of (Φ : FT) : ClB := (seqR [iffR (thawT (cmpR .Eq (nmE 1) (kE (.str "n")))) (seqR [retR (lstR [callR Φ "number_of" [] [.val (nmE 0)]])]) (seqR []),
  iffR (thawT (cmpR .Eq (nmE 1) (kE (.str "r")))) (seqR [retR (ctR "list" [callR Φ "read_robe" [] [.val (nmE 0)]])]) (seqR []),
  iffR (thawT (cmpR .Eq (nmE 1) (kE (.str "p")))) (seqR [retR (lstR [ctR "tuple" [lcE (lcR true (itR (msN "split" 0 [kE (.str ",")])) (.nm 2) yesR (callR Φ "part_of" [] [.val (nmE 2)]) [2])]])]) (seqR []),
  retR (lstR [nmE 0])])
theorem b_things_of : ∀ (Φ : FT) (ρ : Rho), (ops 60).B { P := PP, Φ := Φ, N := fd_things_of.N, sc := fd_things_of.sc, top := true, pin := fd_things_of.pin } fd_things_of.body ρ = m_things_of Φ ρ := by
  intro Φ ρ
  kernel_rfl
theorem l_things_of : PP.fns.lookup ("things_of" : Str) = some fd_things_of := by kernel_rfl
noncomputable def h_read_deed_0 (Φ : FT) (a : Addr) (c : Exc) : ClB := fun ρ => (ops 59).B { P := PP, Φ := Φ, N := fd_read_deed.N, sc := fd_read_deed.sc, top := true, pin := fd_read_deed.pin, su := some (a, c) } (hdlBody ((defBody s_read_deed).getD 2 (.Pass ⟨0, 0, 0, 0⟩))) ρ
noncomputable def m_read_deed (Φ : FT) : ClB := (seqR [exprR (callR Φ "need_text" [] [.val (nmE 0)]),
  setR 1 (msN "split" 0 [kE (.str " ")]),
  tryH (seqR [setR 2 (tabR t_FORMS (ixN' 1 (kE (.int 0))))]) (hndR PP "KeyError" (h_read_deed_0 Φ) 3),
  iffR (thawT (cmpR .NotEq (thawE (cbR "len" [nmE 1])) (binR .Add (kE (.int 1)) (thawE (cbR "len" [nmE 2]))))) (seqR [excR "NoText"]) (seqR []),
  setR 4 (lstR [ixN' 1 (kE (.int 0))]),
  forR (zipS (slcR (nmE 1) (some (kE (.int 1))) none) (nmE 2)) (.tup [.nm 5, .nm 6]) (seqR [exprR (extR 4 (callR Φ "things_of" [] [.val (nmE 5), .val (nmE 6)]))]),
  setR 7 (ctR "tuple" [nmE 4]),
  iffR (notT (truR (callR Φ "is_deed" [] [.val (nmE 7)]))) (seqR [excR "NoText"]) (seqR []),
  retN 7 [0]])
theorem b_read_deed : ∀ (Φ : FT) (ρ : Rho), (ops 60).B { P := PP, Φ := Φ, N := fd_read_deed.N, sc := fd_read_deed.sc, top := true, pin := fd_read_deed.pin } fd_read_deed.body ρ = m_read_deed Φ ρ := by
  intro Φ ρ
  kernel_rfl
theorem l_read_deed : PP.fns.lookup ("read_deed" : Str) = some fd_read_deed := by kernel_rfl
noncomputable def m__law_pen (Φ : FT) : ClB := (seqR [retR (lstR [lcE (lcR true (itR (slcR (nmE 0) none (some (kE (.int 63))))) (.nm 1) yesR (nmE 1) [1]), kE (.int 0), kE (.int 0)])])
theorem b__law_pen : ∀ (Φ : FT) (ρ : Rho), (ops 60).B { P := PP, Φ := Φ, N := fd__law_pen.N, sc := fd__law_pen.sc, top := true, pin := fd__law_pen.pin } fd__law_pen.body ρ = m__law_pen Φ ρ := by
  intro Φ ρ
  kernel_rfl
theorem l__law_pen : PP.fns.lookup ("_law_pen" : Str) = some fd__law_pen := by kernel_rfl
noncomputable def m__law_take (Φ : FT) : ClB := (seqR [iffR (thawT (cmpR .Gt (ixN' 0 (kE (.int 2))) (kE (.int 0)))) (seqR [setR 2 (binR .Mod (ixN' 0 (kE (.int 2))) (nmE 1)),
    setIx 0 (binR .FloorDiv (ixN' 0 (kE (.int 2))) (nmE 1)) (kE (.int 2)),
    retN 2 [0, 1]]) (seqR []),
  setR 3 (ixN' 0 (kE (.int 1))),
  setIx 0 (binR .Add (nmE 3) (kE (.int 1))) (kE (.int 1)),
  setR 4 (binR .Add (binR .Mult (kE (.int 41)) (nmE 3)) (kE (.int 13))),
  iffR (thawT (cmpR .NotEq (ixN' 0 (kE (.int 0))) (lstR []))) (seqR [setR 4 (ixR (ixN' 0 (kE (.int 0))) (binR .Mod (nmE 3) (thawE (cbR "len" [ixN' 0 (kE (.int 0))]))))]) (seqR []),
  iffR (andR [thawT (cmpR .Lt (nmE 3) (thawE (cbR "len" [ixN' 0 (kE (.int 0))]))), cmpR .GtE (cbR "abs" [nmE 4]) (binR .Pow (kE (.int 10)) (kE (.int 18)))]) (seqR [setR 5 (binR .Add (binR .Mult (kE (.int 2)) (binR .Sub (cbR "abs" [nmE 4]) (binR .Pow (kE (.int 10)) (kE (.int 18))))) (ctR "int" [blR (thawT (cmpR .Lt (nmE 4) (kE (.int 0))))])),
    setIx 0 (binR .FloorDiv (nmE 5) (nmE 1)) (kE (.int 2)),
    retR (binR .Mod (nmE 5) (nmE 1))]) (seqR []),
  setR 6 (binR .Mod (binR .Pow (binR .Add (binR .Add (binR .Add (binR .Mod (nmE 4) (kE (.int 2147483629))) (binR .Mult (kE (.int 40709)) (nmE 3))) (binR .Mult (binR .Mult (kE (.int 7919)) (nmE 3)) (nmE 3))) (kE (.int 31))) (kE (.int 5))) (kE (.int 2147483647))),
  setR 6 (binR .Mod (binR .Pow (binR .Add (binR .Add (binR .Mult (nmE 6) (kE (.int 48271))) (binR .Mult (kE (.int 69621)) (nmE 3))) (kE (.int 11))) (kE (.int 3))) (kE (.int 2147483587))),
  iffR (thawT (cmpR .Gt (nmE 1) (binR .Pow (kE (.int 10)) (kE (.int 8))))) (seqR [setR 6 (binR .Pow (binR .Add (nmE 6) (kE (.int 17))) (kE (.int 7)))]) (seqR []),
  retR (binR .Mod (binR .FloorDiv (nmE 6) (kE (.int 7))) (nmE 1))])
theorem b__law_take : ∀ (Φ : FT) (ρ : Rho), (ops 60).B { P := PP, Φ := Φ, N := fd__law_take.N, sc := fd__law_take.sc, top := true, pin := fd__law_take.pin } fd__law_take.body ρ = m__law_take Φ ρ := by
  intro Φ ρ
  kernel_rfl
theorem l__law_take : PP.fns.lookup ("_law_take" : Str) = some fd__law_take := by kernel_rfl
noncomputable def m__law_robe (Φ : FT) : ClB := (seqR [setR 1 (binR .Add (kE (.int 1)) (callR Φ "_law_take" [] [.lent 0, .val (ixR (lstR [kE (.int 12), kE (.int 60), kE (.int 999)]) (callR Φ "_law_take" [] [.lent 0, .val (kE (.int 3))]))])),
  setR 2 (cbR "min" [binR .Sub (nmE 1) (kE (.int 1)), ixR (lstR [kE (.int 0), callR Φ "_law_take" [] [.lent 0, .val (kE (.int 8))], callR Φ "_law_take" [] [.lent 0, .val (kE (.int 100))], kE (.int 99)]) (callR Φ "_law_take" [] [.lent 0, .val (kE (.int 4))])]),
  setR 3 (ixR (lstR [kE (.int 0), callR Φ "_law_take" [] [.lent 0, .val (kE (.int 8))], callR Φ "_law_take" [] [.lent 0, .val (kE (.int 100))], kE (.int 99)]) (callR Φ "_law_take" [] [.lent 0, .val (kE (.int 4))])),
  retR (tupR [nmE 1, nmE 2, nmE 3])])
theorem b__law_robe : ∀ (Φ : FT) (ρ : Rho), (ops 60).B { P := PP, Φ := Φ, N := fd__law_robe.N, sc := fd__law_robe.sc, top := true, pin := fd__law_robe.pin } fd__law_robe.body ρ = m__law_robe Φ ρ := by
  intro Φ ρ
  kernel_rfl
theorem l__law_robe : PP.fns.lookup ("_law_robe" : Str) = some fd__law_robe := by kernel_rfl
noncomputable def m__law_name (Φ : FT) : ClB := (seqR [setR 1 (kE (.str "abcdefghijklmnopqrstuvwxyz")),
  setR 2 (lstR [kE (.str "buy"), kE (.str "sew"), kE (.str "cut"), kE (.str "as"), kE (.str "free"), kE (.str "none"), kE (.str "a"), kE (.str "b"), kE (.str "ab"), kE (.str "robe"), kE (.str "zzzzzzzz"), kE (.str "with"), kE (.str "press"), kE (.str "mending")]),
  iffR (cmpR .Eq (callR Φ "_law_take" [] [.lent 0, .val (kE (.int 3))]) (kE (.int 0))) (seqR [retR (ixN' 2 (callR Φ "_law_take" [] [.lent 0, .val (kE (.int 14))]))]) (seqR []),
  retR (msR "join" (kE (.str "")) [lcE (lcR true (rng1R (binR .Add (kE (.int 1)) (callR Φ "_law_take" [] [.lent 0, .val (kE (.int 8))]))) (.nm 3) yesR (ixN' 1 (callR Φ "_law_take" [] [.lent 0, .val (kE (.int 26))])) [3])])])
theorem b__law_name : ∀ (Φ : FT) (ρ : Rho), (ops 60).B { P := PP, Φ := Φ, N := fd__law_name.N, sc := fd__law_name.sc, top := true, pin := fd__law_name.pin } fd__law_name.body ρ = m__law_name Φ ρ := by
  intro Φ ρ
  kernel_rfl
theorem l__law_name : PP.fns.lookup ("_law_name" : Str) = some fd__law_name := by kernel_rfl
noncomputable def m__law_deed (Φ : FT) : ClB := (seqR [setR 1 (callR Φ "_law_take" [] [.lent 0, .val (kE (.int 11))]),
  setR 2 (callR Φ "_law_name" [] [.lent 0]),
  setR 3 (ixR (lstR [kE (.int 0), kE (.int 9999), callR Φ "_law_take" [] [.lent 0, .val (kE (.int 10000))]]) (callR Φ "_law_take" [] [.lent 0, .val (kE (.int 3))])),
  iffR (thawT (cmpR .Eq (nmE 1) (kE (.int 0)))) (seqR [retR (tupR [kE (.str "buy"), ixR (lstR [kE (.int 1), binR .Pow (kE (.int 10)) (kE (.int 6)), binR .Add (kE (.int 1)) (callR Φ "_law_take" [] [.lent 0, .val (binR .Pow (kE (.int 10)) (kE (.int 6)))])]) (callR Φ "_law_take" [] [.lent 0, .val (kE (.int 3))]), nmE 3])]) (seqR []),
  iffR (thawT (cmpR .Eq (nmE 1) (kE (.int 1)))) (seqR [retR (binR .Add (binR .Add (tupR [kE (.str "sew"), nmE 2]) (callR Φ "_law_robe" [] [.lent 0])) (tupR [nmE 3]))]) (seqR []),
  iffR (thawT (cmpR .Eq (nmE 1) (kE (.int 2)))) (seqR [retR (tupR [kE (.str "hand"), nmE 2, callR Φ "_law_name" [] [.lent 0], nmE 3])]) (seqR []),
  iffR (thawT (cmpR .Eq (nmE 1) (kE (.int 3)))) (seqR [setR 4 (cbR "min" [nmE 3, kE (.int 9998)]),
    retR (tupR [kE (.str "mend"), nmE 2, nmE 4, ixR (lstR [binR .Add (nmE 4) (kE (.int 1)), kE (.int 9999), binR .Add (binR .Add (nmE 4) (kE (.int 1))) (callR Φ "_law_take" [] [.lent 0, .val (binR .Sub (kE (.int 9999)) (nmE 4))])]) (callR Φ "_law_take" [] [.lent 0, .val (kE (.int 3))])])]) (seqR []),
  iffR (thawT (cmpR .Eq (nmE 1) (kE (.int 4)))) (seqR [retR (tupR [kE (.str "alter"), nmE 2, ixR (lstR [kE (.int 1), kE (.int 1098), binR .Add (kE (.int 1)) (callR Φ "_law_take" [] [.lent 0, .val (kE (.int 1098))])]) (callR Φ "_law_take" [] [.lent 0, .val (kE (.int 3))]), nmE 3])]) (seqR []),
  iffR (thawT (cmpR .Eq (nmE 1) (kE (.int 5)))) (seqR [setL 5 (lcR true (rng1R (binR .Add (kE (.int 1)) (callR Φ "_law_take" [] [.lent 0, .val (kE (.int 4))]))) (.nm 6) yesR (binR .Add (tupR [callR Φ "_law_name" [] [.lent 0]]) (callR Φ "_law_robe" [] [.lent 0])) [6]),
    retR (tupR [kE (.str "cut"), nmE 2, ctR "tuple" [nmE 5], nmE 3])]) (seqR []),
  iffR (thawT (cmpR .Eq (nmE 1) (kE (.int 6)))) (seqR [retR (tupR [kE (.str "grow"), nmE 2, ixR (lstR [kE (.int 1), kE (.int 500), binR .Add (kE (.int 1)) (callR Φ "_law_take" [] [.lent 0, .val (kE (.int 500))])]) (callR Φ "_law_take" [] [.lent 0, .val (kE (.int 3))]), nmE 3])]) (seqR []),
  iffR (thawT (cmpR .Eq (nmE 1) (kE (.int 7)))) (seqR [retR (tupR [kE (.str "mark"), nmE 2, ixR (lstR [kE (.int 1), kE (.int 999), binR .Add (kE (.int 1)) (callR Φ "_law_take" [] [.lent 0, .val (kE (.int 999))])]) (callR Φ "_law_take" [] [.lent 0, .val (kE (.int 3))]), nmE 3])]) (seqR []),
  retR (tupR [ixR (lstR [kE (.str "back"), kE (.str "cast"), kE (.str "fade")]) (binR .Sub (nmE 1) (kE (.int 8))), nmE 2, nmE 3])])
theorem b__law_deed : ∀ (Φ : FT) (ρ : Rho), (ops 60).B { P := PP, Φ := Φ, N := fd__law_deed.N, sc := fd__law_deed.sc, top := true, pin := fd__law_deed.pin } fd__law_deed.body ρ = m__law_deed Φ ρ := by
  intro Φ ρ
  kernel_rfl
theorem l__law_deed : PP.fns.lookup ("_law_deed" : Str) = some fd__law_deed := by kernel_rfl
noncomputable def m__law_deed_text (Φ : FT) : ClB := (seqR [setR 1 (lstR [ixN' 0 (kE (.int 0))]),
  setR 2 (ctR "list" [slcR (nmE 0) (some (kE (.int 1))) none]),
  iffR (thawT (cmpR .Eq (ixN' 0 (kE (.int 0))) (kE (.str "sew")))) (seqR [setR 2 (lstR [ixN' 0 (kE (.int 1)), binR .Add (binR .Add (binR .Add (binR .Add (ctR "str" [ixN' 0 (kE (.int 2))]) (kE (.str "/"))) (ctR "str" [ixN' 0 (kE (.int 3))])) (kE (.str "/"))) (ctR "str" [ixN' 0 (kE (.int 4))]), ixN' 0 (kE (.int 5))])]) (seqR []),
  iffR (thawT (cmpR .Eq (ixN' 0 (kE (.int 0))) (kE (.str "cut")))) (seqR [setL 3 (lcR true (itR (ixN' 0 (kE (.int 2)))) (.nm 4) yesR (binR .Add (binR .Add (binR .Add (binR .Add (binR .Add (binR .Add (ixN' 4 (kE (.int 0))) (kE (.str ":"))) (ctR "str" [ixN' 4 (kE (.int 1))])) (kE (.str "/"))) (ctR "str" [ixN' 4 (kE (.int 2))])) (kE (.str "/"))) (ctR "str" [ixN' 4 (kE (.int 3))])) [4]),
    setR 2 (lstR [ixN' 0 (kE (.int 1)), msR "join" (kE (.str ",")) [nmE 3], ixN' 0 (kE (.int 3))])]) (seqR []),
  retR (msR "join" (kE (.str " ")) [binR .Add (nmE 1) (lcE (lcR true (itR (nmE 2)) (.nm 5) yesR (ctR "str" [nmE 5]) [5]))])])
theorem b__law_deed_text : ∀ (Φ : FT) (ρ : Rho), (ops 60).B { P := PP, Φ := Φ, N := fd__law_deed_text.N, sc := fd__law_deed_text.sc, top := true, pin := fd__law_deed_text.pin } fd__law_deed_text.body ρ = m__law_deed_text Φ ρ := by
  intro Φ ρ
  kernel_rfl
theorem l__law_deed_text : PP.fns.lookup ("_law_deed_text" : Str) = some fd__law_deed_text := by kernel_rfl
noncomputable def m__law_same (Φ : FT) : ClB := (seqR [iffR (truR (isi2R (nmE 1) "tuple" "list")) (seqR [iffR (orR [cmpR .NotEq (isiR (nmE 0) "tuple") (isiR (nmE 1) "tuple"), cmpR .NotEq (isiR (nmE 0) "list") (isiR (nmE 1) "list")]) (seqR [retR (kE (.bl false))]) (seqR []),
    retR (andO [blR (thawT (cmpR .Eq (thawE (cbR "len" [nmE 0])) (thawE (cbR "len" [nmE 1])))), cbR "all" [lcE (lcR true (zipR (nmE 0) (nmE 1)) (.tup [.nm 2, .nm 3]) yesR (callR Φ "_law_same" [] [.val (nmE 2), .val (nmE 3)]) [2, 3])]])]) (seqR []),
  iffR (orR [truR (isiR (nmE 0) "bool"), truR (isiR (nmE 1) "bool")]) (seqR [retR (andO [isiR (nmE 0) "bool", isiR (nmE 1) "bool", blR (thawT (cmpR .Eq (nmE 0) (nmE 1)))])]) (seqR []),
  iffR (truR (isi2R (nmE 0) "tuple" "list")) (seqR [retR (kE (.bl false))]) (seqR []),
  retR (andO [blR (cmpR .Eq (isiR (nmE 0) "str") (isiR (nmE 1) "str")), blR (thawT (cmpR .Eq (nmE 0) (nmE 1)))])])
theorem b__law_same : ∀ (Φ : FT) (ρ : Rho), (ops 60).B { P := PP, Φ := Φ, N := fd__law_same.N, sc := fd__law_same.sc, top := true, pin := fd__law_same.pin } fd__law_same.body ρ = m__law_same Φ ρ := by
  intro Φ ρ
  kernel_rfl
theorem l__law_same : PP.fns.lookup ("_law_same" : Str) = some fd__law_same := by kernel_rfl
noncomputable def m_law (Φ : FT) : ClB := (seqR [setR 1 (callR Φ "_law_pen" [] [.val (nmE 0)]),
  setL 2 (lcR true (rng1R (kE (.int 12))) (.nm 7) yesR (callR Φ "_law_deed" [] [.lent 1]) [7]),
  forR (rng1R (kE (.int 2))) (.nm 3) (seqR [forR (itR (nmE 2)) (.nm 4) (seqR [setR 5 (callR Φ "_law_deed_text" [] [.val (nmE 4)]),
      setR 6 (callR Φ "show_deed" [] [.val (nmE 4)]),
      iffR (orR [notT (truR (isiR (nmE 6) "str")), thawT (cmpR .NotEq (nmE 6) (nmE 5)), notT (truR (callR Φ "_law_same" [] [.val (callR Φ "read_deed" [] [.val (nmE 5)]), .val (nmE 4)]))]) (seqR [retR (kE (.bl false))]) (seqR [])])]),
  retR (kE (.bl true))])
theorem b_law : ∀ (Φ : FT) (ρ : Rho), (ops 60).B { P := PP, Φ := Φ, N := fd_law.N, sc := fd_law.sc, top := true, pin := fd_law.pin } fd_law.body ρ = m_law Φ ρ := by
  intro Φ ρ
  kernel_rfl
theorem l_law : PP.fns.lookup ("law" : Str) = some fd_law := by kernel_rfl
end K74

set_option Elab.async false
set_option linter.all false
set_option maxRecDepth 100000
set_option maxHeartbeats 4000000
/-! deeds -/
namespace K74
open PySem PySem.Spec PyProof.Rows L2 Fr
theorem is_whole_eq {n : Nat} {d : D} {l m : Int} {w : Rho} (hx : d.ex = false) : callN PP (n + 1) "is_whole" [.fz d, .fz (.int l), .fz (.int m)] w = .ok (.fz (.bl (isWhole d l m))) [.fz d, .fz (.int l), .fz (.int m)] w := by
  rw [callN_run l_is_whole b_is_whole rfl]
  cases d <;> simp [m_is_whole, fd_is_whole, isWhole] at hx ⊢
theorem is_day_eq {n : Nat} {d : D} {w : Rho} (hx : d.ex = false) : callN PP (n + 2) "is_day" [.fz d] w = .ok (.fz (.bl (isWhole d 0 9999))) [.fz d] w := by
  rw [callN_run l_is_day b_is_day rfl]
  simp [m_is_day, fd_is_day, is_whole_eq hx]
theorem is_person_eq {n : Nat} {d : D} {w : Rho} (hx : d.ex = false) : callN PP (n + 2) "is_person" [.fz d] w = .ok (.fz (.bl (isWhole d 1 500))) [.fz d] w := by
  rw [callN_run l_is_person b_is_person rfl]
  simp [m_is_person, fd_is_person, is_whole_eq hx]
theorem is_robe_eq {n : Nat} {d : D} {w : Rho} (hx : cl d = true) : callN PP (n + 2) "is_robe" [.fz d] w = .ok (.fz (.bl (isRobeD d))) [.fz d] w := by
  rw [callN_run l_is_robe b_is_robe rfl]
  cases d with
  | tup xs =>
    rcases xs with _ | ⟨a, _ | ⟨b, _ | ⟨c, _ | ⟨e, r⟩⟩⟩⟩
    · simp [m_is_robe, fd_is_robe, isRobeD]
    · simp [m_is_robe, fd_is_robe, isRobeD]
    · simp [m_is_robe, fd_is_robe, isRobeD]
    · simp at hx
      have ha := cl_ex hx.1
      have hb := cl_ex hx.2.1
      have hc := cl_ex hx.2.2
      simp [m_is_robe, fd_is_robe, isRobeD, is_whole_eq ha, is_whole_eq hb, is_whole_eq hc]
      cases h1 : isWhole a 1 999 with
      | false => simp
      | true =>
        cases h2 : isWhole b 0 99 with
        | false => simp
        | true =>
          cases h3 : isWhole c 0 99 with
          | false => simp
          | true =>
            obtain ⟨i, rfl, _, _⟩ := isWhole_int h1
            obtain ⟨j, rfl, _, _⟩ := isWhole_int h2
            simp [ltD]
    · have h4 : ¬ ((r.length : Int) + 1 + 1 + 1 + 1 = 3) := by omega
      simp [m_is_robe, fd_is_robe, isRobeD, h4]
  | exn a => rw [cl] at hx; cases hx
  | _ => simp [m_is_robe, fd_is_robe, isRobeD]
/-! names -/
theorem is_name_eq {n : Nat} {d : D} {w : Rho} (hx : cl d = true) : callN PP (n + 1) "is_name" [.fz d] w = .ok (.fz (.bl (isName d))) [.fz d] w := by
  rw [callN_run l_is_name b_is_name rfl]
  cases d with
  | exn a => rw [cl] at hx; cases hx
  | str z =>
    simp at hx
    have h1 : z.length ≤ 16000000 := by omega
    simp [m_is_name, fd_is_name, h1]
    generalize e : forL _ _ _ = m
    obtain ⟨ρ', -, rfl⟩ := loop_ret (fun d => match d with | .str y => y.cps.toList.all fun c => decide (c ∈ ("abcdefghijklmnopqrstuvwxyz" : Str).cps.toList) | _ => false) (fun ρ => ∃ y, ρ = [some (.fz (.str z)), y]) (.fz (.bl false)) e ⟨_, rfl⟩ (by
      rintro d hd ρ ⟨y, rfl⟩
      obtain ⟨c, rfl⟩ := mem_signs hd
      refine ⟨[some (.fz (.str z)), some (.fz (.str ⟨#[c]⟩))], ⟨_, rfl⟩, ?_⟩
      simp)
    simp [isName, nameOk]
  | _ => simp [m_is_name, fd_is_name, isName]
/-! parts -/
theorem is_part_eq {n : Nat} {d : D} {w : Rho} (hx : cl d = true) : callN PP (n + 3) "is_part" [.fz d] w = .ok (.fz (.bl (isPart d))) [.fz d] w := by
  rw [callN_run l_is_part b_is_part rfl]
  cases d with
  | exn a => rw [cl] at hx; cases hx
  | tup xs =>
    rcases xs with _ | ⟨a, _ | ⟨b, _ | ⟨c, _ | ⟨e, _ | ⟨f, r⟩⟩⟩⟩⟩
    · simp [m_is_part, fd_is_part, isPart]
    · simp [m_is_part, fd_is_part, isPart]
    · simp [m_is_part, fd_is_part, isPart]
    · simp [m_is_part, fd_is_part, isPart]
    · simp at hx
      have h2 : cl (.tup [b, c, e]) = true := by simp [hx]
      simp [m_is_part, fd_is_part, isPart, is_name_eq hx.1, is_robe_eq h2]
    · have h4 : ¬ ((r.length : Int) + 1 + 1 + 1 + 1 + 1 = 4) := by omega
      simp [m_is_part, fd_is_part, isPart, h4]
  | _ => simp [m_is_part, fd_is_part, isPart]
theorem are_parts_eq {n : Nat} {d : D} {w : Rho} (hx : cl d = true) : callN PP (n + 4) "are_parts" [.fz d] w = .ok (.fz (.bl (areParts d))) [.fz d] w := by
  rw [callN_run l_are_parts b_are_parts rfl]
  cases d with
  | exn a => rw [cl] at hx; cases hx
  | tup xs =>
    simp at hx
    simp [m_are_parts, fd_are_parts, areParts]
    cases h1 : decide (1 ≤ (xs.length : Int)) && decide ((xs.length : Int) ≤ 4) with
    | false => simp [h1]
    | true =>
      simp at h1
      have h2 : xs.length ≤ 16000000 := by omega
      simp [h2]
      rw [lcL_map fun d => .fz (.bl (isPart d))]
      · simp [List.all_map, Function.comp_def]
      · intro d hd
        simp [is_part_eq (clL_all.mp hx d hd)]
      · simp
  | _ => simp [m_are_parts, fd_are_parts, areParts]
/-! what follows a deed's word -/
theorem cl_1 {a : D} {xs : List D} (h : clL (a :: xs) = true) : cl a = true := by simp at h; exact h.1
theorem is_naming_eq {n : Nat} {xs : List D} {w : Rho} (hx : clL xs = true) : callN PP (n + 2) "is_naming" [.fz (.tup xs)] w = .ok (.fz (.bl (one1 isName xs))) [.fz (.tup xs)] w := by
  rw [callN_run l_is_naming b_is_naming rfl]
  rcases xs with _ | ⟨a, _ | ⟨b, r⟩⟩
  · simp [m_is_naming, fd_is_naming, one1]
  · simp at hx
    simp [m_is_naming, fd_is_naming, is_name_eq hx]
  · have h4 : ¬ ((r.length : Int) + 1 + 1 = 1) := by omega
    simp [m_is_naming, fd_is_naming, one1, h4]
theorem is_buying_eq {n : Nat} {xs : List D} {w : Rho} (hx : clL xs = true) : callN PP (n + 2) "is_buying" [.fz (.tup xs)] w = .ok (.fz (.bl (one1 (fun d => isWhole d 1 1000000) xs))) [.fz (.tup xs)] w := by
  rw [callN_run l_is_buying b_is_buying rfl]
  rcases xs with _ | ⟨a, _ | ⟨b, r⟩⟩
  · simp [m_is_buying, fd_is_buying, one1]
  · simp at hx
    simp [m_is_buying, fd_is_buying, is_whole_eq (cl_ex hx)]
  · have h4 : ¬ ((r.length : Int) + 1 + 1 = 1) := by omega
    simp [m_is_buying, fd_is_buying, one1, h4]
theorem is_sewing_eq {n : Nat} {xs : List D} {w : Rho} (hx : clL xs = true) : callN PP (n + 4) "is_sewing" [.fz (.tup xs)] w = .ok (.fz (.bl (isPart (.tup xs)))) [.fz (.tup xs)] w := by
  rw [callN_run l_is_sewing b_is_sewing rfl]
  have hx' : cl (.tup xs) = true := by simpa using hx
  simp [m_is_sewing, fd_is_sewing, is_part_eq hx']
theorem is_handing_eq {n : Nat} {xs : List D} {w : Rho} (hx : clL xs = true) : callN PP (n + 2) "is_handing" [.fz (.tup xs)] w = .ok (.fz (.bl (two2 isName isName xs))) [.fz (.tup xs)] w := by
  rw [callN_run l_is_handing b_is_handing rfl]
  rcases xs with _ | ⟨a, _ | ⟨b, _ | ⟨c, r⟩⟩⟩
  · simp [m_is_handing, fd_is_handing, two2]
  · simp [m_is_handing, fd_is_handing, two2]
  · simp at hx
    simp [m_is_handing, fd_is_handing, is_name_eq hx.1, is_name_eq hx.2]
  · have h4 : ¬ ((r.length : Int) + 1 + 1 + 1 = 2) := by omega
    simp [m_is_handing, fd_is_handing, two2, h4]
theorem is_mending_eq {n : Nat} {xs : List D} {w : Rho} (hx : clL xs = true) : callN PP (n + 3) "is_mending" [.fz (.tup xs)] w = .ok (.fz (.bl (two2 isName (fun d => isWhole d 0 9999) xs))) [.fz (.tup xs)] w := by
  rw [callN_run l_is_mending b_is_mending rfl]
  rcases xs with _ | ⟨a, _ | ⟨b, _ | ⟨c, r⟩⟩⟩
  · simp [m_is_mending, fd_is_mending, two2]
  · simp [m_is_mending, fd_is_mending, two2]
  · simp at hx
    simp [m_is_mending, fd_is_mending, is_name_eq hx.1, is_day_eq (cl_ex hx.2)]
  · have h4 : ¬ ((r.length : Int) + 1 + 1 + 1 = 2) := by omega
    simp [m_is_mending, fd_is_mending, two2, h4]
theorem is_altering_eq {n : Nat} {xs : List D} {w : Rho} (hx : clL xs = true) : callN PP (n + 2) "is_altering" [.fz (.tup xs)] w = .ok (.fz (.bl (two2 isName (fun d => isWhole d 1 1098) xs))) [.fz (.tup xs)] w := by
  rw [callN_run l_is_altering b_is_altering rfl]
  rcases xs with _ | ⟨a, _ | ⟨b, _ | ⟨c, r⟩⟩⟩
  · simp [m_is_altering, fd_is_altering, two2]
  · simp [m_is_altering, fd_is_altering, two2]
  · simp at hx
    simp [m_is_altering, fd_is_altering, is_name_eq hx.1, is_whole_eq (cl_ex hx.2)]
  · have h4 : ¬ ((r.length : Int) + 1 + 1 + 1 = 2) := by omega
    simp [m_is_altering, fd_is_altering, two2, h4]
theorem is_cutting_eq {n : Nat} {xs : List D} {w : Rho} (hx : clL xs = true) : callN PP (n + 5) "is_cutting" [.fz (.tup xs)] w = .ok (.fz (.bl (two2 isName areParts xs))) [.fz (.tup xs)] w := by
  rw [callN_run l_is_cutting b_is_cutting rfl]
  rcases xs with _ | ⟨a, _ | ⟨b, _ | ⟨c, r⟩⟩⟩
  · simp [m_is_cutting, fd_is_cutting, two2]
  · simp [m_is_cutting, fd_is_cutting, two2]
  · simp at hx
    simp [m_is_cutting, fd_is_cutting, is_name_eq hx.1, are_parts_eq hx.2]
  · have h4 : ¬ ((r.length : Int) + 1 + 1 + 1 = 2) := by omega
    simp [m_is_cutting, fd_is_cutting, two2, h4]
theorem is_growing_eq {n : Nat} {xs : List D} {w : Rho} (hx : clL xs = true) : callN PP (n + 3) "is_growing" [.fz (.tup xs)] w = .ok (.fz (.bl (two2 isName (fun d => isWhole d 1 500) xs))) [.fz (.tup xs)] w := by
  rw [callN_run l_is_growing b_is_growing rfl]
  rcases xs with _ | ⟨a, _ | ⟨b, _ | ⟨c, r⟩⟩⟩
  · simp [m_is_growing, fd_is_growing, two2]
  · simp [m_is_growing, fd_is_growing, two2]
  · simp at hx
    simp [m_is_growing, fd_is_growing, is_name_eq hx.1, is_person_eq (cl_ex hx.2)]
  · have h4 : ¬ ((r.length : Int) + 1 + 1 + 1 = 2) := by omega
    simp [m_is_growing, fd_is_growing, two2, h4]
theorem is_marking_eq {n : Nat} {xs : List D} {w : Rho} (hx : clL xs = true) : callN PP (n + 2) "is_marking" [.fz (.tup xs)] w = .ok (.fz (.bl (two2 isName (fun d => isWhole d 1 999) xs))) [.fz (.tup xs)] w := by
  rw [callN_run l_is_marking b_is_marking rfl]
  rcases xs with _ | ⟨a, _ | ⟨b, _ | ⟨c, r⟩⟩⟩
  · simp [m_is_marking, fd_is_marking, two2]
  · simp [m_is_marking, fd_is_marking, two2]
  · simp at hx
    simp [m_is_marking, fd_is_marking, is_name_eq hx.1, is_whole_eq (cl_ex hx.2)]
  · have h4 : ¬ ((r.length : Int) + 1 + 1 + 1 = 2) := by omega
    simp [m_is_marking, fd_is_marking, two2, h4]
theorem looks_eq {n : Nat} {k : Str} {xs : List D} (hx : clL xs = true) : (k ∉ k_LOOKS ∧ t_LOOKS.lookup k = none ∧ lookP.lookup k = none) ∨ ∃ f p, k ∈ k_LOOKS ∧ t_LOOKS.lookup k = some f ∧ lookP.lookup k = some p ∧ ∀ w, callN PP (n + 5) f [.fz (.tup xs)] w = .ok (.fz (.bl (p xs))) [.fz (.tup xs)] w := by
  by_cases h0 : k = "buy"
  · subst h0
    exact .inr ⟨_, _, by decide, by kernel_rfl, by kernel_rfl, fun w => is_buying_eq hx⟩
  by_cases h1 : k = "sew"
  · subst h1
    exact .inr ⟨_, fun xs => isPart (.tup xs), by decide, by kernel_rfl, by kernel_rfl, fun w => is_sewing_eq hx⟩
  by_cases h2 : k = "hand"
  · subst h2
    exact .inr ⟨_, _, by decide, by kernel_rfl, by kernel_rfl, fun w => is_handing_eq hx⟩
  by_cases h3 : k = "back"
  · subst h3
    exact .inr ⟨_, _, by decide, by kernel_rfl, by kernel_rfl, fun w => is_naming_eq hx⟩
  by_cases h4 : k = "mend"
  · subst h4
    exact .inr ⟨_, _, by decide, by kernel_rfl, by kernel_rfl, fun w => is_mending_eq hx⟩
  by_cases h5 : k = "alter"
  · subst h5
    exact .inr ⟨_, _, by decide, by kernel_rfl, by kernel_rfl, fun w => is_altering_eq hx⟩
  by_cases h6 : k = "cut"
  · subst h6
    exact .inr ⟨_, _, by decide, by kernel_rfl, by kernel_rfl, fun w => is_cutting_eq hx⟩
  by_cases h7 : k = "cast"
  · subst h7
    exact .inr ⟨_, _, by decide, by kernel_rfl, by kernel_rfl, fun w => is_naming_eq hx⟩
  by_cases h8 : k = "grow"
  · subst h8
    exact .inr ⟨_, _, by decide, by kernel_rfl, by kernel_rfl, fun w => is_growing_eq hx⟩
  by_cases h9 : k = "mark"
  · subst h9
    exact .inr ⟨_, _, by decide, by kernel_rfl, by kernel_rfl, fun w => is_marking_eq hx⟩
  by_cases h10 : k = "fade"
  · subst h10
    exact .inr ⟨_, _, by decide, by kernel_rfl, by kernel_rfl, fun w => is_naming_eq hx⟩
  exact .inl ⟨by simp [k_LOOKS, *], by simp [t_LOOKS, List.lookup, beq_eq_false_iff_ne.mpr, *], by simp [lookP, List.lookup, beq_eq_false_iff_ne.mpr, *]⟩
theorem is_deed_eq {n : Nat} {k : Str} {a : D} {mid : List D} {l : D} {w : Rho} (hk : k.length ≤ 100000) (hx : clL (a :: mid) = true) (hl : cl l = true) : callN PP (n + 6) "is_deed" [.fz (.tup (.str k :: (a :: mid ++ [l])))] w = .ok (.fz (.bl (isDeedL k (a :: mid) l))) [.fz (.tup (.str k :: (a :: mid ++ [l])))] w := by
  rw [callN_run l_is_deed b_is_deed rfl]
  have h1 : ¬ ((mid.length : Int) + 1 + 1 + 1 < 3) := by omega
  have h2 := atI_neg (x := D.str k) (l := l) (xs := a :: mid)
  have h3 := cutD_mid (x := D.str k) (l := l) (xs := a :: mid)
  simp only [List.cons_append] at h2 h3
  simp [m_is_deed, fd_is_deed, h1, h2, h3, is_day_eq (cl_ex hl)]
  rcases looks_eq (n := n) (k := k) hx with ⟨q1, q2, q3⟩ | ⟨f, p, q1, q2, q3, q4⟩
  · simp [q1, isDeedL, q3]
  · simp [q1, q2, q3, isDeedL, h3, q4]
    cases hw : isWhole l 0 9999 with
    | false => simp
    | true =>
      cases hp : p (a :: mid) with
      | false => simp
      | true =>
        by_cases hm : k = "mend"
        · subst hm
          have e : lookP.lookup ("mend" : Str) = some (two2 isName fun d => isWhole d 0 9999) := by kernel_rfl
          rw [e] at q3
          cases q3
          rcases mid with _ | ⟨b, _ | ⟨c, r⟩⟩
          · simp [two2] at hp
          · simp at hp
            obtain ⟨i, rfl, _, _⟩ := isWhole_int hw
            obtain ⟨j, rfl, _, _⟩ := isWhole_int hp.2
            simp [ltMid, ltD]
          · simp [two2] at hp
        · simp [hm]
/-! readers -/
theorem need_text_eq {n : Nat} {d : D} {w : Rho} (hx : d.ex = false) : callN PP (n + 1) "need_text" [.fz d] w = ifR (isiD d "str") (.ok (.fz .non) [.fz d] w) (.exc noText [.fz d] w) := by
  rw [callN_run l_need_text b_need_text rfl]
  simp [m_need_text, fd_need_text, hx]
theorem need_text_s {n : Nat} {z : Str} {w : Rho} : callN PP (n + 1) "need_text" [.fz (.str z)] w = .ok (.fz .non) [.fz (.str z)] w := by
  rw [need_text_eq rfl]
  rfl
theorem number_of_eq {n : Nat} {z : Str} {w : Rho} (hz : z.length ≤ 100000) : callN PP (n + 1) "number_of" [.fz (.str z)] w = (match numOf z with | some i => .ok (.fz (.int i)) [.fz (.str z)] w | none => .exc noText [.fz (.str z)] w) := by
  rw [callN_run l_number_of b_number_of rfl]
  have h1 : z.length ≤ 16000000 := by omega
  simp [m_number_of, fd_number_of, h1]
  cases h2 : decide (1 ≤ (z.length : Int)) && decide ((z.length : Int) ≤ 60) with
  | false =>
    have h3 : numOf z = none := by
      unfold Fr.numOf num1
      rw [h2]
      rfl
    have h4 : (!decide (1 ≤ (z.length : Int)) || !decide ((z.length : Int) ≤ 60)) = true := by rw [← Bool.not_and, h2]; rfl
    rw [h4, h3]
    rfl
  | true =>
    have h4 : (!decide (1 ≤ (z.length : Int)) || !decide ((z.length : Int) ≤ 60)) = false := by rw [← Bool.not_and, h2]; rfl
    rw [h4]
    rw [Bool.and_eq_true] at h2
    obtain ⟨c, cs, e⟩ := cons_of (of_decide_eq_true h2.1)
    simp [e]
    rw [s48, one_eq]
    have h6 : num1 z = (decide (c = 48) && !decide (z = ⟨#[48]⟩)) := by
      unfold num1
      rw [e, s48]
      simp [h2]
    cases h7 : decide (c = 48) && !decide (z = ⟨#[48]⟩) with
    | true =>
      rw [h7] at h6
      have h3 : Fr.numOf z = none := by
        unfold Fr.numOf
        rw [h6]
        rfl
      rw [h3]
      rfl
    | false =>
      rw [h7] at h6
      simp only [ifR_f]
      generalize e2 : forL _ _ _ = m
      obtain ⟨ρ', ⟨y, rfl⟩, rfl⟩ := loop_exc (fun d => match d with | .str y => y.cps.toList.all fun c => decide (c ∈ ("0123456789" : Str).cps.toList) | _ => false) (fun ρ => ∃ y, ρ = [some (.fz (.str z)), y]) noText e2 ⟨_, rfl⟩ (by
        rintro d hd ρ ⟨y, rfl⟩
        obtain ⟨c, rfl⟩ := mem_signs hd
        refine ⟨[some (.fz (.str z)), some (.fz (.str ⟨#[c]⟩))], ⟨_, rfl⟩, ?_⟩
        simp)
      simp only [signs_all]
      have h8 : (z.cps.toList.all fun c => ((⟨#[c]⟩ : Str).cps.toList.all fun c => decide (c ∈ ("0123456789" : Str).cps.toList))) = digs z := by
        unfold digs
        congr 1
        funext c
        simp
      rw [h8]
      cases h9 : digs z with
      | false =>
        have h3 : Fr.numOf z = none := by
          unfold Fr.numOf
          rw [h6, h9]
          rfl
        simp [h3]
      | true =>
        have h3 : Fr.numOf z = some ((NumText.digitsVal z.cps.toList : Nat) : Int) := by
          unfold Fr.numOf
          rw [h6, h9]
          rfl
        have hr := num1_ne h6
        have hi := intText_digits (digs_all h9) (by rw [e]; simp) (by omega)
        have h10 : z.length ≤ 640 := by omega
        simp [h3, h10, hi]
theorem read_robe_eq {n : Nat} {z : Str} {w : Rho} (hz : z.length ≤ 50000) : callN PP (n + 3) "read_robe" [.fz (.str z)] w = (match readRobe z with | some d => .ok (.fz d) [.fz (.str z)] w | none => .exc noText [.fz (.str z)] w) := by
  rw [callN_run l_read_robe b_read_robe rfl]
  have h1 : z.length + 2 ≤ 16000000 := by omega
  obtain ⟨h2, h3⟩ := split_small hz
  have h4 : (Txt.split z "/").length ≤ 16000000 := by omega
  have h6 : (("/" : Str).length == 0) = false := rfl
  simp [m_read_robe, fd_read_robe, h1, h4, need_text_s, h6]
  rw [lcL_try (c := noText) fun d => match d with | .str z => (Fr.numOf z).map fun i => O.fz (.int i) | _ => none]
  · rw [mapM_comp (g := D.str) Fr.numOf (fun i => O.fz (.int i)) fun z => rfl]
    unfold readRobe
    cases e : (Txt.split z "/").mapM Fr.numOf with
    | none => simp
    | some ns =>
      simp [is_robe_eq, cl_ints]
      cases isRobeD (.tup (ns.map .int)) <;> simp
  · intro d hd
    obtain ⟨y, hy, rfl⟩ := List.mem_map.mp hd
    simp
    cases e : Fr.numOf y <;> simp [number_of_eq (h3 y hy), e]
  · simp
/-- a robe's text read, no exception -/
theorem read_robe_ok {n : Nat} {z : Str} {d : D} {w : Rho} (hz : z.length ≤ 50000) (h : readRobe z = some d) : callN PP (n + 3) "read_robe" [.fz (.str z)] w = .ok (.fz d) [.fz (.str z)] w := by
  rw [read_robe_eq hz, h]
theorem part_of_eq {n : Nat} {z : Str} {w : Rho} (hz : z.length ≤ 50000) (hp : (Txt.partition z ":").2.2.length ≤ 50000) : callN PP (n + 4) "part_of" [.fz (.str z)] w = (match partOf z with | some d => .ok (.fz d) [.fz (.str z)] w | none => .exc noText [.fz (.str z)] w) := by
  rw [callN_run l_part_of b_part_of rfl]
  have h1 : z.length ≤ 16000000 := by omega
  have h6 : ((":" : Str).length == 0) = false := rfl
  simp [m_part_of, fd_part_of, h1, h6, read_robe_eq hp]
  unfold partOf
  by_cases h2 : (Txt.partition z ":").2.1 = ""
  · simp [h2]
  · simp [h2]
    cases e : readRobe (Txt.partition z ":").2.2 with
    | none => simp
    | some d =>
      obtain ⟨xs, rfl, hl⟩ := readRobe_tup e
      simp [hl]
theorem things_of_eq {n : Nat} {z k : Str} {w : Rho} (hz : z.length ≤ 50000) : callN PP (n + 5) "things_of" [.fz (.str z), .fz (.str k)] w = (match thingsOf z k with | some ds => .ok (.lst (ds.map .fz)) [.fz (.str z), .fz (.str k)] w | none => .exc noText [.fz (.str z), .fz (.str k)] w) := by
  rw [callN_run l_things_of b_things_of rfl]
  have h1 : z.length + 2 ≤ 16000000 := by omega
  have h6 : (("," : Str).length == 0) = false := rfl
  simp [m_things_of, fd_things_of, h1, h6]
  unfold thingsOf
  by_cases k1 : k = "n"
  · simp [k1, number_of_eq (z := z) (by omega)]
    cases Fr.numOf z <;> simp
  · simp [k1]
    by_cases k2 : k = "r"
    · simp [k2, read_robe_eq hz]
      cases e : readRobe z with
      | none => simp
      | some d =>
        obtain ⟨xs, rfl, hl⟩ := readRobe_tup e
        simp [hl]
    · simp [k2]
      by_cases k3 : k = "p"
      · obtain ⟨h2, h3⟩ := split_small' hz
        have h4 : (Txt.split z ",").length ≤ 16000000 := by omega
        simp [k3, h4]
        rw [lcL_try (c := noText) fun d => match d with | .str z => (partOf z).map fun d => O.fz d | _ => none]
        · rw [mapM_comp (g := D.str) partOf (fun d => O.fz d) fun z => rfl]
          cases e : (Txt.split z ",").mapM partOf with
          | none => simp
          | some ds => simp [Function.comp_def]
        · intro d hd
          obtain ⟨y, hy, rfl⟩ := List.mem_map.mp hd
          have h5 := h3 y hy
          have h6 := part_le y ":"
          simp
          cases e : partOf y <;> simp [part_of_eq h5 (by omega), e]
        · simp
      · simp [k3]
theorem forms_eq : t_FORMS = formsP := by kernel_rfl
theorem things_loop {n : Nat} {k : Str} : ∀ {ws : List Str} {cs : List Nat} {acc ds : List D} {a0 a1 a2 a3 a5 a6 a7 : Option O}, (∀ w ∈ ws, w.length ≤ 50000) → acc.length + 4 * ws.length ≤ 1000 → thingsL ws cs = some ds → (∀ w ∈ ws, ∀ c ds, thingsOf w c = some ds → ds.length ≤ 4) →
    ∃ b5 b6, forL (turnR (.tup [.nm 5, .nm 6]) (seqR [exprR (extR 4 (callR (callN PP (n + 5)) "things_of" [] [.val (nmE 5), .val (nmE 6)]))])) (List.zipWith (fun d e => D.tup [d, e]) (ws.map D.str) (cs.map fun c => D.str ⟨#[c]⟩)) [a0, a1, a2, a3, some (.lst (acc.map .fz)), a5, a6, a7] = .ok .nx [a0, a1, a2, a3, some (.lst ((acc ++ ds).map .fz)), b5, b6, a7]
  | [], cs, acc, ds, a0, a1, a2, a3, a5, a6, a7, _, _, h, _ => by
    simp [thingsL] at h
    subst h
    exact ⟨a5, a6, by simp⟩
  | w :: ws, [], acc, ds, a0, a1, a2, a3, a5, a6, a7, _, _, h, _ => by
    simp [thingsL] at h
    subst h
    exact ⟨a5, a6, by simp⟩
  | w :: ws, c :: cs, acc, ds, a0, a1, a2, a3, a5, a6, a7, hl, hn, h, h4 => by
    rw [thingsL] at h
    cases e1 : thingsOf w ⟨#[c]⟩ with
    | none => rw [e1] at h; cases h
    | some d1 =>
      cases e2 : thingsL ws cs with
      | none => rw [e1, e2] at h; cases h
      | some d2 =>
        rw [e1, e2] at h
        cases h
        have hd := h4 w List.mem_cons_self _ _ e1
        simp at hn
        obtain ⟨b5, b6, e⟩ := things_loop (n := n) (k := k) (ws := ws) (cs := cs) (acc := acc ++ d1) (a0 := a0) (a1 := a1) (a2 := a2) (a3 := a3) (a5 := some (.fz (.str w))) (a6 := some (.fz (.str ⟨#[c]⟩))) (a7 := a7) (fun x hx => hl x (List.mem_cons_of_mem _ hx)) (by simp; omega) e2 (fun x hx => h4 x (List.mem_cons_of_mem _ hx))
        refine ⟨b5, b6, ?_⟩
        rw [List.map_cons, List.map_cons, List.zipWith_cons_cons, forL_cons]
        have h5 : acc.length + d1.length ≤ 16000000 := by omega
        simp [things_of_eq (hl w List.mem_cons_self), e1, h5]
        simpa using e
theorem read_deed_ok {n : Nat} {z k form : Str} {ws : List Str} {a l : D} {mid : List D} {w : Rho} (hz : z.length ≤ 50000) (hs : Txt.split z " " = k :: ws) (hf : formsP.lookup k = some form) (hl : form.cps.toList.length = ws.length) (ha : form.cps.all (· < 128) = true) (hn : ws.length ≤ 5) (hw : ∀ w ∈ k :: ws, w.length ≤ 50000) (h4 : ∀ w ∈ ws, ∀ c ds, thingsOf w c = some ds → ds.length ≤ 4) (ht : thingsL ws form.cps.toList = some (a :: mid ++ [l])) (hc : clL (a :: mid) = true) (hl2 : cl l = true) (hd : isDeedL k (a :: mid) l = true) :
    callN PP (n + 7) "read_deed" [.fz (.str z)] w = .ok (.fz (.tup (.str k :: (a :: mid ++ [l])))) [.fz (.str z)] w := by
  rw [callN_run l_read_deed b_read_deed rfl]
  have h1 : z.length + 2 ≤ 16000000 := by omega
  have h6 : ((" " : Str).length == 0) = false := rfl
  have h7 : form.length = ws.length := hl
  have h8 : ws.length + 1 ≤ 16000000 := by omega
  have h9 : form.length ≤ 16000000 := by omega
  have h10 : form.cps.size = ws.length := hl
  have hk : k.length ≤ 50000 := hw k List.mem_cons_self
  have h11 : ws.length ≤ 16000000 := by omega
  have hg : form.cps.all (fun a => decide (a < 128)) 0 ws.length = true := by rw [← h10]; exact ha
  simp [m_read_deed, fd_read_deed, h1, need_text_s, h6, hs, forms_eq, hf, strF, h7, h11, Int.add_comm (1 : Int), h10, hg]
  unfold Fr.signs
  obtain ⟨b5, b6, e⟩ := things_loop (n := n + 1) (k := k) (ws := ws) (cs := form.cps.toList) (acc := [.str k]) (a0 := some (.fz (.str z))) (a1 := some (.fz (.lst (.str k :: ws.map D.str)))) (a2 := some (.fz (.str form))) (a3 := none) (a5 := none) (a6 := none) (a7 := none) (fun x hx => hw x (List.mem_cons_of_mem _ hx)) (by simp; omega) ht h4
  generalize e2 : forL _ _ _ = m
  have e3 := e2.symm.trans e
  rw [e3]
  have h13 := is_deed_eq (n := n) (w := []) (Nat.le_trans hk (by decide)) hc hl2
  simp at h13
  simp [h13, hd]
end K74

set_option Elab.async false
set_option linter.all false
set_option maxRecDepth 100000
set_option maxHeartbeats 4000000
/-! deeds2 -/
namespace K74
open PySem PySem.Spec PyProof.Rows L2 Fr
theorem read_deed_T {n : Nat} {k : Str} {fs : List Fd} {w : Rho} (h : DeedOk k fs) : callN PP (n + 7) "read_deed" [.fz (.str (deedT k fs))] w = .ok (.fz (deedD k fs)) [.fz (.str (deedT k fs))] w := by
  obtain ⟨form, hf, hfl⟩ := h.form
  obtain ⟨a, mid, l, hd, hv⟩ := h.last
  have hc := cl_flat h.fok
  rw [hd] at hc
  have hc2 : clL (a :: mid) = true ∧ cl l = true := by
    have := clL_all.mp hc
    exact ⟨clL_all.mpr fun x hx => this x (List.mem_append_left _ hx), this l (List.mem_append_right _ (List.mem_singleton.mpr rfl))⟩
  have := deedT_len h
  have h3 := h.n3
  have := read_deed_ok (n := n) (z := deedT k fs) (k := k) (form := form) (ws := fs.map Fd.txt) (a := a) (mid := mid) (l := l) (w := w) (by omega) (deed_split h.kc h.fok) hf (by rw [hfl]; simp) (kd_ascii hfl) (by simp; omega) (fun w hw => Nat.le_trans (words_len h w hw) (by decide)) (fun w hw c ds => thingsOf_len) (by rw [hfl, thingsL_ok h.fok, hd]) hc2.1 hc2.2 hv
  unfold deedD
  rw [hd]
  exact this
/-! writers -/
theorem show_robe_eq {n : Nat} {s t o : Int} {w : Rho} (h : RobeOk s t o) : callN PP (n + 1) "show_robe" [.fz (.tup [.int s, .int t, .int o])] w = .ok (.fz (.str (robeT s t o))) [.fz (.tup [.int s, .int t, .int o])] w := by
  rw [callN_run l_show_robe b_show_robe rfl]
  simp [m_show_robe, fd_show_robe]
  obtain ⟨h1, h2, h3, h4, h5, h6, h7⟩ := h
  rw [lcL_map fun d => match d with | .int i => O.fz (.str (numT i)) | _ => .fz .non]
  · have q1 := num_len (i := s) (by omega) (by omega)
    have q2 := num_len h3 (by omega)
    have q3 := num_len h5 (by omega)
    have q4 : ("/" : Str).length = 1 := by decide +kernel
    have q5 : (numT s).length + ((numT t).length + (numT o).length) + 3 ≤ 16000000 := by omega
    simp [robeT, q4, q5]
  · intro d hd
    simp only [List.mem_cons, List.not_mem_nil, or_false] at hd
    rcases hd with rfl | rfl | rfl
    · simp [log_ok (i := s) (by omega) (by omega)]
    · simp [log_ok h3 (by omega)]
    · simp [log_ok h5 (by omega)]
  · simp
theorem show_part_eq {n : Nat} {p : Prt} {w : Rho} (h : p.ok) : callN PP (n + 2) "show_part" [.fz p.d] w = .ok (.fz (.str p.txt)) [.fz p.d] w := by
  rw [callN_run l_show_part b_show_part rfl]
  have q1 := name_len h.1
  have q2 := robe_len h.2
  have q3 : (":" : Str).length = 1 := by decide +kernel
  have q4 : p.x.length + 1 ≤ 16000000 := by omega
  have q5 : p.x.length + 1 + (robeT p.s p.t p.o).length ≤ 16000000 := by omega
  simp [m_show_part, fd_show_part, Prt.d, Prt.txt, show_robe_eq h.2, q3, q4, q5]
theorem words_of_eq {n : Nat} {k : Str} {fs : List Fd} {w : Rho} (h : DeedOk k fs) : callN PP (n + 3) "words_of" [.fz (deedD k fs)] w = .ok (.lst ((words k fs).map fun z => .fz (.str z))) [.fz (deedD k fs)] w := by
  rw [callN_run l_words_of b_words_of rfl]
  have hf := h.fok
  have hs := h.shape
  cases hs with
  | sew x s t o d =>
    have f1 : Fd.ok (.r s t o) := hf _ (by simp)
    have f2 : Fd.ok (.n d) := hf _ (by simp)
    have f1' : RobeOk s t o := f1
    simp [m_words_of, fd_words_of, deedD, Fd.ds, words, Fd.txt, show_robe_eq f1', log_ok f2.1 f2.2]
  | cut x ps d =>
    have f1 : Fd.ok (.p ps) := hf _ (by simp)
    have f2 : Fd.ok (.n d) := hf _ (by simp)
    have q0 : ps.length ≤ 16000000 := Nat.le_trans f1.2.1 (by decide)
    have q1 : ("," : Str).length = 1 := by decide +kernel
    simp [m_words_of, fd_words_of, deedD, Fd.ds, words, Fd.txt, log_ok f2.1 f2.2, q0]
    rw [lcL_map fun d => .fz (.str (partS d))]
    · have q2 := sum_le (n := 33) (zs := ps.map Prt.txt) fun z hz => by
        obtain ⟨q, hq, rfl⟩ := List.mem_map.mp hz
        exact Prt.len (f1.2.2 q hq)
      have q4 := f1.2.1
      simp at q2
      rw [show (fun x : Str => x.length) ∘ Prt.txt = fun q => q.txt.length from rfl] at q2
      have q3 : (List.map (fun q => q.txt.length) ps).sum + ps.length ≤ 16000000 := by omega
      simp [Function.comp_def, q1, q3, log_ok f2.1 f2.2]
    · intro d hd
      obtain ⟨q, hq, rfl⟩ := List.mem_map.mp hd
      simp [show_part_eq (f1.2.2 q hq)]
    · simp
  | flat k fs h1 h2 h3 =>
    have q1 := h.n3
    have q2 : fs.length + 1 ≤ 16000000 := by omega
    simp [m_words_of, fd_words_of, deedD, h1, h2, flat_ds h3, q2]
    rw [lcL_map fun d => .fz (.str (strD d))]
    · simp [words, strD, Function.comp_def, ← flat_txt h3]
    · intro d hd
      rcases List.mem_cons.mp hd with rfl | hd
      · simp [strD]
      · simp [str_flat h3 hf hd]
    · simp
theorem show_deed_eq {n : Nat} {k : Str} {fs : List Fd} {w : Rho} (h : DeedOk k fs) : callN PP (n + 4) "show_deed" [.fz (deedD k fs)] w = .ok (.fz (.str (deedT k fs))) [.fz (deedD k fs)] w := by
  rw [callN_run l_show_deed b_show_deed rfl]
  have q1 : (" " : Str).length = 1 := by decide +kernel
  have q2 := sum_le (words_len h)
  have q3 : (words k fs).length = fs.length + 1 := by simp [words]
  have q4 := h.n3
  have q5 : ((words k fs).map (·.length)).sum + (words k fs).length ≤ 16000000 := by omega
  simp [m_show_deed, fd_show_deed, words_of_eq h, q1, q5]
  rfl
/-! the law's own -/
theorem law_deed_text_eq {n : Nat} {k : Str} {fs : List Fd} {w : Rho} (h : DeedOk k fs) : callN PP (n + 1) "_law_deed_text" [.fz (deedD k fs)] w = .ok (.fz (.str (deedT k fs))) [.fz (deedD k fs)] w := by
  rw [callN_run l__law_deed_text b__law_deed_text rfl]
  have hf := h.fok
  have hs := h.shape
  have q1 : (" " : Str).length = 1 := by decide +kernel
  have q2 := sum_le (words_len h)
  have q3 : (words k fs).length = fs.length + 1 := by simp [words]
  have q4 := h.n3
  have q5 : ((words k fs).map (·.length)).sum + (words k fs).length ≤ 16000000 := by omega
  cases hs with
  | sew x s t o d =>
    have f1 : Fd.ok (.r s t o) := hf _ (by simp)
    have f2 : Fd.ok (.n d) := hf _ (by simp)
    obtain ⟨g1, g2, g3, g4, g5, g6, g7⟩ : RobeOk s t o := f1
    have a1 := num_len (i := s) (by omega) (by omega)
    have a2 := num_len g3 (by omega)
    have a3 := num_len g5 (by omega)
    have b1 : (numT s).length + 1 ≤ 16000000 := by omega
    have b2 : (numT s).length + 1 + (numT t).length ≤ 16000000 := by omega
    have b3 : (numT s).length + 1 + (numT t).length + 1 ≤ 16000000 := by omega
    have b4 : (numT s).length + 1 + (numT t).length + 1 + (numT o).length ≤ 16000000 := by omega
    simp [words, Fd.txt, robe_app] at q5
    simp [m__law_deed_text, fd__law_deed_text, deedD, Fd.ds, log_ok f2.1 f2.2, log_ok (i := s) (by omega) (by omega), log_ok g3 (by omega), log_ok g5 (by omega), b1, b2, b3, b4]
    rw [lcL_map fun d => .fz (.str (strD d))]
    · simp [q5, deedT, words, Fd.txt, robe_app]
    · intro e he
      simp only [List.mem_cons, List.not_mem_nil, or_false] at he
      rcases he with rfl | rfl | rfl
      · simp [strD]
      · simp [strD]
      · simp [strD, log_ok f2.1 f2.2]
    · simp
  | cut x ps d =>
    have f1 : Fd.ok (.p ps) := hf _ (by simp)
    have f2 : Fd.ok (.n d) := hf _ (by simp)
    have p0 : ps.length ≤ 16000000 := Nat.le_trans f1.2.1 (by decide)
    simp [words, Fd.txt] at q5
    simp [m__law_deed_text, fd__law_deed_text, deedD, Fd.ds, words, Fd.txt, log_ok f2.1 f2.2, p0]
    rw [lcL_map fun d => .fz (.str (partS d))]
    · have r2 := sum_le (n := 33) (zs := ps.map Prt.txt) fun z hz => by
        obtain ⟨q, hq, rfl⟩ := List.mem_map.mp hz
        exact Prt.len (f1.2.2 q hq)
      have r4 := f1.2.1
      simp at r2
      rw [show (fun x : Str => x.length) ∘ Prt.txt = fun q => q.txt.length from rfl] at r2
      have r3 : (List.map (fun q => q.txt.length) ps).sum + ps.length ≤ 16000000 := by omega
      simp [Function.comp_def, r3]
      rw [lcL_map fun d => .fz (.str (strD d))]
      · simp [q5, deedT, words, Fd.txt]
      · intro e he
        simp only [List.mem_cons, List.not_mem_nil, or_false] at he
        rcases he with rfl | rfl | rfl
        · simp [strD]
        · simp [strD]
        · simp [strD, log_ok f2.1 f2.2]
      · simp
    · intro e he
      obtain ⟨q, hq, rfl⟩ := List.mem_map.mp he
      obtain ⟨hn, ⟨g1, g2, g3, g4, g5, g6, g7⟩⟩ := f1.2.2 q hq
      have a0 := name_len hn
      have a1 := num_len (i := q.s) (by omega) (by omega)
      have a2 := num_len g3 (by omega)
      have a3 := num_len g5 (by omega)
      have b0 : q.x.length + 1 ≤ 16000000 := by omega
      have b1 : q.x.length + 1 + (numT q.s).length ≤ 16000000 := by omega
      have b2 : q.x.length + 1 + (numT q.s).length + 1 ≤ 16000000 := by omega
      have b3 : q.x.length + 1 + (numT q.s).length + 1 + (numT q.t).length ≤ 16000000 := by omega
      have b4 : q.x.length + 1 + (numT q.s).length + 1 + (numT q.t).length + 1 ≤ 16000000 := by omega
      have b5 : q.x.length + 1 + (numT q.s).length + 1 + (numT q.t).length + 1 + (numT q.o).length ≤ 16000000 := by omega
      have e1 : q.txt = q.x ++ ":" ++ numT q.s ++ "/" ++ numT q.t ++ "/" ++ numT q.o := by
        unfold Prt.txt
        rw [robe_app]
        apply str_ext'
        simp only [app_cps', List.append_assoc]
      rw [partS_d, e1]
      simp [Prt.d, b0, b1, b2, b3, b4, b5, log_ok (i := q.s) (by omega) (by omega), log_ok g3 (by omega), log_ok g5 (by omega)]
    · simp
  | flat k fs h1 h2 h3 =>
    have p2 : fs.length + 1 ≤ 16000000 := by omega
    have p3 : fs.length ≤ 16000000 := by omega
    have p4 : 1 + fs.length ≤ 16000000 := by omega
    simp [words, ← flat_txt h3] at q5
    rw [show (fun x : Str => x.length) ∘ (fun f => strD (Fd.d1 f)) = fun f => (strD f.d1).length from rfl] at q5
    simp [m__law_deed_text, fd__law_deed_text, deedD, h1, h2, flat_ds h3, p2, p3]
    rw [lcL_map fun d => .fz (.str (strD d))]
    · simp [Function.comp_def, p4, deedT, words, ← flat_txt h3, q5]
    · intro d hd
      simp [str_flat h3 hf hd]
    · simp
end K74

set_option Elab.async false
set_option linter.all false
set_option maxRecDepth 100000
set_option maxHeartbeats 4000000
/-! pen -/
namespace K74
open PySem PySem.Spec PyProof.Rows L2 Fr
theorem law_pen_eq {n : Nat} {ns : List Int} {w : Rho} : ∃ ps, PenIs 0 ps ∧ callN PP (n + 1) "_law_pen" [.fz (.scr ns)] w = .ok (.lst ps) [.fz (.scr ns)] w := by
  obtain ⟨cs, hl, e⟩ := cells_eq ns
  refine ⟨[.fz (.lst (cs.map .int)), .fz (.int 0), .fz (.int 0)], ⟨cs, 0, 0, rfl, hl, by decide, by decide, by decide⟩, ?_⟩
  rw [callN_run l__law_pen b__law_pen rfl]
  have h1 : cs.length ≤ 16000000 := by omega
  simp [m__law_pen, fd__law_pen]
  rw [e]
  simp [h1]
  rw [lcL_map fun d => .fz d]
  · simp
  · intro d hd
    simp
  · simp
theorem take_great {n : Nat} {u : Int} {cs : List Int} {a g : Int} (hu : 0 < u) (hu2 : u < 1073741824) (h1 : 0 < g) (w : Rho) : callN PP (n + 1) "_law_take" [.lst [.fz (.lst (cs.map .int)), .fz (.int a), .fz (.int g)], .fz (.int u)] w = .ok (.fz (.int (g % u))) [.lst [.fz (.lst (cs.map .int)), .fz (.int a), .fz (.int (g / u))], .fz (.int u)] w := by
  rw [callN_run l__law_take b__law_take rfl]
  simp [m__law_take, fd__law_take, h1, hu, hu2]
theorem law_take_eq {n : Nat} {k u : Int} {ps : List O} (hp : PenIs k ps) (hk : k ≤ 90000) (hu : 0 < u) (hu2 : u < 1073741824) : ∃ (r : Int) (ps' : List O), 0 ≤ r ∧ r < u ∧ PenIs (k + 1) ps' ∧ ∀ w, callN PP (n + 1) "_law_take" [.lst ps, .fz (.int u)] w = .ok (.fz (.int r)) [.lst ps', .fz (.int u)] w := by
  obtain ⟨cs, a, g, rfl, hl, ha, ha2, hg⟩ := hp
  by_cases h1 : 0 < g
  · exact ⟨g % u, [.fz (.lst (cs.map .int)), .fz (.int a), .fz (.int (g / u))], Int.emod_nonneg _ (by omega), Int.emod_lt_of_pos _ hu, ⟨cs, a, g / u, rfl, hl, ha, by omega, Int.ediv_nonneg hg (by omega)⟩, take_great hu hu2 h1⟩
  · obtain ⟨c0, p0, p1, e0⟩ := mul_ex (i := 41) (bi := 41) (bj := 90000) (by decide) (by decide) ha (by omega) (by decide)
    obtain ⟨x, hx⟩ : ∃ x, (cs = [] ∧ x = c0 + 13) ∨ (cs ≠ [] ∧ ∃ m, bopF .Mod (.int a) (.int (cs.length : Int)) = some (.d (.int m)) ∧ L2.atI (cs.map D.int) m = some (.int x)) := by
      by_cases hc : cs = []
      · exact ⟨_, .inl ⟨hc, rfl⟩⟩
      · obtain ⟨c, hc2⟩ := at_mod (a := a) hc
        rw [List.length_map] at hc2
        refine ⟨c, .inr ⟨hc, _, ?_, hc2⟩⟩
        rw [bop_mod, if_pos]
        have := List.length_pos_iff.mpr hc
        omega
    obtain ⟨t, t0, e1⟩ := pow_ex (i := 10) (j := 18) (by decide) (by decide) (by decide) (by decide)
    obtain ⟨t2, t20, e2⟩ := pow_ex (i := 10) (j := 8) (by decide) (by decide) (by decide) (by decide)
    obtain ⟨y, y0, e3⟩ := abs_ex x
    obtain ⟨z, z0, e4⟩ := ib_ex (decide (x < 0))
    have run := fun w => callN_run (n := n) (w := w) (os := [.lst [.fz (.lst (cs.map .int)), .fz (.int a), .fz (.int g)], .fz (.int u)]) l__law_take b__law_take rfl
    by_cases hb : a < (cs.length : Int) ∧ t ≤ y
    · obtain ⟨v1, v10, e5⟩ := mulL_ex (i := 2) (j := y - t) (by decide) (by decide) (by omega)
      obtain ⟨v2, v20, e6⟩ := div_ex (i := v1 + z) (j := u) (by omega) hu hu2
      obtain ⟨v3, v30, v31, e7⟩ := mod_ex (v1 + z) hu
      refine ⟨v3, [.fz (.lst (cs.map .int)), .fz (.int (a + 1)), .fz (.int v2)], v30, v31, ⟨cs, a + 1, v2, rfl, hl, by omega, by omega, v20⟩, fun w => ?_⟩
      rw [run]
      have hne : cs ≠ [] := by
        rintro rfl
        simp at hb
        omega
      obtain ⟨-, m, e8, e9⟩ := hx.resolve_left (fun h => hne h.1)
      have hem : cs.isEmpty = false := by cases cs <;> simp_all
      simp -implicitDefEqProofs [-bop_mul, -bop_pow, -bop_mod, -bop_fdiv, -cb_abs, -ct_ib, m__law_take, fd__law_take, h1, e0, e1, e3, e4, e5, e6, e7, e8, e9, eq_nil, hem, hb]
    · obtain ⟨v1, v10, v11, e5⟩ := mod_ex x (m := 2147483629) (by decide)
      obtain ⟨v2, v20, v21, e6⟩ := mul_ex (i := 40709) (bi := 40709) (bj := 90000) (by decide) (by decide) ha (by omega) (by decide)
      obtain ⟨v3, v30, v31, e7⟩ := mul_ex (i := 7919) (bi := 7919) (bj := 90000) (by decide) (by decide) ha (by omega) (by decide)
      obtain ⟨v4, v40, v41, e8⟩ := mul_ex (i := v3) (bi := 712710000) (bj := 90000) v30 (by omega) ha (by omega) (by decide)
      obtain ⟨v5, v50, e9⟩ := pow_ex (i := v1 + v2 + v4 + 31) (j := 5) (by omega) (by omega) (by decide) (by decide)
      obtain ⟨v6, v60, v61, e10⟩ := mod_ex v5 (m := 2147483647) (by decide)
      obtain ⟨v7, v70, v71, e11⟩ := mul_ex (j := 48271) (bj := 48271) v60 (by omega : v6 ≤ 2147483647) (by decide) (by decide) (by decide)
      obtain ⟨v8, v80, v81, e12⟩ := mul_ex (i := 69621) (bi := 69621) (bj := 90000) (by decide) (by decide) ha (by omega) (by decide)
      obtain ⟨v9, v90, e13⟩ := pow_ex (i := v7 + v8 + 11) (j := 3) (by omega) (by omega) (by decide) (by decide)
      obtain ⟨q1, q10, q11, e14⟩ := mod_ex v9 (m := 2147483587) (by decide)
      obtain ⟨q2, q20, e15⟩ := pow_ex (i := q1 + 17) (j := 7) (by omega) (by omega) (by decide) (by decide)
      obtain ⟨q3, q30, e16⟩ := div_ex (i := q1) (j := 7) q10 (by decide) (by decide)
      obtain ⟨q4, q40, e17⟩ := div_ex (i := q2) (j := 7) q20 (by decide) (by decide)
      obtain ⟨q5, q50, q51, e18⟩ := mod_ex q3 hu
      obtain ⟨q6, q60, q61, e19⟩ := mod_ex q4 hu
      refine ⟨if t2 < u then q6 else q5, [.fz (.lst (cs.map .int)), .fz (.int (a + 1)), .fz (.int g)], by split <;> assumption, by split <;> assumption, ⟨cs, a + 1, g, rfl, hl, by omega, by omega, hg⟩, fun w => ?_⟩
      rw [run]
      have hb2 : (decide (a < (cs.length : Int)) && decide (t ≤ y)) = false := by
        rw [← Bool.not_eq_true, Bool.and_eq_true]
        simpa using hb
      by_cases ht : t2 < u
      all_goals
        rcases hx with ⟨rfl, rfl⟩ | ⟨hne, m, e20, e21⟩
        · have ha3 : ¬ a < 0 := by omega
          simp -implicitDefEqProofs [-bop_mul, -bop_pow, -bop_mod, -bop_fdiv, -cb_abs, -ct_ib, m__law_take, fd__law_take, h1, e0, e1, e2, e3, e4, e5, e6, e7, e8, e9, e10, e11, e12, e13, e14, e15, e16, e17, e18, e19, show eqQ (.lst []) (.lst []) = some true from eq_nil [], ha3, ht]
        · have hem : cs.isEmpty = false := by cases cs <;> simp_all
          simp -implicitDefEqProofs [-bop_mul, -bop_pow, -bop_mod, -bop_fdiv, -cb_abs, -ct_ib, m__law_take, fd__law_take, h1, e0, e1, e2, e3, e4, e5, e6, e7, e8, e9, e10, e11, e12, e13, e14, e15, e16, e17, e18, e19, e20, e21, eq_nil, hem, hb2, ht]
end K74

set_option Elab.async false
set_option linter.all false
set_option maxRecDepth 100000
set_option maxHeartbeats 4000000
/-! lawdeed -/
namespace K74
open PySem PySem.Spec PyProof.Rows L2 Fr
theorem law_robe_eq {n : Nat} {k : Int} {ps : List O} (hp : PenIs k ps) (hk : k ≤ 80000) : ∃ (s t o : Int) (ps' : List O), RobeOk s t o ∧ PenIs (k + 20) ps' ∧ ∀ w, callN PP (n + 2) "_law_robe" [.lst ps] w = .ok (.fz (.tup [.int s, .int t, .int o])) [.lst ps'] w := by
  obtain ⟨r1, p1, a1, b1, hp1, e1⟩ := law_take_eq (n := n) (u := 3) hp (by omega) (by decide) (by decide)
  obtain ⟨u, hu, e1'⟩ := at_D [.int 12, .int 60, .int 999] a1 (by simpa using b1)
  obtain ⟨v, rfl, hv1, hv2⟩ : ∃ v : Int, u = .int v ∧ 0 < v ∧ v ≤ 999 := by
    simp only [List.mem_cons, List.not_mem_nil, or_false] at hu
    rcases hu with rfl | rfl | rfl <;> exact ⟨_, rfl, by decide, by decide⟩
  obtain ⟨r2, p2, a2, b2, hp2, e2⟩ := law_take_eq (n := n) (u := v) hp1 (by omega) hv1 (by omega)
  obtain ⟨r3, p3, a3, b3, hp3, e3⟩ := law_take_eq (n := n) (u := 8) hp2 (by omega) (by decide) (by decide)
  obtain ⟨r4, p4, a4, b4, hp4, e4⟩ := law_take_eq (n := n) (u := 100) hp3 (by omega) (by decide) (by decide)
  obtain ⟨r5, p5, a5, b5, hp5, e5⟩ := law_take_eq (n := n) (u := 4) hp4 (by omega) (by decide) (by decide)
  obtain ⟨d5, hd5, e5'⟩ := at_D [.int 0, .int r3, .int r4, .int 99] a5 (by simpa using b5)
  obtain ⟨v5, rfl, hv5, hv5'⟩ : ∃ v : Int, d5 = .int v ∧ 0 ≤ v ∧ v ≤ 99 := by
    simp only [List.mem_cons, List.not_mem_nil, or_false] at hd5
    rcases hd5 with rfl | rfl | rfl | rfl <;> exact ⟨_, rfl, by omega, by omega⟩
  obtain ⟨r6, p6, a6, b6, hp6, e6⟩ := law_take_eq (n := n) (u := 8) hp5 (by omega) (by decide) (by decide)
  obtain ⟨r7, p7, a7, b7, hp7, e7⟩ := law_take_eq (n := n) (u := 100) hp6 (by omega) (by decide) (by decide)
  obtain ⟨r8, p8, a8, b8, hp8, e8⟩ := law_take_eq (n := n) (u := 4) hp7 (by omega) (by decide) (by decide)
  obtain ⟨d8, hd8, e8'⟩ := at_D [.int 0, .int r6, .int r7, .int 99] a8 (by simpa using b8)
  obtain ⟨v8, rfl, hv8, hv8'⟩ : ∃ v : Int, d8 = .int v ∧ 0 ≤ v ∧ v ≤ 99 := by
    simp only [List.mem_cons, List.not_mem_nil, or_false] at hd8
    rcases hd8 with rfl | rfl | rfl | rfl <;> exact ⟨_, rfl, by omega, by omega⟩
  refine ⟨1 + r2, if v5 < 1 + r2 - 1 then v5 else 1 + r2 - 1, v8, p8, ⟨by omega, by omega, by split <;> omega, by split <;> omega, by omega, by omega, by split <;> omega⟩, hp8.mono (by omega), fun w => ?_⟩
  rw [callN_run l__law_robe b__law_robe rfl]
  simp -implicitDefEqProofs [m__law_robe, fd__law_robe, e1, e1', e2, e3, e4, e5, e5', e6, e7, e8, e8']
theorem law_name_eq {n : Nat} {k : Int} {ps : List O} (hp : PenIs k ps) (hk : k ≤ 80000) : ∃ (x : Str) (ps' : List O), nameOk x = true ∧ PenIs (k + 20) ps' ∧ ∀ w, callN PP (n + 2) "_law_name" [.lst ps] w = .ok (.fz (.str x)) [.lst ps'] w := by
  obtain ⟨r1, p1, a1, b1, hp1, e1⟩ := law_take_eq (n := n) (u := 3) hp (by omega) (by decide) (by decide)
  have run := fun w => callN_run (n := n + 1) (w := w) (os := [.lst ps]) l__law_name b__law_name rfl
  by_cases h0 : r1 = 0
  · subst h0
    obtain ⟨r2, p2, a2, b2, hp2, e2⟩ := law_take_eq (n := n) (u := 14) hp1 (by omega) (by decide) (by decide)
    obtain ⟨d, hd, e3⟩ := at_any [O.fz (.str "buy"), .fz (.str "sew"), .fz (.str "cut"), .fz (.str "as"), .fz (.str "free"), .fz (.str "none"), .fz (.str "a"), .fz (.str "b"), .fz (.str "ab"), .fz (.str "robe"), .fz (.str "zzzzzzzz"), .fz (.str "with"), .fz (.str "press"), .fz (.str "mending")] a2 (by simpa using b2)
    obtain ⟨x, rfl, hx⟩ : ∃ x : Str, d = .fz (.str x) ∧ nameOk x = true := by
      simp only [List.mem_cons, List.not_mem_nil, or_false] at hd
      rcases hd with rfl | rfl | rfl | rfl | rfl | rfl | rfl | rfl | rfl | rfl | rfl | rfl | rfl | rfl <;> exact ⟨_, rfl, by decide +kernel⟩
    refine ⟨x, p2, hx, hp2.mono (by omega), fun w => ?_⟩
    rw [run]
    simp -implicitDefEqProofs [m__law_name, fd__law_name, e1, e2, e3]
  · obtain ⟨r2, p2, a2, b2, hp2, e2⟩ := law_take_eq (n := n) (u := 8) hp1 (by omega) (by decide) (by decide)
    have h2 : -4611686018427387904 ≤ 1 + r2 ∧ 1 + r2 < 4611686018427387904 := by omega
    have h3 : (1 + r2).toNat ≤ 16000000 := by omega
    simp -implicitDefEqProofs only [run]
    simp -implicitDefEqProofs [m__law_name, fd__law_name, e1, e2, h0, h2, h3]
    generalize e4 : lcL _ _ _ _ _ _ _ = m
    generalize (O.lst [O.fz (D.str "buy"), O.fz (D.str "sew"), O.fz (D.str "cut"), O.fz (D.str "as"), O.fz (D.str "free"), O.fz (D.str "none"), O.fz (D.str "a"), O.fz (D.str "b"), O.fz (D.str "ab"), O.fz (D.str "robe"), O.fz (D.str "zzzzzzzz"), O.fz (D.str "with"), O.fz (D.str "press"), O.fz (D.str "mending")]) = q at e4
    obtain ⟨xs, ρ', hl, hg, ⟨p3, hp3, rfl⟩, rfl⟩ := lcL_pen_e e4 (fun k ρ => ∃ ps, PenIs k ps ∧ ρ = [some (.lst ps), some (.fz (.str "abcdefghijklmnopqrstuvwxyz")), some q, none]) (fun x => ∃ c, x = .str ⟨#[c]⟩ ∧ c ∈ ("abcdefghijklmnopqrstuvwxyz" : Str).cps.toList) 1 90000 (k + 1 + 1) ⟨p2, hp2, rfl⟩ (by rw [rng_len]; omega) (by decide) (by
      rintro d hd k ρ ⟨ps, hp, rfl⟩ hk
      obtain ⟨r, p', a, b, hp', e⟩ := law_take_eq (n := n) (u := 26) hp (by omega) (by decide) (by decide)
      obtain ⟨c, hc, ec⟩ := at_any ("abcdefghijklmnopqrstuvwxyz" : Str).cps.toList a (by
        have : ("abcdefghijklmnopqrstuvwxyz" : Str).cps.toList.length = 26 := by decide +kernel
        omega)
      have hl : ("abcdefghijklmnopqrstuvwxyz" : Str).length ≤ 16000000 := by decide +kernel
      refine ⟨_, _, .str ⟨#[c]⟩, by simp only [tg_nm]; rfl, by simp -implicitDefEqProofs [e, ec, hl]; rfl, ⟨c, rfl, hc⟩, p', hp', by simp⟩)
    obtain ⟨cs, rfl, hcs⟩ := letters_ok hg
    rw [List.length_map, rng_len] at hl
    have hlen : ∀ z ∈ cs.map (fun c => (⟨#[c]⟩ : Str)), z.length ≤ 1 := by
      intro z hz
      obtain ⟨c, _, rfl⟩ := List.mem_map.mp hz
      exact Nat.le_refl _
    have hsum := sum_le hlen
    simp at hsum
    refine ⟨_, name_made hcs (by omega) (by omega), p3, hp3.mono (by rw [rng_len]; omega), fun w => ?_⟩
    have hsum2 : (List.map (fun x => (⟨#[x]⟩ : Str).length) cs).sum ≤ 16000000 := Nat.le_trans hsum (by omega)
    simp -implicitDefEqProofs [Function.comp_def, hsum2]
theorem pick3 {a b c r lo hi : Int} (h0 : 0 ≤ r) (h1 : r < 3) (ha : lo ≤ a ∧ a ≤ hi) (hb : lo ≤ b ∧ b ≤ hi) (hc : lo ≤ c ∧ c ≤ hi) : ∃ v, (lo ≤ v ∧ v ≤ hi) ∧ L2.atI [D.int a, .int b, .int c] r = some (.int v) := by
  obtain ⟨d, hd, e⟩ := at_D [.int a, .int b, .int c] h0 (by simpa using h1)
  simp only [List.mem_cons, List.not_mem_nil, or_false] at hd
  rcases hd with rfl | rfl | rfl
  · exact ⟨_, ha, e⟩
  · exact ⟨_, hb, e⟩
  · exact ⟨_, hc, e⟩
theorem law_deed_eq {n : Nat} {k : Int} {ps : List O} (hp : PenIs k ps) (hk : k ≤ 50000) : ∃ (kk : Str) (fs : List Fd) (ps' : List O), DeedOk kk fs ∧ PenIs (k + 400) ps' ∧ ∀ w, callN PP (n + 3) "_law_deed" [.lst ps] w = .ok (.fz (deedD kk fs)) [.lst ps'] w := by
  have p6 : bopF .Pow (.int 10) (.int 6) = some (.d (.int 1000000)) := by kernel_rfl
  obtain ⟨way, p1, a1, b1, hp1, e1⟩ := law_take_eq (n := n + 1) (u := 11) hp (by omega) (by decide) (by decide)
  obtain ⟨x, p2, hx, hp2, e2⟩ := law_name_eq (n := n) hp1 (by omega)
  obtain ⟨r3, p3, a3, b3, hp3, e3⟩ := law_take_eq (n := n + 1) (u := 10000) hp2 (by omega) (by decide) (by decide)
  obtain ⟨r4, p4, a4, b4, hp4, e4⟩ := law_take_eq (n := n + 1) (u := 3) hp3 (by omega) (by decide) (by decide)
  obtain ⟨day, hday, e5⟩ := pick3 (a := 0) (b := 9999) (c := r3) (lo := 0) (hi := 9999) a4 b4 (by decide) (by decide) (by omega)
  have run := fun w => callN_run (n := n + 2) (w := w) (os := [.lst ps]) l__law_deed b__law_deed rfl
  have cases : way = 0 ∨ way = 1 ∨ way = 2 ∨ way = 3 ∨ way = 4 ∨ way = 5 ∨ way = 6 ∨ way = 7 ∨ way = 8 ∨ way = 9 ∨ way = 10 := by omega
  rcases cases with rfl | rfl | rfl | rfl | rfl | rfl | rfl | rfl | rfl | rfl | rfl
  · obtain ⟨r5, p5, a5, b5, hp5, e6⟩ := law_take_eq (n := n + 1) (u := 1000000) hp4 (by omega) (by decide) (by decide)
    obtain ⟨r6, p6', a6, b6, hp6, e7⟩ := law_take_eq (n := n + 1) (u := 3) hp5 (by omega) (by decide) (by decide)
    obtain ⟨v, hv, e8⟩ := pick3 (a := 1) (b := 1000000) (c := 1 + r5) (lo := 1) (hi := 1000000) a6 b6 (by decide) (by decide) (by omega)
    refine ⟨_, _, p6', ok_buy hv hday, hp6.mono (by omega), fun w => ?_⟩
    rw [run]
    simp -implicitDefEqProofs [-bop_pow, m__law_deed, fd__law_deed, p6, e1, e2, e3, e4, e5, deedD, Fd.ds, e6, e7, e8]
  · obtain ⟨s, t, u, p5, hr, hp5, e6⟩ := law_robe_eq (n := n) hp4 (by omega)
    refine ⟨_, _, p5, ok_sew hx hr hday, hp5.mono (by omega), fun w => ?_⟩
    rw [run]
    simp -implicitDefEqProofs [-bop_pow, m__law_deed, fd__law_deed, p6, e1, e2, e3, e4, e5, deedD, Fd.ds, e6]
  · obtain ⟨y, p5, hy, hp5, e6⟩ := law_name_eq (n := n) hp4 (by omega)
    refine ⟨_, _, p5, ok_hand hx hy hday, hp5.mono (by omega), fun w => ?_⟩
    rw [run]
    simp -implicitDefEqProofs [-bop_pow, m__law_deed, fd__law_deed, p6, e1, e2, e3, e4, e5, deedD, Fd.ds, e6]
  · obtain ⟨last, hl, hl2⟩ : ∃ l : Int, l = (if 9998 < day then 9998 else day) ∧ 0 ≤ l ∧ l ≤ 9998 := ⟨_, rfl, by split <;> omega, by split <;> omega⟩
    obtain ⟨r5, p5, a5, b5, hp5, e6⟩ := law_take_eq (n := n + 1) (u := 9999 - last) hp4 (by omega) (by omega) (by omega)
    obtain ⟨r6, p6', a6, b6, hp6, e7⟩ := law_take_eq (n := n + 1) (u := 3) hp5 (by omega) (by decide) (by decide)
    obtain ⟨v, hv, e8⟩ := pick3 (a := last + 1) (b := 9999) (c := last + 1 + r5) (lo := last + 1) (hi := 9999) a6 b6 (by omega) (by omega) (by omega)
    refine ⟨_, _, p6', ok_mend hx (a := last) (b := v) (by omega) (by omega) (by omega), hp6.mono (by omega), fun w => ?_⟩
    rw [run]
    simp -implicitDefEqProofs [-bop_pow, m__law_deed, fd__law_deed, p6, e1, e2, e3, e4, e5, deedD, Fd.ds, e6, e7, e8, ← hl]
  · obtain ⟨r5, p5, a5, b5, hp5, e6⟩ := law_take_eq (n := n + 1) (u := 1098) hp4 (by omega) (by decide) (by decide)
    obtain ⟨r6, p6', a6, b6, hp6, e7⟩ := law_take_eq (n := n + 1) (u := 3) hp5 (by omega) (by decide) (by decide)
    obtain ⟨v, hv, e8⟩ := pick3 (a := 1) (b := 1098) (c := 1 + r5) (lo := 1) (hi := 1098) a6 b6 (by decide) (by decide) (by omega)
    refine ⟨_, _, p6', ok_alter hx hv hday, hp6.mono (by omega), fun w => ?_⟩
    rw [run]
    simp -implicitDefEqProofs [-bop_pow, m__law_deed, fd__law_deed, p6, e1, e2, e3, e4, e5, deedD, Fd.ds, e6, e7, e8]
  · obtain ⟨r5, p5, a5, b5, hp5, e6⟩ := law_take_eq (n := n + 1) (u := 4) hp4 (by omega) (by decide) (by decide)
    have h2 : -4611686018427387904 ≤ 1 + r5 ∧ 1 + r5 < 4611686018427387904 := by omega
    have h3 : (1 + r5).toNat ≤ 16000000 := by omega
    simp -implicitDefEqProofs only [run]
    simp -implicitDefEqProofs [-bop_pow, m__law_deed, fd__law_deed, p6, e1, e2, e3, e4, e5, e6, h2, h3]
    generalize e7 : lcL _ _ _ _ _ _ _ = m
    obtain ⟨xs, ρ', hl, hg, ⟨p9, hp9, rfl⟩, rfl⟩ := lcL_pen_e e7 (fun k ρ => ∃ ps, PenIs k ps ∧ ρ = [some (.lst ps), some (.fz (.int 5)), some (.fz (.str x)), some (.fz (.int day)), none, none, none]) (fun x => ∃ q : Prt, x = q.d ∧ q.ok) 40 60000 (k + 1 + 20 + 1 + 1 + 1) ⟨p5, hp5, rfl⟩ (by rw [rng_len]; omega) (by decide) (by
      rintro d hd k ρ ⟨ps, hp, rfl⟩ hk
      obtain ⟨y, q1, hy, hq1, f1⟩ := law_name_eq (n := n) hp (by omega)
      obtain ⟨s, t, u, q2, hr, hq2, f2⟩ := law_robe_eq (n := n) hq1 (by omega)
      refine ⟨_, _, Prt.d ⟨y, s, t, u⟩, by simp only [tg_nm]; rfl, by simp -implicitDefEqProofs [f1, f2, Prt.d]; rfl, ⟨_, rfl, hy, hr⟩, q2, hq2.mono (by omega), by simp⟩)
    obtain ⟨qs, rfl, hqs⟩ := prts_of hg
    rw [List.length_map, rng_len] at hl
    refine ⟨_, _, ok_cut (ps := qs) hx ⟨by rintro rfl; simp at hl; omega, by omega, hqs⟩ hday, p9, hp9.mono (by rw [rng_len]; omega), fun w => ?_⟩
    simp -implicitDefEqProofs [deedD, Fd.ds]
  · obtain ⟨r5, p5, a5, b5, hp5, e6⟩ := law_take_eq (n := n + 1) (u := 500) hp4 (by omega) (by decide) (by decide)
    obtain ⟨r6, p6', a6, b6, hp6, e7⟩ := law_take_eq (n := n + 1) (u := 3) hp5 (by omega) (by decide) (by decide)
    obtain ⟨v, hv, e8⟩ := pick3 (a := 1) (b := 500) (c := 1 + r5) (lo := 1) (hi := 500) a6 b6 (by decide) (by decide) (by omega)
    refine ⟨_, _, p6', ok_grow hx hv hday, hp6.mono (by omega), fun w => ?_⟩
    rw [run]
    simp -implicitDefEqProofs [-bop_pow, m__law_deed, fd__law_deed, p6, e1, e2, e3, e4, e5, deedD, Fd.ds, e6, e7, e8]
  · obtain ⟨r5, p5, a5, b5, hp5, e6⟩ := law_take_eq (n := n + 1) (u := 999) hp4 (by omega) (by decide) (by decide)
    obtain ⟨r6, p6', a6, b6, hp6, e7⟩ := law_take_eq (n := n + 1) (u := 3) hp5 (by omega) (by decide) (by decide)
    obtain ⟨v, hv, e8⟩ := pick3 (a := 1) (b := 999) (c := 1 + r5) (lo := 1) (hi := 999) a6 b6 (by decide) (by decide) (by omega)
    refine ⟨_, _, p6', ok_mark hx hv hday, hp6.mono (by omega), fun w => ?_⟩
    rw [run]
    simp -implicitDefEqProofs [-bop_pow, m__law_deed, fd__law_deed, p6, e1, e2, e3, e4, e5, deedD, Fd.ds, e6, e7, e8]
  · refine ⟨_, _, p4, ok_back hx hday, hp4.mono (by omega), fun w => ?_⟩
    rw [run]
    simp -implicitDefEqProofs [-bop_pow, m__law_deed, fd__law_deed, p6, e1, e2, e3, e4, e5, deedD, Fd.ds, at_0]
  · refine ⟨_, _, p4, ok_cast hx hday, hp4.mono (by omega), fun w => ?_⟩
    rw [run]
    simp -implicitDefEqProofs [-bop_pow, m__law_deed, fd__law_deed, p6, e1, e2, e3, e4, e5, deedD, Fd.ds, at_0]
  · refine ⟨_, _, p4, ok_fade hx hday, hp4.mono (by omega), fun w => ?_⟩
    rw [run]
    simp -implicitDefEqProofs [-bop_pow, m__law_deed, fd__law_deed, p6, e1, e2, e3, e4, e5, deedD, Fd.ds, at_0]
/-! the same -/
theorem same_int {n : Nat} {i : Int} {w : Rho} : callN PP (n + 1) "_law_same" [.fz (.int i), .fz (.int i)] w = .ok (.fz (.bl true)) [.fz (.int i), .fz (.int i)] w := by
  rw [callN_run l__law_same b__law_same rfl]
  simp -implicitDefEqProofs [m__law_same, fd__law_same]
theorem same_str {n : Nat} {i : Str} {w : Rho} : callN PP (n + 1) "_law_same" [.fz (.str i), .fz (.str i)] w = .ok (.fz (.bl true)) [.fz (.str i), .fz (.str i)] w := by
  rw [callN_run l__law_same b__law_same rfl]
  simp -implicitDefEqProofs [m__law_same, fd__law_same]
theorem zip_same : ∀ xs : List D, List.zipWith (fun d e => D.tup [d, e]) xs xs = xs.map fun d => .tup [d, d]
  | [] => rfl
  | x :: xs => by rw [List.zipWith_cons_cons, List.map_cons, zip_same xs]
theorem same_tup {n : Nat} {xs : List D} {w : Rho} (hl : xs.length ≤ 16000000) (h : ∀ d ∈ xs, callN PP n "_law_same" [.fz d, .fz d] [] = .ok (.fz (.bl true)) [.fz d, .fz d] []) : callN PP (n + 1) "_law_same" [.fz (.tup xs), .fz (.tup xs)] w = .ok (.fz (.bl true)) [.fz (.tup xs), .fz (.tup xs)] w := by
  rw [callN_run l__law_same b__law_same rfl]
  simp -implicitDefEqProofs [m__law_same, fd__law_same, zip_same, hl]
  rw [lcL_map fun _ => .fz (.bl true)]
  · have e := blsQ_f (f := fun _ : D => true) (ds := xs.map fun a => D.tup [a, a])
    rw [List.map_map, List.map_map] at e
    simp -implicitDefEqProofs [Function.comp_def] at e
    simp -implicitDefEqProofs [Function.comp_def, e]
    trace_state
  · intro d hd
    obtain ⟨a, ha, rfl⟩ := List.mem_map.mp hd
    simp -implicitDefEqProofs [h a ha]
  · simp
theorem same_prt {n : Nat} {q : Prt} {w : Rho} : callN PP (n + 2) "_law_same" [.fz q.d, .fz q.d] w = .ok (.fz (.bl true)) [.fz q.d, .fz q.d] w := by
  refine same_tup (by show 4 ≤ 16000000; decide) fun d hd => ?_
  simp only [List.mem_cons, List.not_mem_nil, or_false] at hd
  rcases hd with rfl | rfl | rfl | rfl
  · exact same_str
  · exact same_int
  · exact same_int
  · exact same_int
theorem same_fd {n : Nat} {f : Fd} (hf : f.ok) : ∀ d ∈ f.ds, callN PP (n + 3) "_law_same" [.fz d, .fz d] [] = .ok (.fz (.bl true)) [.fz d, .fz d] [] := by
  intro d hd
  cases f with
  | n i => simp [Fd.ds] at hd; subst hd; exact same_int
  | w x => simp [Fd.ds] at hd; subst hd; exact same_str
  | r s t o =>
    simp [Fd.ds] at hd
    rcases hd with rfl | rfl | rfl <;> exact same_int
  | p ps =>
    simp [Fd.ds] at hd
    subst hd
    refine same_tup (by rw [List.length_map]; exact Nat.le_trans hf.2.1 (by decide)) fun d hd => ?_
    obtain ⟨q, _, rfl⟩ := List.mem_map.mp hd
    exact same_prt
theorem flat_len : ∀ fs : List Fd, (fs.flatMap Fd.ds).length ≤ 4 * fs.length
  | [] => Nat.le_refl _
  | f :: fs => by
    have := flat_len fs
    have := Fd.ds_len (f := f)
    rw [List.flatMap_cons, List.length_append, List.length_cons]
    omega
theorem same_deed {n : Nat} {k : Str} {fs : List Fd} {w : Rho} (h : DeedOk k fs) : callN PP (n + 4) "_law_same" [.fz (deedD k fs), .fz (deedD k fs)] w = .ok (.fz (.bl true)) [.fz (deedD k fs), .fz (deedD k fs)] w := by
  have h1 := flat_len fs
  have h2 := h.n3
  refine same_tup (by rw [List.length_cons]; omega) fun d hd => ?_
  rcases List.mem_cons.mp hd with rfl | hd
  · exact same_str
  · obtain ⟨f, hf, hd⟩ := List.mem_flatMap.mp hd
    exact same_fd (h.fok f hf) d hd
end K74

set_option Elab.async false
set_option linter.all false
set_option maxRecDepth 100000
set_option maxHeartbeats 4000000
/-! k74law -/
namespace K74
open PySem PySem.Spec PyProof.Rows L2 Fr
theorem rng2 : rngD 0 2 = [.int 0, .int 1] := rfl
theorem deed_loop {n : Nat} {c : D} {ds : List D} {m : Res Fw} {a0 a1 : Option O} (h : ∀ d ∈ ds, ∃ k fs, d = deedD k fs ∧ DeedOk k fs) {x4 x5 x6 x7 : Option O} (e : forL (turnR (.nm 4) (seqR [setR 5 (callR (callN PP (n + 7)) "_law_deed_text" [] [.val (nmE 4)]), setR 6 (callR (callN PP (n + 7)) "show_deed" [] [.val (nmE 4)]), iffR (orR [notT (truR (isiR (nmE 6) "str")), thawT (cmpR .NotEq (nmE 6) (nmE 5)), notT (truR (callR (callN PP (n + 7)) "_law_same" [] [.val (callR (callN PP (n + 7)) "read_deed" [] [.val (nmE 5)]), .val (nmE 4)]))]) (seqR [retR (kE (.bl false))]) (seqR [])])) ds [a0, a1, some (.fz (.lst ds)), some (.fz c), x4, x5, x6, x7] = m) : ∃ y4 y5 y6 y7, m = .ok .nx [a0, a1, some (.fz (.lst ds)), some (.fz c), y4, y5, y6, y7] := by
  obtain ⟨ρ', ⟨y4, y5, y6, y7, rfl⟩, rfl⟩ := loop_nx (fun _ ρ => ∃ y4 y5 y6 y7, ρ = [a0, a1, some (.fz (.lst ds)), some (.fz c), y4, y5, y6, y7]) e ⟨_, _, _, _, rfl⟩ (by
    rintro d ds' ρ hd ⟨y4, y5, y6, y7, rfl⟩
    obtain ⟨k, fs, rfl, hk⟩ := h d hd
    refine ⟨[a0, a1, some (.fz (.lst ds)), some (.fz c), some (.fz (deedD k fs)), some (.fz (.str (deedT k fs))), some (.fz (.str (deedT k fs))), y7], ⟨_, _, _, _, rfl⟩, ?_⟩
    simp -implicitDefEqProofs [law_deed_text_eq hk, show_deed_eq hk, read_deed_T hk, same_deed hk])
  exact ⟨_, _, _, _, rfl⟩
theorem law_eq {n : Nat} {ns : List Int} {w : Rho} : callN PP (n + 8) "law" [.fz (.scr ns)] w = .ok (.fz (.bl true)) [.fz (.scr ns)] w := by
  obtain ⟨p0, hp0, e0⟩ := law_pen_eq (n := n + 6) (ns := ns) (w := [])
  rw [callN_run l_law b_law rfl]
  have h2 : -4611686018427387904 ≤ (12 : Int) ∧ (12 : Int) < 4611686018427387904 := by decide
  simp -implicitDefEqProofs [m_law, fd_law, e0]
  generalize e7 : lcL _ _ _ _ _ _ _ = m
  obtain ⟨xs, ρ', hl, hg, ⟨p9, hp9, rfl⟩, rfl⟩ := lcL_pen_e e7 (fun k ρ => ∃ ps, PenIs k ps ∧ ρ = [some (.fz (.scr ns)), some (.lst ps), none, none, none, none, none, none]) (fun x => ∃ k fs, x = deedD k fs ∧ DeedOk k fs) 400 40000 0 ⟨p0, hp0, rfl⟩ (by rw [rng_len]; decide) (by decide) (by
    rintro d hd k ρ ⟨ps, hp, rfl⟩ hk
    obtain ⟨kk, fs, q1, h1, hq1, f1⟩ := law_deed_eq (n := n + 4) hp (by omega)
    refine ⟨_, _, deedD kk fs, by simp only [tg_nm]; rfl, by simp -implicitDefEqProofs [f1]; rfl, ⟨_, _, rfl, h1⟩, q1, hq1, by simp⟩)
  simp -implicitDefEqProofs [rng2, forL_cons]
  generalize f1 : forL _ _ _ = m1
  obtain ⟨y4, y5, y6, y7, rfl⟩ := deed_loop hg f1
  simp -implicitDefEqProofs [forL_cons]
  generalize f2 : forL _ _ _ = m2
  obtain ⟨z4, z5, z6, z7, rfl⟩ := deed_loop hg f2
  simp -implicitDefEqProofs
end K74

set_option Elab.async false
set_option linter.all false
set_option maxRecDepth 100000
set_option maxHeartbeats 4000000
/-! Hd: from what the head tells to what the reckoner asks. -/
namespace Fr
open PySem PySem.Spec PyProof.Rows L2
theorem lookup_in {β : Type} {x : Str} {d : β} : ∀ {l : List (Str × β)}, l.lookup x = some d → (x, d) ∈ l
  | [], h => by cases h
  | (b, u) :: r, h => by
    have h2 : (match x == b with | true => some u | false => r.lookup x) = some d := h
    cases q : (x == b) with
    | true =>
      rw [q] at h2
      have e : u = d := Option.some.inj h2
      rw [beq_iff_eq.mp q, e]
      exact List.mem_cons_self
    | false =>
      rw [q] at h2
      exact List.mem_cons_of_mem _ (lookup_in h2)
theorem lookup_in2 {β : Type} {x : Str × Str} {d : β} : ∀ {l : List ((Str × Str) × β)}, l.lookup x = some d → (x, d) ∈ l
  | [], h => by cases h
  | (b, u) :: r, h => by
    have h2 : (match x == b with | true => some u | false => r.lookup x) = some d := h
    cases q : (x == b) with
    | true =>
      rw [q] at h2
      have e : u = d := Option.some.inj h2
      rw [beq_iff_eq.mp q, e]
      exact List.mem_cons_self
    | false =>
      rw [q] at h2
      exact List.mem_cons_of_mem _ (lookup_in2 h2)
theorem find_keys {P : Params} : ∀ {l : List DictEntry} {ks : List Str}, l.map He.keyOf = He.keysIn P ks → (∀ z, (l.find? fun x => x.key.isStr z).isSome = decide (z ∈ ks)) ∧ (l.any fun x => x.refKey) = false
  | [], [], _ => ⟨fun z => rfl, rfl⟩
  | [], k :: ks, h => by cases h
  | e :: r, [], h => by cases h
  | e :: r, k :: ks, h => by
    have h1 : He.keyOf e :: r.map He.keyOf = some (k, PyData.keyHash P k) :: He.keysIn P ks := h
    injection h1 with h2 h3
    obtain ⟨i1, i2⟩ := find_keys h3
    unfold He.keyOf at h2
    split at h2
    · rename_i x t q
      have h4 := Option.some.inj h2
      obtain ⟨h5, h6⟩ := Prod.mk.inj h4
      subst h5
      refine ⟨fun z => ?_, ?_⟩
      · rw [List.find?_cons]
        have e1 : e.key.isStr z = (x == z) := by rw [q]; rfl
        rw [e1]
        cases hz : x == z with
        | true => simp [beq_iff_eq.mp hz]
        | false =>
          have hn : ¬ z = x := fun e => by rw [e] at hz; simp at hz
          rw [i1 z]
          simp [hn]
      · rw [List.any_cons, i2]
        have e1 : e.refKey = false := by unfold DictEntry.refKey; rw [q]
        rw [e1]
        rfl
    · cases h2
theorem tabK_of {G : Gx} {fa : List He.Fa} {fn : List He.DefD} {ts : List He.Tab} (c : He.SaysT fa fn ts G.w G.K) {x : Str} {ks : List Str} (i : Nat) (h : ts[i]? = some (fun K => He.ga K x, ks)) (hm : G.mg x = some (.ref (He.ga G.K x))) : TabK G x ks := by
  have e : ts.map (fun t => He.dicW G.K (t.1 G.K)) = ts.map fun t => some (He.keysIn G.w.params t.2) := congrArg (fun z : He.AlT => z.2) c
  have e2 : (ts.map fun t => He.dicW G.K (t.1 G.K))[i]? = (ts.map fun t => some (He.keysIn G.w.params t.2))[i]? := by rw [e]
  rw [List.getElem?_map, List.getElem?_map, h] at e2
  have e3 : He.dicW G.K (He.ga G.K x) = some (He.keysIn G.w.params ks) := Option.some.inj e2
  obtain ⟨es, n, D⟩ := He.dicW_ok e3
  refine ⟨_, es, n, hm, D, fun z => ?_⟩
  have e4 : es.toList.map He.keyOf = He.keysIn G.w.params ks := by
    unfold He.dicW at e3
    rw [D.at_] at e3
    dsimp only at e3
    split at e3
    · exact Option.some.inj e3
    · cases e3
  obtain ⟨i1, i2⟩ := find_keys e4
  unfold PySem.W.nsIn
  rw [D.at_]
  dsimp only
  have := i1 z
  cases q : es.toList.find? fun x => x.key.isStr z with
  | some u =>
    rw [q] at this
    exact ⟨some u.val, rfl, this⟩
  | none =>
    rw [q] at this
    rw [i2]
    exact ⟨none, rfl, this⟩
theorem tabV_of {G : Gx} {fa : List He.Fa} {fn : List He.DefD} {ts : List He.Tab} (c : He.SaysT fa fn ts G.w G.K) {x : Str} {ks : List Str} (i : Nat) (h : ts[i]? = some (fun K => He.ga K x, ks)) {kvs : List (Str × He.Dv)} (hv : He.valsB G.K (He.ga G.K x) kvs = true) {q : Str} {v : He.Dv} (hq : (q, v) ∈ kvs) : KDct G.K G.w (He.ga G.K x) q (v.v G.K) := by
  obtain ⟨es, n, D⟩ := c.tab i h
  obtain ⟨u, e1, e2⟩ := He.valsB_ok hv hq
  exact ⟨es, n, u, D.at_, D.lit, e1, e2⟩
theorem def_ok {G : Gx} {x : Str} {st : Stmt} {fd : FD} (h : DefIn G x st) (hb : fd.body = defBody st) (hs : fd.sc = defScope st) (hd : fd.dv = []) (sc : FnScope fd.N fd.ps fd.sc)
    (hB : ∀ (kV doc pm : Value) (an : Option Addr) (cdv ct : Value) (us : List Value), us.length = fd.ps.length → bindArgs (PySem.W.fnOf x x (defArgs st) (defBody st) (defScope st) .none kV doc pm an cdv ct) ⟨us, []⟩ = pure (fd.ps.zip us)) : DefOk G x fd := by
  obtain ⟨f, fdd, F, hm⟩ := h
  refine ⟨⟨f, fdd, defArgs st, [], ?_, hm, fun _ => ?_, fun j => ⟨[], ?_, F.bindsN hB⟩⟩, sc⟩
  · rw [hb, hs]
    exact F
  · rw [hd]
    exact .nil
  · rw [List.drop_nil]
    exact .nil
end Fr

set_option Elab.async false
set_option linter.all false
set_option maxRecDepth 100000
set_option maxHeartbeats 0
/-! K74z: the head, the end. -/
namespace Fr
open PySem PySem.Spec PyProof.Rows L2
/-- a law's end, what may be let out by the world -/
theorem walk_ofW {l : PySem.W.OpenLaw} {n k : Nat} {q : Program} {loose : List Str} {XP : (Str → Option Value) → Heap → Prop} {YP : World → Heap → Prop} {d : DefRec} {CX : World → CXT} {x : Str}
    (hn : l.most = some n) (hn2 : n ≤ sizeLine) (hdf : d.params.defaults = []) (hr : Room k callerA)
    (F : ∀ (w : World) (mg : Str → Option Value) (fa : Addr) (h : Heap), YP w h → h.Ns mainGlobals mg → mg d.name = some (.ref fa) →
      ∃ (K : PySem.W.Frag) (fd : FuncData) (sp : Sp), K.In h ∧ (∀ (s : Shared) (u : Value), BindsTo s fd ⟨[u], []⟩ [(x, u)]) ∧
        (∀ (H : Hp) (a : Addr) (ns : List Int), ns.length ≤ n → Only H → SqL K H a (ns.map V.int) → sp [.ref a] H (fun v _ => v = .bl true) fun _ _ _ => False) ∧
        ∀ base : Heap, K.In base → base.Ns mainGlobals mg → FnOk l.prog w K mg base (CX w) k fa fd [x] sp)
    (hCX : ∀ (w : World) (H : Hp) (s : Shared) (e : Value) (s' : Shared), CX w [] H s (fun _ _ _ => False) e s' → False) :
    PySem.W.WalkO q loose XP YP l.row.toRowW d [] (fun f vs => PySem.call f vs) := by
  refine Att.attach_call hn hdf fun w s₀ s₁ mg mb fa o pm cd doc a vs ns G Y ho hd hcd hmg hobj hints hlen hg => ?_
  obtain ⟨K, fd, sp, KX, hb, hsp, hF⟩ := F w mg fa _ Y G.T.g hmg
  exact law_call KX G.T.g G.T.b G.T.builtins G.T.nolimit hg hobj hints (Nat.le_trans hlen hn2) hr hF hb (fun H hO hS => hsp H a ns hlen hO hS) fun H e s' => hCX w H s₁ e s'
end Fr
namespace K74
open PySem PySem.Spec PyProof.Rows L2 Fr
def dd (x : Str) (st : Stmt) : He.DefD := ⟨(x, none), x, x, defArgs st, defBody st, defScope st, [], []⟩
def fn0 : List He.DefD := [dd "show_robe" s_show_robe, dd "show_part" s_show_part, dd "words_of" s_words_of, dd "show_deed" s_show_deed, dd "is_name" s_is_name, dd "is_whole" s_is_whole, dd "is_day" s_is_day, dd "is_person" s_is_person, dd "is_robe" s_is_robe, dd "is_part" s_is_part, dd "are_parts" s_are_parts, dd "is_buying" s_is_buying, dd "is_sewing" s_is_sewing, dd "is_handing" s_is_handing, dd "is_mending" s_is_mending, dd "is_altering" s_is_altering, dd "is_cutting" s_is_cutting, dd "is_growing" s_is_growing, dd "is_marking" s_is_marking, dd "is_naming" s_is_naming]
def fn1 : List He.DefD := [dd "is_deed" s_is_deed, dd "need_text" s_need_text, dd "number_of" s_number_of, dd "read_robe" s_read_robe, dd "part_of" s_part_of, dd "things_of" s_things_of, dd "read_deed" s_read_deed, dd "_law_pen" s__law_pen, dd "_law_take" s__law_take, dd "_law_robe" s__law_robe, dd "_law_name" s__law_name, dd "_law_deed" s__law_deed, dd "_law_deed_text" s__law_deed_text, dd "_law_same" s__law_same, dd "law" s_law]
def fn : List He.DefD := fn0 ++ fn1
def fa0 : List He.Fa := [.glo "show_robe", .glo "show_part", .glo "words_of", .glo "show_deed", .glo "is_name", .glo "is_whole", .glo "is_day", .glo "is_person", .glo "is_robe", .glo "is_part", .glo "are_parts", .glo "is_buying", .glo "is_sewing", .glo "is_handing", .glo "is_mending", .glo "is_altering", .glo "is_cutting", .glo "is_growing", .glo "is_marking", .glo "is_naming"]
def fa1 : List He.Fa := [.glo "is_deed", .glo "need_text", .glo "number_of", .glo "read_robe", .glo "part_of", .glo "things_of", .glo "read_deed", .glo "_law_pen", .glo "_law_take", .glo "_law_robe", .glo "_law_name", .glo "_law_deed", .glo "_law_deed_text", .glo "_law_same", .glo "law", .glo "RobeError", .glo "NoText", .glo "FORMS", .glo "LOOKS", .str "LETTERS" "abcdefghijklmnopqrstuvwxyz"]
def fa2 : List He.Fa := [.int "LONGEST" 8, .int "MOST_SIZE" 999, .int "MOST_FOLK" 500, .int "MOST_SEAM" 99, .int "MOST_DAY" 9999, .int "MOST_BOUGHT" 1000000, .int "MOST_ALTERED" 1098, .int "MOST_PARTS" 4, .int "MOST_MARK" 999, .str "FIGURES" "0123456789", .int "MOST_FIGURES" 60, .exc "NoText", .exm "NoText" "NoText" true, .free "abs", .free "all", .free "bool", .free "int", .free "isinstance", .free "len", .free "list"]
def fa3 : List He.Fa := [.free "min", .free "range", .free "str", .free "tuple", .free "zip"]
def fa : List He.Fa := fa0 ++ fa1 ++ fa2 ++ fa3
def v_FORMS : List (Str × He.Dv) := [("buy", .str "nn"), ("sew", .str "wrn"), ("hand", .str "wwn"), ("back", .str "wn"), ("mend", .str "wnn"), ("alter", .str "wnn"), ("cut", .str "wpn"), ("cast", .str "wn"), ("grow", .str "wnn"), ("mark", .str "wnn"), ("fade", .str "wn")]
def v_LOOKS : List (Str × He.Dv) := [("buy", .glo "is_buying"), ("sew", .glo "is_sewing"), ("hand", .glo "is_handing"), ("back", .glo "is_naming"), ("mend", .glo "is_mending"), ("alter", .glo "is_altering"), ("cut", .glo "is_cutting"), ("cast", .glo "is_naming"), ("grow", .glo "is_growing"), ("mark", .glo "is_marking"), ("fade", .glo "is_naming")]
def ts : List He.Tab := [(fun K => He.ga K "FORMS", k_FORMS), (fun K => He.ga K "LOOKS", k_LOOKS)]
def exB (K : PySem.W.Frag) : Bool := He.valsB K (He.ga K "FORMS") v_FORMS && (He.valsB K (He.ga K "LOOKS") v_LOOKS && (true))
abbrev R : PySem.W.OpenRow := PySem.W.OpenLaw.row PySem.Challenge.rw_feastrobes_k74_deeds_written_and_read
abbrev hk : PySem.W.Hook := He.hookX 5 fa fn ts [] exB
def ob (s : PySem.W.SharedT) : He.AlX := He.obsX 5 fa fn ts [] exB (HandSHeadRun.getT s)
theorem ob_eq (s : PySem.W.SharedT) : ob s = hk.obs s.abs := He.obsX_eq (HandSHeadRun.getT_eq s)
def loose0 : List Str := ["show_robe", "show_part", "words_of", "show_deed", "LETTERS", "LONGEST", "is_name", "MOST_SIZE", "MOST_FOLK", "MOST_SEAM", "MOST_DAY", "is_whole", "is_day", "is_person", "is_robe", "MOST_BOUGHT", "MOST_ALTERED", "MOST_PARTS", "MOST_MARK", "is_part"]
def loose1 : List Str := ["are_parts", "is_buying", "is_sewing", "is_handing", "is_mending", "is_altering", "is_cutting", "is_growing", "is_marking", "is_naming", "LOOKS", "is_deed", "RobeError", "NoText", "FIGURES", "MOST_FIGURES", "FORMS", "need_text", "number_of", "read_robe"]
def loose2 : List Str := ["part_of", "things_of", "read_deed", "_law_pen", "_law_take", "_law_robe", "_law_name", "_law_deed", "_law_deed_text", "_law_same"]
def loose : List Str := loose0 ++ loose1 ++ loose2
theorem run (w : World) : HandSHeadRun.RunEq R (PySem.W.view R.prog [57]) hk ob 4000 loose w :=
  PySem.W.byRow2 "special-get-raises" (P := fun w => HandSHeadRun.RunEq R (PySem.W.view R.prog [57]) hk ob 4000 loose w) (fun w os => by kernel_rfl) (fun w os => by kernel_rfl) w
section
variable {P : Program} {w : World} {K : PySem.W.Frag} {h base : Heap} {mg : Str → Option Value}
theorem def_in (X : K.In h) (G : h.Ns mainGlobals mg) (c : He.SaysD fa fn K) (i j : Nat) {x : Str} {st : Stmt} (h1 : fn[i]? = some (dd x st)) (h2 : fa[j]? = some (.glo x)) : DefIn ⟨P, w, K, mg, base⟩ x st := by
  obtain ⟨fd, F⟩ := c.def_ i h1
  exact ⟨_, fd, F, He.glo_ok X G (c.fact j h2)⟩
theorem d_show_robe {G : Gx} (h : DefIn G "show_robe" s_show_robe) : DefOk G "show_robe" fd_show_robe :=
  def_ok h rfl rfl rfl ⟨rfl, rfl, rfl, by decide +kernel, rfl, by decide +kernel, by decide +kernel⟩ fun _ _ _ _ _ _ us hl => match us, hl with | [_], _ => rfl
theorem d_show_part {G : Gx} (h : DefIn G "show_part" s_show_part) : DefOk G "show_part" fd_show_part :=
  def_ok h rfl rfl rfl ⟨rfl, rfl, rfl, by decide +kernel, rfl, by decide +kernel, by decide +kernel⟩ fun _ _ _ _ _ _ us hl => match us, hl with | [_], _ => rfl
theorem d_words_of {G : Gx} (h : DefIn G "words_of" s_words_of) : DefOk G "words_of" fd_words_of :=
  def_ok h rfl rfl rfl ⟨rfl, rfl, rfl, by decide +kernel, rfl, by decide +kernel, by decide +kernel⟩ fun _ _ _ _ _ _ us hl => match us, hl with | [_], _ => rfl
theorem d_show_deed {G : Gx} (h : DefIn G "show_deed" s_show_deed) : DefOk G "show_deed" fd_show_deed :=
  def_ok h rfl rfl rfl ⟨rfl, rfl, rfl, by decide +kernel, rfl, by decide +kernel, by decide +kernel⟩ fun _ _ _ _ _ _ us hl => match us, hl with | [_], _ => rfl
theorem d_is_name {G : Gx} (h : DefIn G "is_name" s_is_name) : DefOk G "is_name" fd_is_name :=
  def_ok h rfl rfl rfl ⟨rfl, rfl, rfl, by decide +kernel, rfl, by decide +kernel, by decide +kernel⟩ fun _ _ _ _ _ _ us hl => match us, hl with | [_], _ => rfl
theorem d_is_whole {G : Gx} (h : DefIn G "is_whole" s_is_whole) : DefOk G "is_whole" fd_is_whole :=
  def_ok h rfl rfl rfl ⟨rfl, rfl, rfl, by decide +kernel, rfl, by decide +kernel, by decide +kernel⟩ fun _ _ _ _ _ _ us hl => match us, hl with | [_, _, _], _ => rfl
theorem d_is_day {G : Gx} (h : DefIn G "is_day" s_is_day) : DefOk G "is_day" fd_is_day :=
  def_ok h rfl rfl rfl ⟨rfl, rfl, rfl, by decide +kernel, rfl, by decide +kernel, by decide +kernel⟩ fun _ _ _ _ _ _ us hl => match us, hl with | [_], _ => rfl
theorem d_is_person {G : Gx} (h : DefIn G "is_person" s_is_person) : DefOk G "is_person" fd_is_person :=
  def_ok h rfl rfl rfl ⟨rfl, rfl, rfl, by decide +kernel, rfl, by decide +kernel, by decide +kernel⟩ fun _ _ _ _ _ _ us hl => match us, hl with | [_], _ => rfl
theorem d_is_robe {G : Gx} (h : DefIn G "is_robe" s_is_robe) : DefOk G "is_robe" fd_is_robe :=
  def_ok h rfl rfl rfl ⟨rfl, rfl, rfl, by decide +kernel, rfl, by decide +kernel, by decide +kernel⟩ fun _ _ _ _ _ _ us hl => match us, hl with | [_], _ => rfl
theorem d_is_part {G : Gx} (h : DefIn G "is_part" s_is_part) : DefOk G "is_part" fd_is_part :=
  def_ok h rfl rfl rfl ⟨rfl, rfl, rfl, by decide +kernel, rfl, by decide +kernel, by decide +kernel⟩ fun _ _ _ _ _ _ us hl => match us, hl with | [_], _ => rfl
theorem d_are_parts {G : Gx} (h : DefIn G "are_parts" s_are_parts) : DefOk G "are_parts" fd_are_parts :=
  def_ok h rfl rfl rfl ⟨rfl, rfl, rfl, by decide +kernel, rfl, by decide +kernel, by decide +kernel⟩ fun _ _ _ _ _ _ us hl => match us, hl with | [_], _ => rfl
theorem d_is_buying {G : Gx} (h : DefIn G "is_buying" s_is_buying) : DefOk G "is_buying" fd_is_buying :=
  def_ok h rfl rfl rfl ⟨rfl, rfl, rfl, by decide +kernel, rfl, by decide +kernel, by decide +kernel⟩ fun _ _ _ _ _ _ us hl => match us, hl with | [_], _ => rfl
theorem d_is_sewing {G : Gx} (h : DefIn G "is_sewing" s_is_sewing) : DefOk G "is_sewing" fd_is_sewing :=
  def_ok h rfl rfl rfl ⟨rfl, rfl, rfl, by decide +kernel, rfl, by decide +kernel, by decide +kernel⟩ fun _ _ _ _ _ _ us hl => match us, hl with | [_], _ => rfl
theorem d_is_handing {G : Gx} (h : DefIn G "is_handing" s_is_handing) : DefOk G "is_handing" fd_is_handing :=
  def_ok h rfl rfl rfl ⟨rfl, rfl, rfl, by decide +kernel, rfl, by decide +kernel, by decide +kernel⟩ fun _ _ _ _ _ _ us hl => match us, hl with | [_], _ => rfl
theorem d_is_mending {G : Gx} (h : DefIn G "is_mending" s_is_mending) : DefOk G "is_mending" fd_is_mending :=
  def_ok h rfl rfl rfl ⟨rfl, rfl, rfl, by decide +kernel, rfl, by decide +kernel, by decide +kernel⟩ fun _ _ _ _ _ _ us hl => match us, hl with | [_], _ => rfl
theorem d_is_altering {G : Gx} (h : DefIn G "is_altering" s_is_altering) : DefOk G "is_altering" fd_is_altering :=
  def_ok h rfl rfl rfl ⟨rfl, rfl, rfl, by decide +kernel, rfl, by decide +kernel, by decide +kernel⟩ fun _ _ _ _ _ _ us hl => match us, hl with | [_], _ => rfl
theorem d_is_cutting {G : Gx} (h : DefIn G "is_cutting" s_is_cutting) : DefOk G "is_cutting" fd_is_cutting :=
  def_ok h rfl rfl rfl ⟨rfl, rfl, rfl, by decide +kernel, rfl, by decide +kernel, by decide +kernel⟩ fun _ _ _ _ _ _ us hl => match us, hl with | [_], _ => rfl
theorem d_is_growing {G : Gx} (h : DefIn G "is_growing" s_is_growing) : DefOk G "is_growing" fd_is_growing :=
  def_ok h rfl rfl rfl ⟨rfl, rfl, rfl, by decide +kernel, rfl, by decide +kernel, by decide +kernel⟩ fun _ _ _ _ _ _ us hl => match us, hl with | [_], _ => rfl
theorem d_is_marking {G : Gx} (h : DefIn G "is_marking" s_is_marking) : DefOk G "is_marking" fd_is_marking :=
  def_ok h rfl rfl rfl ⟨rfl, rfl, rfl, by decide +kernel, rfl, by decide +kernel, by decide +kernel⟩ fun _ _ _ _ _ _ us hl => match us, hl with | [_], _ => rfl
theorem d_is_naming {G : Gx} (h : DefIn G "is_naming" s_is_naming) : DefOk G "is_naming" fd_is_naming :=
  def_ok h rfl rfl rfl ⟨rfl, rfl, rfl, by decide +kernel, rfl, by decide +kernel, by decide +kernel⟩ fun _ _ _ _ _ _ us hl => match us, hl with | [_], _ => rfl
theorem d_is_deed {G : Gx} (h : DefIn G "is_deed" s_is_deed) : DefOk G "is_deed" fd_is_deed :=
  def_ok h rfl rfl rfl ⟨rfl, rfl, rfl, by decide +kernel, rfl, by decide +kernel, by decide +kernel⟩ fun _ _ _ _ _ _ us hl => match us, hl with | [_], _ => rfl
theorem d_need_text {G : Gx} (h : DefIn G "need_text" s_need_text) : DefOk G "need_text" fd_need_text :=
  def_ok h rfl rfl rfl ⟨rfl, rfl, rfl, by decide +kernel, rfl, by decide +kernel, by decide +kernel⟩ fun _ _ _ _ _ _ us hl => match us, hl with | [_], _ => rfl
theorem d_number_of {G : Gx} (h : DefIn G "number_of" s_number_of) : DefOk G "number_of" fd_number_of :=
  def_ok h rfl rfl rfl ⟨rfl, rfl, rfl, by decide +kernel, rfl, by decide +kernel, by decide +kernel⟩ fun _ _ _ _ _ _ us hl => match us, hl with | [_], _ => rfl
theorem d_read_robe {G : Gx} (h : DefIn G "read_robe" s_read_robe) : DefOk G "read_robe" fd_read_robe :=
  def_ok h rfl rfl rfl ⟨rfl, rfl, rfl, by decide +kernel, rfl, by decide +kernel, by decide +kernel⟩ fun _ _ _ _ _ _ us hl => match us, hl with | [_], _ => rfl
theorem d_part_of {G : Gx} (h : DefIn G "part_of" s_part_of) : DefOk G "part_of" fd_part_of :=
  def_ok h rfl rfl rfl ⟨rfl, rfl, rfl, by decide +kernel, rfl, by decide +kernel, by decide +kernel⟩ fun _ _ _ _ _ _ us hl => match us, hl with | [_], _ => rfl
theorem d_things_of {G : Gx} (h : DefIn G "things_of" s_things_of) : DefOk G "things_of" fd_things_of :=
  def_ok h rfl rfl rfl ⟨rfl, rfl, rfl, by decide +kernel, rfl, by decide +kernel, by decide +kernel⟩ fun _ _ _ _ _ _ us hl => match us, hl with | [_, _], _ => rfl
theorem d_read_deed {G : Gx} (h : DefIn G "read_deed" s_read_deed) : DefOk G "read_deed" fd_read_deed :=
  def_ok h rfl rfl rfl ⟨rfl, rfl, rfl, by decide +kernel, rfl, by decide +kernel, by decide +kernel⟩ fun _ _ _ _ _ _ us hl => match us, hl with | [_], _ => rfl
theorem d__law_pen {G : Gx} (h : DefIn G "_law_pen" s__law_pen) : DefOk G "_law_pen" fd__law_pen :=
  def_ok h rfl rfl rfl ⟨rfl, rfl, rfl, by decide +kernel, rfl, by decide +kernel, by decide +kernel⟩ fun _ _ _ _ _ _ us hl => match us, hl with | [_], _ => rfl
theorem d__law_take {G : Gx} (h : DefIn G "_law_take" s__law_take) : DefOk G "_law_take" fd__law_take :=
  def_ok h rfl rfl rfl ⟨rfl, rfl, rfl, by decide +kernel, rfl, by decide +kernel, by decide +kernel⟩ fun _ _ _ _ _ _ us hl => match us, hl with | [_, _], _ => rfl
theorem d__law_robe {G : Gx} (h : DefIn G "_law_robe" s__law_robe) : DefOk G "_law_robe" fd__law_robe :=
  def_ok h rfl rfl rfl ⟨rfl, rfl, rfl, by decide +kernel, rfl, by decide +kernel, by decide +kernel⟩ fun _ _ _ _ _ _ us hl => match us, hl with | [_], _ => rfl
theorem d__law_name {G : Gx} (h : DefIn G "_law_name" s__law_name) : DefOk G "_law_name" fd__law_name :=
  def_ok h rfl rfl rfl ⟨rfl, rfl, rfl, by decide +kernel, rfl, by decide +kernel, by decide +kernel⟩ fun _ _ _ _ _ _ us hl => match us, hl with | [_], _ => rfl
theorem d__law_deed {G : Gx} (h : DefIn G "_law_deed" s__law_deed) : DefOk G "_law_deed" fd__law_deed :=
  def_ok h rfl rfl rfl ⟨rfl, rfl, rfl, by decide +kernel, rfl, by decide +kernel, by decide +kernel⟩ fun _ _ _ _ _ _ us hl => match us, hl with | [_], _ => rfl
theorem d__law_deed_text {G : Gx} (h : DefIn G "_law_deed_text" s__law_deed_text) : DefOk G "_law_deed_text" fd__law_deed_text :=
  def_ok h rfl rfl rfl ⟨rfl, rfl, rfl, by decide +kernel, rfl, by decide +kernel, by decide +kernel⟩ fun _ _ _ _ _ _ us hl => match us, hl with | [_], _ => rfl
theorem d__law_same {G : Gx} (h : DefIn G "_law_same" s__law_same) : DefOk G "_law_same" fd__law_same :=
  def_ok h rfl rfl rfl ⟨rfl, rfl, rfl, by decide +kernel, rfl, by decide +kernel, by decide +kernel⟩ fun _ _ _ _ _ _ us hl => match us, hl with | [_, _], _ => rfl
theorem d_law {G : Gx} (h : DefIn G "law" s_law) : DefOk G "law" fd_law :=
  def_ok h rfl rfl rfl ⟨rfl, rfl, rfl, by decide +kernel, rfl, by decide +kernel, by decide +kernel⟩ fun _ _ _ _ _ _ us hl => match us, hl with | [_], _ => rfl
theorem defs (X : K.In h) (G : h.Ns mainGlobals mg) (c : He.SaysD fa fn K) : ∀ f fd, PP.fns.lookup f = some fd → DefOk ⟨P, w, K, mg, base⟩ f fd := by
  have I := fun (i j : Nat) (x : Str) (st : Stmt) (h1 : fn[i]? = some (dd x st)) (h2 : fa[j]? = some (.glo x)) => def_in (P := P) (w := w) (base := base) X G c i j h1 h2
  have k_fns0 : ∀ p ∈ fns0, DefOk ⟨P, w, K, mg, base⟩ p.1 p.2 := by
    intro p hp
    simp only [fns0, List.mem_cons, List.not_mem_nil, or_false] at hp
    rcases hp with rfl | rfl | rfl | rfl | rfl | rfl | rfl | rfl | rfl | rfl | rfl | rfl
    · exact d_show_robe (I 0 0 _ _ rfl rfl)
    · exact d_show_part (I 1 1 _ _ rfl rfl)
    · exact d_words_of (I 2 2 _ _ rfl rfl)
    · exact d_show_deed (I 3 3 _ _ rfl rfl)
    · exact d_is_name (I 4 4 _ _ rfl rfl)
    · exact d_is_whole (I 5 5 _ _ rfl rfl)
    · exact d_is_day (I 6 6 _ _ rfl rfl)
    · exact d_is_person (I 7 7 _ _ rfl rfl)
    · exact d_is_robe (I 8 8 _ _ rfl rfl)
    · exact d_is_part (I 9 9 _ _ rfl rfl)
    · exact d_are_parts (I 10 10 _ _ rfl rfl)
    · exact d_is_buying (I 11 11 _ _ rfl rfl)
  have k_fns1 : ∀ p ∈ fns1, DefOk ⟨P, w, K, mg, base⟩ p.1 p.2 := by
    intro p hp
    simp only [fns1, List.mem_cons, List.not_mem_nil, or_false] at hp
    rcases hp with rfl | rfl | rfl | rfl | rfl | rfl | rfl | rfl | rfl | rfl | rfl | rfl
    · exact d_is_sewing (I 12 12 _ _ rfl rfl)
    · exact d_is_handing (I 13 13 _ _ rfl rfl)
    · exact d_is_mending (I 14 14 _ _ rfl rfl)
    · exact d_is_altering (I 15 15 _ _ rfl rfl)
    · exact d_is_cutting (I 16 16 _ _ rfl rfl)
    · exact d_is_growing (I 17 17 _ _ rfl rfl)
    · exact d_is_marking (I 18 18 _ _ rfl rfl)
    · exact d_is_naming (I 19 19 _ _ rfl rfl)
    · exact d_is_deed (I 20 20 _ _ rfl rfl)
    · exact d_need_text (I 21 21 _ _ rfl rfl)
    · exact d_number_of (I 22 22 _ _ rfl rfl)
    · exact d_read_robe (I 23 23 _ _ rfl rfl)
  have k_fns2 : ∀ p ∈ fns2, DefOk ⟨P, w, K, mg, base⟩ p.1 p.2 := by
    intro p hp
    simp only [fns2, List.mem_cons, List.not_mem_nil, or_false] at hp
    rcases hp with rfl | rfl | rfl | rfl | rfl | rfl | rfl | rfl | rfl | rfl | rfl
    · exact d_part_of (I 24 24 _ _ rfl rfl)
    · exact d_things_of (I 25 25 _ _ rfl rfl)
    · exact d_read_deed (I 26 26 _ _ rfl rfl)
    · exact d__law_pen (I 27 27 _ _ rfl rfl)
    · exact d__law_take (I 28 28 _ _ rfl rfl)
    · exact d__law_robe (I 29 29 _ _ rfl rfl)
    · exact d__law_name (I 30 30 _ _ rfl rfl)
    · exact d__law_deed (I 31 31 _ _ rfl rfl)
    · exact d__law_deed_text (I 32 32 _ _ rfl rfl)
    · exact d__law_same (I 33 33 _ _ rfl rfl)
    · exact d_law (I 34 34 _ _ rfl rfl)
  intro f fd hf
  have hm : (f, fd) ∈ fns := lookup_in hf
  unfold fns at hm
  rcases List.mem_append.mp hm with hm | hm
  · rcases List.mem_append.mp hm with hm | hm
    · exact k_fns0 _ hm
    · exact k_fns1 _ hm
  · exact k_fns2 _ hm
theorem ip (X : K.In h) (G : h.Ns mainGlobals mg) (c0 : He.SaysT fa fn ts w K) (ex : exB K = true) : IPok ⟨P, w, K, mg, base⟩ PP := by
  have c : He.SaysD fa fn K := c0.d
  refine ⟨?cst, ?fre, ?ecs, ?hnd, ?isE, ?tbS, ?tbF, ?tbK⟩
  case cst =>
    have k_csts0 : ∀ p ∈ csts0, GConst ⟨P, w, K, mg, base⟩ p.1 p.2 := by
      intro p hp
      simp only [csts0, List.mem_cons, List.not_mem_nil, or_false] at hp
      rcases hp with rfl | rfl | rfl | rfl | rfl | rfl | rfl | rfl | rfl | rfl | rfl | rfl
      · obtain ⟨t, e⟩ := He.str_ok X G (c.fact 39 (f := .str "LETTERS" "abcdefghijklmnopqrstuvwxyz") rfl)
        exact ⟨_, .str "abcdefghijklmnopqrstuvwxyz", e, ⟨t, rfl⟩, fun _ => .str _⟩
      · obtain ⟨t, e⟩ := He.int_ok X G (c.fact 40 (f := .int "LONGEST" 8) rfl)
        exact ⟨_, .int 8, e, ⟨t, rfl⟩, fun _ => .int _⟩
      · obtain ⟨t, e⟩ := He.int_ok X G (c.fact 41 (f := .int "MOST_SIZE" 999) rfl)
        exact ⟨_, .int 999, e, ⟨t, rfl⟩, fun _ => .int _⟩
      · obtain ⟨t, e⟩ := He.int_ok X G (c.fact 42 (f := .int "MOST_FOLK" 500) rfl)
        exact ⟨_, .int 500, e, ⟨t, rfl⟩, fun _ => .int _⟩
      · obtain ⟨t, e⟩ := He.int_ok X G (c.fact 43 (f := .int "MOST_SEAM" 99) rfl)
        exact ⟨_, .int 99, e, ⟨t, rfl⟩, fun _ => .int _⟩
      · obtain ⟨t, e⟩ := He.int_ok X G (c.fact 44 (f := .int "MOST_DAY" 9999) rfl)
        exact ⟨_, .int 9999, e, ⟨t, rfl⟩, fun _ => .int _⟩
      · obtain ⟨t, e⟩ := He.int_ok X G (c.fact 45 (f := .int "MOST_BOUGHT" 1000000) rfl)
        exact ⟨_, .int 1000000, e, ⟨t, rfl⟩, fun _ => .int _⟩
      · obtain ⟨t, e⟩ := He.int_ok X G (c.fact 46 (f := .int "MOST_ALTERED" 1098) rfl)
        exact ⟨_, .int 1098, e, ⟨t, rfl⟩, fun _ => .int _⟩
      · obtain ⟨t, e⟩ := He.int_ok X G (c.fact 47 (f := .int "MOST_PARTS" 4) rfl)
        exact ⟨_, .int 4, e, ⟨t, rfl⟩, fun _ => .int _⟩
      · obtain ⟨t, e⟩ := He.int_ok X G (c.fact 48 (f := .int "MOST_MARK" 999) rfl)
        exact ⟨_, .int 999, e, ⟨t, rfl⟩, fun _ => .int _⟩
      · obtain ⟨t, e⟩ := He.str_ok X G (c.fact 49 (f := .str "FIGURES" "0123456789") rfl)
        exact ⟨_, .str "0123456789", e, ⟨t, rfl⟩, fun _ => .str _⟩
      · obtain ⟨t, e⟩ := He.int_ok X G (c.fact 50 (f := .int "MOST_FIGURES" 60) rfl)
        exact ⟨_, .int 60, e, ⟨t, rfl⟩, fun _ => .int _⟩
    intro x d hx
    have hm : (x, d) ∈ csts := lookup_in hx
    unfold csts at hm
    exact k_csts0 _ hm
  case fre =>
    intro x hx
    have hm : x ∈ fres := List.contains_iff_mem.mp hx
    simp only [fres, fres0, List.mem_cons, List.not_mem_nil, or_false] at hm
    rcases hm with rfl | rfl | rfl | rfl | rfl | rfl | rfl | rfl | rfl | rfl | rfl | rfl
    · exact He.free_ok X G (c.fact 53 (f := .free "abs") rfl)
    · exact He.free_ok X G (c.fact 54 (f := .free "all") rfl)
    · exact He.free_ok X G (c.fact 55 (f := .free "bool") rfl)
    · exact He.free_ok X G (c.fact 56 (f := .free "int") rfl)
    · exact He.free_ok X G (c.fact 57 (f := .free "isinstance") rfl)
    · exact He.free_ok X G (c.fact 58 (f := .free "len") rfl)
    · exact He.free_ok X G (c.fact 59 (f := .free "list") rfl)
    · exact He.free_ok X G (c.fact 60 (f := .free "min") rfl)
    · exact He.free_ok X G (c.fact 61 (f := .free "range") rfl)
    · exact He.free_ok X G (c.fact 62 (f := .free "str") rfl)
    · exact He.free_ok X G (c.fact 63 (f := .free "tuple") rfl)
    · exact He.free_ok X G (c.fact 64 (f := .free "zip") rfl)
  case ecs =>
    intro x hx
    have hm : x ∈ (["NoText"] : List Str) := List.contains_iff_mem.mp hx
    simp only [List.mem_cons, List.not_mem_nil, or_false] at hm
    rcases hm with rfl
    · obtain ⟨e1, e2, e3, e4⟩ := He.exc_ok (c.fact 51 (f := .exc "NoText") rfl)
      exact ⟨_, He.glo_ok X G (c.fact 36 (f := .glo "NoText") rfl), e1, e2, e3, e4⟩
  case hnd =>
    intro a b v hx
    have hm : ((a, b), v) ∈ ([(("NoText", "NoText"), true)] : List ((Str × Str) × Bool)) := lookup_in2 hx
    simp only [List.mem_cons, List.not_mem_nil, or_false, Prod.mk.injEq] at hm
    rcases hm with ⟨⟨rfl, rfl⟩, rfl⟩
    · exact ⟨_, _, He.glo_ok X G (c.fact 36 (f := .glo "NoText") rfl), He.glo_ok X G (c.fact 36 (f := .glo "NoText") rfl), He.exm_ok (c.fact 52 (f := .exm "NoText" "NoText" true) rfl)⟩
  case isE =>
    intro a b v hx
    cases hx
  case tbS =>
    intro x t hx
    have exs := ex
    unfold exB at exs
    simp only [Bool.and_eq_true] at exs
    have hm : (x, t) ∈ ([("FORMS", t_FORMS)] : List (Str × List (Str × Str))) := lookup_in hx
    simp only [List.mem_cons, List.not_mem_nil, or_false, Prod.mk.injEq] at hm
    rcases hm with ⟨rfl, rfl⟩
    · have gx := He.glo_ok X G (c.fact 37 (f := .glo "FORMS") rfl)
      refine ⟨⟨_, gx⟩, fun k z hk => ?_⟩
      have hm := lookup_in hk
      simp only [t_FORMS, List.mem_cons, List.not_mem_nil, or_false, Prod.mk.injEq] at hm
      rcases hm with ⟨rfl, rfl⟩ | ⟨rfl, rfl⟩ | ⟨rfl, rfl⟩ | ⟨rfl, rfl⟩ | ⟨rfl, rfl⟩ | ⟨rfl, rfl⟩ | ⟨rfl, rfl⟩ | ⟨rfl, rfl⟩ | ⟨rfl, rfl⟩ | ⟨rfl, rfl⟩ | ⟨rfl, rfl⟩
      · exact ⟨_, gx, tabV_of (G := ⟨P, w, K, mg, base⟩) c0 0 (x := "FORMS") (ks := k_FORMS) rfl exs.1 (q := "buy") (v := .str "nn") (by unfold v_FORMS; simp)⟩
      · exact ⟨_, gx, tabV_of (G := ⟨P, w, K, mg, base⟩) c0 0 (x := "FORMS") (ks := k_FORMS) rfl exs.1 (q := "sew") (v := .str "wrn") (by unfold v_FORMS; simp)⟩
      · exact ⟨_, gx, tabV_of (G := ⟨P, w, K, mg, base⟩) c0 0 (x := "FORMS") (ks := k_FORMS) rfl exs.1 (q := "hand") (v := .str "wwn") (by unfold v_FORMS; simp)⟩
      · exact ⟨_, gx, tabV_of (G := ⟨P, w, K, mg, base⟩) c0 0 (x := "FORMS") (ks := k_FORMS) rfl exs.1 (q := "back") (v := .str "wn") (by unfold v_FORMS; simp)⟩
      · exact ⟨_, gx, tabV_of (G := ⟨P, w, K, mg, base⟩) c0 0 (x := "FORMS") (ks := k_FORMS) rfl exs.1 (q := "mend") (v := .str "wnn") (by unfold v_FORMS; simp)⟩
      · exact ⟨_, gx, tabV_of (G := ⟨P, w, K, mg, base⟩) c0 0 (x := "FORMS") (ks := k_FORMS) rfl exs.1 (q := "alter") (v := .str "wnn") (by unfold v_FORMS; simp)⟩
      · exact ⟨_, gx, tabV_of (G := ⟨P, w, K, mg, base⟩) c0 0 (x := "FORMS") (ks := k_FORMS) rfl exs.1 (q := "cut") (v := .str "wpn") (by unfold v_FORMS; simp)⟩
      · exact ⟨_, gx, tabV_of (G := ⟨P, w, K, mg, base⟩) c0 0 (x := "FORMS") (ks := k_FORMS) rfl exs.1 (q := "cast") (v := .str "wn") (by unfold v_FORMS; simp)⟩
      · exact ⟨_, gx, tabV_of (G := ⟨P, w, K, mg, base⟩) c0 0 (x := "FORMS") (ks := k_FORMS) rfl exs.1 (q := "grow") (v := .str "wnn") (by unfold v_FORMS; simp)⟩
      · exact ⟨_, gx, tabV_of (G := ⟨P, w, K, mg, base⟩) c0 0 (x := "FORMS") (ks := k_FORMS) rfl exs.1 (q := "mark") (v := .str "wnn") (by unfold v_FORMS; simp)⟩
      · exact ⟨_, gx, tabV_of (G := ⟨P, w, K, mg, base⟩) c0 0 (x := "FORMS") (ks := k_FORMS) rfl exs.1 (q := "fade") (v := .str "wn") (by unfold v_FORMS; simp)⟩
  case tbF =>
    intro x t hx
    have exs := ex
    unfold exB at exs
    simp only [Bool.and_eq_true] at exs
    have hm : (x, t) ∈ ([("LOOKS", t_LOOKS)] : List (Str × List (Str × Str))) := lookup_in hx
    simp only [List.mem_cons, List.not_mem_nil, or_false, Prod.mk.injEq] at hm
    rcases hm with ⟨rfl, rfl⟩
    · have gx := He.glo_ok X G (c.fact 38 (f := .glo "LOOKS") rfl)
      refine ⟨⟨_, gx⟩, fun k z hk => ?_⟩
      have hm := lookup_in hk
      simp only [t_LOOKS, List.mem_cons, List.not_mem_nil, or_false, Prod.mk.injEq] at hm
      rcases hm with ⟨rfl, rfl⟩ | ⟨rfl, rfl⟩ | ⟨rfl, rfl⟩ | ⟨rfl, rfl⟩ | ⟨rfl, rfl⟩ | ⟨rfl, rfl⟩ | ⟨rfl, rfl⟩ | ⟨rfl, rfl⟩ | ⟨rfl, rfl⟩ | ⟨rfl, rfl⟩ | ⟨rfl, rfl⟩
      · exact ⟨_, _, gx, tabV_of (G := ⟨P, w, K, mg, base⟩) c0 1 (x := "LOOKS") (ks := k_LOOKS) rfl exs.2.1 (q := "buy") (v := .glo "is_buying") (by unfold v_LOOKS; simp), He.glo_ok X G (c.fact 11 (f := .glo "is_buying") rfl)⟩
      · exact ⟨_, _, gx, tabV_of (G := ⟨P, w, K, mg, base⟩) c0 1 (x := "LOOKS") (ks := k_LOOKS) rfl exs.2.1 (q := "sew") (v := .glo "is_sewing") (by unfold v_LOOKS; simp), He.glo_ok X G (c.fact 12 (f := .glo "is_sewing") rfl)⟩
      · exact ⟨_, _, gx, tabV_of (G := ⟨P, w, K, mg, base⟩) c0 1 (x := "LOOKS") (ks := k_LOOKS) rfl exs.2.1 (q := "hand") (v := .glo "is_handing") (by unfold v_LOOKS; simp), He.glo_ok X G (c.fact 13 (f := .glo "is_handing") rfl)⟩
      · exact ⟨_, _, gx, tabV_of (G := ⟨P, w, K, mg, base⟩) c0 1 (x := "LOOKS") (ks := k_LOOKS) rfl exs.2.1 (q := "back") (v := .glo "is_naming") (by unfold v_LOOKS; simp), He.glo_ok X G (c.fact 19 (f := .glo "is_naming") rfl)⟩
      · exact ⟨_, _, gx, tabV_of (G := ⟨P, w, K, mg, base⟩) c0 1 (x := "LOOKS") (ks := k_LOOKS) rfl exs.2.1 (q := "mend") (v := .glo "is_mending") (by unfold v_LOOKS; simp), He.glo_ok X G (c.fact 14 (f := .glo "is_mending") rfl)⟩
      · exact ⟨_, _, gx, tabV_of (G := ⟨P, w, K, mg, base⟩) c0 1 (x := "LOOKS") (ks := k_LOOKS) rfl exs.2.1 (q := "alter") (v := .glo "is_altering") (by unfold v_LOOKS; simp), He.glo_ok X G (c.fact 15 (f := .glo "is_altering") rfl)⟩
      · exact ⟨_, _, gx, tabV_of (G := ⟨P, w, K, mg, base⟩) c0 1 (x := "LOOKS") (ks := k_LOOKS) rfl exs.2.1 (q := "cut") (v := .glo "is_cutting") (by unfold v_LOOKS; simp), He.glo_ok X G (c.fact 16 (f := .glo "is_cutting") rfl)⟩
      · exact ⟨_, _, gx, tabV_of (G := ⟨P, w, K, mg, base⟩) c0 1 (x := "LOOKS") (ks := k_LOOKS) rfl exs.2.1 (q := "cast") (v := .glo "is_naming") (by unfold v_LOOKS; simp), He.glo_ok X G (c.fact 19 (f := .glo "is_naming") rfl)⟩
      · exact ⟨_, _, gx, tabV_of (G := ⟨P, w, K, mg, base⟩) c0 1 (x := "LOOKS") (ks := k_LOOKS) rfl exs.2.1 (q := "grow") (v := .glo "is_growing") (by unfold v_LOOKS; simp), He.glo_ok X G (c.fact 17 (f := .glo "is_growing") rfl)⟩
      · exact ⟨_, _, gx, tabV_of (G := ⟨P, w, K, mg, base⟩) c0 1 (x := "LOOKS") (ks := k_LOOKS) rfl exs.2.1 (q := "mark") (v := .glo "is_marking") (by unfold v_LOOKS; simp), He.glo_ok X G (c.fact 18 (f := .glo "is_marking") rfl)⟩
      · exact ⟨_, _, gx, tabV_of (G := ⟨P, w, K, mg, base⟩) c0 1 (x := "LOOKS") (ks := k_LOOKS) rfl exs.2.1 (q := "fade") (v := .glo "is_naming") (by unfold v_LOOKS; simp), He.glo_ok X G (c.fact 19 (f := .glo "is_naming") rfl)⟩
  case tbK =>
    intro x t hx
    have hm : (x, t) ∈ ([("FORMS", k_FORMS), ("LOOKS", k_LOOKS)] : List (Str × List Str)) := lookup_in hx
    simp only [List.mem_cons, List.not_mem_nil, or_false, Prod.mk.injEq] at hm
    rcases hm with ⟨rfl, rfl⟩ | ⟨rfl, rfl⟩
    · exact tabK_of (G := ⟨P, w, K, mg, base⟩) c0 0 rfl (He.glo_ok X G (c.fact 37 (f := .glo "FORMS") rfl))
    · exact tabK_of (G := ⟨P, w, K, mg, base⟩) c0 1 rfl (He.glo_ok X G (c.fact 38 (f := .glo "LOOKS") rfl))
end
end K74
open PySem PySem.W PySem.Calls PyProof.Rows
theorem PySem.Challenge.cw_feastrobes_k74_deeds_written_and_read_holds : PySem.Challenge.rw_feastrobes_k74_deeds_written_and_read.Holds := by
  w_on; o_law
  refine HandSHeadRun.head_any (r := OpenLaw.row PySem.Challenge.rw_feastrobes_k74_deeds_written_and_read) (q := view (OpenLaw.row PySem.Challenge.rw_feastrobes_k74_deeds_written_and_read).prog [57]) (H := K74.hk) (ob := K74.ob) (M := 4000) (loose := K74.loose) (d := HandSHeadRun.topDef (OpenLaw.row PySem.Challenge.rw_feastrobes_k74_deeds_written_and_read).prog 57) (kwd := []) K74.ob_eq
    (by kernel_rfl) (fun s => by kernel_rfl) K74.run (by kernel_rfl) (by kernel_rfl) (by kernel_rfl) (by rfl) (by first | assumption | decide +kernel) (by decide +kernel) ⟨rfl, rfl, rfl, rfl, rfl, by decide +kernel⟩ ?hw ?hc
  case hw => w_witness2
  case hc =>
    refine Fr.walk_ofW (l := PySem.Challenge.rw_feastrobes_k74_deeds_written_and_read) (n := 63) (k := 8) (x := "_law_script") (CX := L2.CX (PySem.Challenge.rw_feastrobes_k74_deeds_written_and_read).prog) rfl (by decide) (by kernel_rfl) ⟨rfl, by decide, by decide⟩ ?F (fun w H s e s' z => ?X)
    case F =>
      intro w mg fa h Y G hmg0
      obtain ⟨K, KX, c⟩ := Y
      have hmg : mg ("law" : PySem.Str) = some (.ref fa) := by
        have e : (HandSHeadRun.topDef (OpenLaw.row PySem.Challenge.rw_feastrobes_k74_deeds_written_and_read).prog 57).name = ("law" : PySem.Str) := by kernel_rfl
        rw [← e]
        exact hmg0
      obtain ⟨fd, F⟩ := c.t.d.def_ 34 (d := K74.dd "law" K74.s_law) rfl
      have e := hmg.symm.trans (He.glo_ok KX G (c.t.d.fact 34 (f := .glo "law") rfl))
      cases e
      have b := L2.FunD.bindsA (ps := ["_law_script"]) F fun _ _ _ _ _ _ us hl => match us, hl with | [_], _ => rfl
      exact ⟨K, fd, Fr.spOf ⟨(PySem.Challenge.rw_feastrobes_k74_deeds_written_and_read).prog, w, K, mg, h⟩ (Fr.S_of (Fr.callN K74.PP 8) "law"), KX, fun s v => b s [v] rfl, fun H a ns _ _ hS => Fr.sp_law hS (by rw [K74.law_eq]; exact rfl), fun base _ _ => Fr.law_of (K74.ip (base := base) KX G c.t c.more) (K74.defs KX G c.t.d) K74.l_law F⟩
    case X =>
      obtain ⟨_, _, _, _, _, _, _, _, _, _, _, _, z⟩ := z
      exact z.elim

