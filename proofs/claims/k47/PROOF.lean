import PyProof.Rows.All
import Wide.All
import OpenK.AllK
import Wide.FinOn
import HandS.ForMost
import HandS.ForExc
import HandS.Finally
import HandS.HotCalls
import KE.KWithOwn
import HandS.Nested
import HandS.CallLocal
import KE.KExcSuper
import HandS.Strs
import HandS.SetBool
import HandS.IsInst
import HandS.OwnEq
import HandS.SlotsOwn
import PyProof.InstNe
import HandS.Walk
import KE.GoesMore
import PyProof.EnumMake
import HandS.Property
import PyProof.StrOps2
import HandS.Defaults
import HandS.Zip
import HandS.TupAny
import HandS.Star
import HandS.Sort
import HandS.ExcBuiltin
import HandS.RaiseOp
import HandS.TryOnly
import HandS.Style
import HandS.Small
import HandS.EndTab
import KE.KNestM
import PySem.Challenge.RW_whomaysign_k47_whole_desks_tried
set_option Elab.async false
set_option linter.all false
set_option maxRecDepth 100000
set_option maxHeartbeats 2000000
/-! W1 -/
namespace Wm
open PySem PySem.W PySem.Spec PyProof.Rows
section
variable {K : Frag} {prog : Program} {w : World} {A : Around} {E : Value → Shared → Prop} {s : Shared} {env : Env} {x C fe fx : Addr} {ox : Obj} {od : Option Obj} {pos : Pos}
/-- the error a, landed: told to the exit at fx of the manager at x; it hands back None, on the error goes -/
def ExitAsked (prog : Program) (w : World) (A : Around) (E : Value → Shared → Prop) (env : Env) (fx x : Addr) (Q : Flow → Shared → Prop) (e : Value) (s : Shared) : Prop :=
  ∃ (a T : Addr) (cls : Value) (oe oT : Obj) (vs ts : Array Value) (v1 : Value), e = .ref a ∧ s.heap.get? a = some oe ∧ oe.cls = cls ∧ oe.data = .fields vs ∧ vs[1]? = some (.ref T) ∧ s.heap.get? T = some oT ∧ oT.data = .fields ts ∧ ts[1]? = some v1 ∧
    ∀ tv, (tv = .none ∨ tv = .ref T) → codeAny (model prog w) (A.mark (some e)) (.call (.ref fx) ⟨[.ref x, cls, e, tv], []⟩) (fun r s4 => match r with
      | .ok (.ret u) => u = .none ∧ wpAny (model prog w) A (PySem.passOn "with" e env : Sem Flow) Q E s4
      | .ok _ => False
      | .error e' => E e' s4) s
def Landing (prog : Program) (w : World) (A : Around) (E : Value → Shared → Prop) (env : Env) (fx x : Addr) (Q : Flow → Shared → Prop) (e : Value) (s : Shared) : Prop :=
  wpAny (model prog w) A (noteFrame e env) (fun _ s2 => wpAny (model prog w) A (setFlight e none) (fun _ s3 => ExitAsked prog w A E env fx x Q e s3) E s2) E s
theorem exit_asked {x fx : Addr} {e : Value} {Q : Flow → Shared → Prop} (h : ExitAsked prog w A E env fx x Q e s) :
    wpAny (model prog w) A (holding [e] do
              let c ← typeOf e
              let t ← tracebackOf e
              let r ← withItem.marked e (Code.call (Value.ref fx) { pos := [Value.ref x] ++ [c, e, t] })
              let r ← pure r
              match r with
                | Value.none => do
                  let swallow ← pure false
                  if swallow = true then do
                      rule "with.exit-swallows"
                      setFlight e none
                      pure Flow.next
                    else PySem.passOn "with" e env
                | Value.bool b => do
                  let swallow ← pure b
                  if swallow = true then do
                      rule "with.exit-swallows"
                      setFlight e none
                      pure Flow.next
                    else PySem.passOn "with" e env
                | x => do
                  let c2 ← withItem.marked e (Code.call (Value.type "bool") { pos := [r] })
                  let swallow ← pure (c2 == Value.bool true)
                  if swallow = true then do
                      rule "with.exit-swallows"
                      setFlight e none
                      pure Flow.next
                    else PySem.passOn "with" e env) Q E s := by
  obtain ⟨a, T, cls, oe, oT, vs, ts, v1, rfl, ha, hc, hd, h1, hT, hdT, hv1, hcall⟩ := h
  have hq : ∀ tv, (tv = .none ∨ tv = .ref T) → wpAny (model prog w) A (withItem.marked (.ref a) (Code.call (Value.ref fx) { pos := [Value.ref x] ++ [cls, .ref a, tv] })) (fun u s4 => u = .none ∧ wpAny (model prog w) A (PySem.passOn "with" (.ref a) env : Sem Flow) Q E s4) E s := fun tv htv => by
    unfold withItem.marked
    refine wpAny_bind (wpAny_run (codeAny_mono (hcall tv htv) fun r s4 hr => ?_))
    cases r with
    | error e' => exact hr
    | ok f =>
      cases f with
      | ret u => exact wpAny_pure hr
      | next => exact False.elim hr
      | brk => exact False.elim hr
      | cont => exact False.elim hr
  have htl : ∀ tv, (tv = .none ∨ tv = .ref T) → wpAny (model prog w) A (do
              let r ← withItem.marked (.ref a) (Code.call (Value.ref fx) { pos := [Value.ref x] ++ [cls, .ref a, tv] })
              let r ← pure r
              match r with
                | Value.none => do
                  let swallow ← pure false
                  if swallow = true then do
                      rule "with.exit-swallows"
                      setFlight (.ref a) none
                      pure Flow.next
                    else PySem.passOn "with" (.ref a) env
                | Value.bool b => do
                  let swallow ← pure b
                  if swallow = true then do
                      rule "with.exit-swallows"
                      setFlight (.ref a) none
                      pure Flow.next
                    else PySem.passOn "with" (.ref a) env
                | x => do
                  let c2 ← withItem.marked (.ref a) (Code.call (Value.type "bool") { pos := [r] })
                  let swallow ← pure (c2 == Value.bool true)
                  if swallow = true then do
                      rule "with.exit-swallows"
                      setFlight (.ref a) none
                      pure Flow.next
                    else PySem.passOn "with" (.ref a) env) Q E s := fun tv htv => by
    refine wpAny_bind (wpAny_mono (hq tv htv) (fun u s4 hu => ?_) fun _ _ z => z)
    obtain ⟨eu, hp⟩ := hu
    subst eu
    exact wpAny_bind (wpAny_pure (wpAny_bind (wpAny_pure hp)))
  refine wpAny_holding (wpAny_bind (wpAny_typeOf_ref ha ?_))
  rw [hc]
  refine wpAny_bind ?_
  unfold tracebackOf
  refine wpAny_bind (wpAny_field ha hd h1 ?_)
  dsimp only
  refine wpAny_bind (wpAny_field hT hdT hv1 ?_)
  by_cases hn : (v1 == .none) = true
  · rw [if_pos hn]
    exact wpAny_pure (htl _ (.inl rfl))
  · rw [if_neg hn]
    exact wpAny_pure (htl _ (.inr rfl))
/-- a with's item whose manager is an own instance: both ends -/
theorem with_core {b : Value → Sem Unit} {bdy : Sem Flow} {Q : Flow → Shared → Prop} (X : K.In s.heap) (I : InstAt s.heap x ox C od) (he : findIn K (.ref C) "__enter__" = some (some (.ref fe))) (hfe : isFn K (.ref fe) = true)
    (hx : findIn K (.ref C) "__exit__" = some (some (.ref fx))) (hfx : isFn K (.ref fx) = true)
    (h : wpAny (model prog w) A (call (.ref fe) [.ref x]) (fun v s2 => wpAny (model prog w) A (b v) (fun _ s3 => wpAny (model prog w) A bdy (fun f s4 => wpAny (model prog w) A (call (.ref fx) [.ref x, .none, .none, .none]) (fun _ s5 => Q f s5) E s4)
      (Landing prog w A E env fx x Q) s3) (Landing prog w A E env fx x Q) s2) E s) :
    wpAny (model prog w) A (withItem false pos env (pure (.ref x)) (some b) bdy) Q E s := by
  obtain ⟨cd, hcd, ae⟩ := kw_along he
  obtain ⟨cd', hcd', ax⟩ := kw_along hx
  cases hcd.symm.trans hcd'
  obtain ⟨hh, g, d, tt, os⟩ := s
  have L1 : Looks (model prog w) hh (specialOnItsLine (.ref x) "__enter__") (some (.ref fe), cd.mro) := kw_special X I hcd ae
  have L2 : Looks (model prog w) hh (specialOnItsLine (.ref x) "__exit__") (some (.ref fx), cd.mro) := kw_special X I hcd ax
  have L3 : Looks (model prog w) hh (bindSpecial (.ref fe) (.ref x)) (.ref fe, [.ref x]) := bind_fn X _ (beq_iff_eq.mp hfe)
  have L4 : Looks (model prog w) hh (bindSpecial (.ref fx) (.ref x)) (.ref fx, [.ref x]) := bind_fn X _ (beq_iff_eq.mp hfx)
  have L5 : Looks (model prog w) hh (aMethodOfAnotherBuiltinTypeStops (.ref fe) cd.mro) () := Looks.of_pure rfl
  have L6 : Looks (model prog w) hh (aMethodOfAnotherBuiltinTypeStops (.ref fx) cd.mro) () := Looks.of_pure rfl
  unfold withItem
  refine wpAny_bind (wpAny_pure ?_)
  refine wpAny_bind (wpAny_standAt ?_)
  simp only [Bool.false_eq_true, if_false]
  kw_lk
  refine wpAny_mono h (fun v s2 h2 => ?_) fun _ _ z => z
  kw_lk
  refine wpAny_attempt (kw_held ?_)
  show wpAny _ _ (b v >>= fun _ => bdy) _ _ _
  have low : ∀ e s', Landing prog w A E env fx x Q e s' → wpAny (model prog w) A (do
          noteFrame e env
          setFlight e none
          standAt pos
          holding [e] do
              let c ← typeOf e
              let t ← tracebackOf e
              let r ← withItem.marked e (Code.call (Value.ref fx) { pos := [Value.ref x] ++ [c, e, t] })
              let r ← pure r
              match r with
                | Value.none => do
                  let swallow ← pure false
                  if swallow = true then do
                      rule "with.exit-swallows"
                      setFlight e none
                      pure Flow.next
                    else PySem.passOn "with" e env
                | Value.bool b => do
                  let swallow ← pure b
                  if swallow = true then do
                      rule "with.exit-swallows"
                      setFlight e none
                      pure Flow.next
                    else PySem.passOn "with" e env
                | x => do
                  let c2 ← withItem.marked e (Code.call (Value.type "bool") { pos := [r] })
                  let swallow ← pure (c2 == Value.bool true)
                  if swallow = true then do
                      rule "with.exit-swallows"
                      setFlight e none
                      pure Flow.next
                    else PySem.passOn "with" e env) Q E s' := fun e s' hl => by
    refine wpAny_bind (wpAny_mono hl (fun _ s3 h3 => ?_) fun _ _ z => z)
    exact wpAny_bind (wpAny_mono h3 (fun _ s4 h4 => wpAny_bind (wpAny_standAt (exit_asked h4))) fun _ _ z => z)
  refine wpAny_bind (wpAny_mono h2 (fun _ s3 h3 => wpAny_mono h3 (fun f s4 h4 => ?_) fun e s4 z => low e s4 z) fun e s4 z => low e s4 z)
  kw_lk
  refine wpAny_mono h4 (fun _ s5 h5 => ?_) fun _ _ z => z
  kw_lk
  exact h5
end
end Wm
/-! W2 -/
namespace Wm
open PySem PySem.Spec PyProof.Rows L2 L2H
abbrev St := L2.St
/-! ### a def called while an error is handled -/
structure FnS (P : Program) (w : World) (K : PySem.W.Frag) (mg : Str → Option Value) (base : Heap) (k : Nat) (f : Addr) (fd : FuncData) (ps : List Str) (sp : Sp) : Prop where
  len : ∀ vs H Q E, sp vs H Q E → vs.length = ps.length
  run : ∀ (A : Around) (outer : List Env) (s : Shared) (H : Hp) (args : Args) (us : List Value) (vs : List V) (Q : VK) (p : Addr × Obj), RoomH k A → PinOk outer H s p → Env0 P w K mg base A outer s H → BindsTo s fd args (ps.zip us) → Vals vs us → sp vs H Q E0 →
    codeAny (model P w) A (.call (.ref f) args) (CR CX0 outer P w H s Q E0) s
theorem fnS_of {P : Program} {w : World} {K : PySem.W.Frag} {mg : Str → Option Value} {base : Heap} {x qual : Str} {st : Stmt} {f : Addr} {fd : FuncData} {N ps : List Str} {k : Nat} {sp : Sp} (F : Fun K x qual st f fd) (S : FnScope N ps (defScope st))
    (len : ∀ vs H Q E, sp vs H Q E → vs.length = ps.length)
    (hbody : ∀ (cdv : Value) (A : Around) (outer : List Env) (s : Shared) (H : Hp) (vs : List V) (Q : VK) (p : Addr × Obj), RoomH k (A.deeper (envOfC qual (defScope st) s.heap.objs.size f cdv)) → sp vs H Q E0 →
      ∃ t, PSs (cxH CX0 P w K mg base N qual (defScope st) f cdv A outer s H E0 p).nox (defBody st) t ∧ t { nx := fun _ H' => Q .non H', rt := Q } (L2.start N vs) H) :
    FnS P w K mg base (k + 1) f fd ps sp := by
  obtain ⟨oc, od, kV, doc, pm, an, cdv, ct, osl, rfl, lk, hcd⟩ := F.ex
  refine ⟨len, fun A outer s H args us vs Q p hr hpin e0 hb r hsp => ?_⟩
  have hl := len _ _ _ _ hsp
  have KX : K.In s.heap := e0.mod.kin.keeps fun b o e => (e0.bs b o e).1
  have lim : s.heap.NoLimit := e0.mod.nolimit.keeps fun b o e => (e0.bs b o e).1
  have hkind : ∀ y ∈ ps.zip us, (defScope st).names.lookup y.1 = some .local ∨ ((defScope st).names.lookup y.1 = some .cell ∧ ((cellsFrom (s.heap.objs.size + 1) (defScope st).names []).lookup y.1).isSome = true) := fun ⟨n, v⟩ hy => by
    rcases S.par n (List.of_mem_zip hy).1 with q | q
    · exact .inl q
    · exact .inr ⟨q, PySem.W.cellsFrom_some _ _ _ (.inl q)⟩
  refine codeAny_call_function hr.depth (KX _ _ lk) rfl S.co S.gen rfl (PySem.W.codeRec_of KX hcd) (hb _ _ _ _ ?_)
  refine wpAny_newFunctionEnv_cells S.kind hkind fun env he s1 y => ?_
  subst he
  refine ⟨lim.keeps y.toInCall.keep, codeAny_func ?_⟩
  obtain ⟨t, ht, hq⟩ := hbody cdv A outer s H vs Q p (hr.deeper _) hsp
  have I : Inv (cxH CX0 P w K mg base N qual (defScope st) f cdv A outer s H E0 p) [] (L2.start N vs) H s1 := inv_startH S hpin e0 hl r y
  refine wpAny_mono (ht.nox.run [] s1 (L2.start N vs) H _ I hq) (fun fl s' hs => ?_) fun e s' hs => hs
  have fin : ∀ {σ' : L2.St} {H' : Hp} {v : V} {u : Value}, Inv (cxH CX0 P w K mg base N qual (defScope st) f cdv A outer s H E0 p) [] σ' H' s' → L2.RelV v u → Q v H' → CE outer P w H s Q u s' :=
    fun {σ' H' v u} J rv q => ⟨v, H', J.os, J.bare, J.base, J.hok, rv, q⟩
  cases fl with
  | ret u =>
    obtain ⟨v, σ', H', J, rv, q⟩ := hs
    exact fin J rv q
  | next =>
    obtain ⟨σ', H', J, q⟩ := hs
    exact fin (v := V.non) (u := Value.none) J rfl q
  | brk =>
    obtain ⟨_, _, _, q⟩ := hs
    exact False.elim q
  | cont =>
    obtain ⟨_, _, _, q⟩ := hs
    exact False.elim q

/-! ### an error that was looked at goes on -/
section
variable {X : Cx} {pins : List (Addr × Obj)} {σ : St} {H : Hp} {s : Shared} {Wout : WX}
theorem air_again {Q : Flow → Shared → Prop} {what : String} {a T : Addr} {oe oT : Obj} {vs ts : Array Value} {cls : Value} {d : Option Addr} (hs : X.stack = X.env :: X.outer) (hf : X.env.frame = some X.env.locals) (tk : Takes X Wout)
    (J : Inv X pins σ H s) (ga : s.heap.get? a = some oe) (hz : Zc cls d oe) (hd : oe.data = .fields vs) (hv1 : vs[1]? = some (.ref T)) (hTe : T ≠ a) (gT : s.heap.get? T = some oT) (hdT : oT.data = .fields ts) (ht3 : ts[3]? = some .none)
    (na : H a = none) (nT : H T = none) (far0 : ∀ b o, X.s_0.heap.get? b = some o → b ≠ a ∧ b ≠ T) (farP : ∀ p ∈ X.pn ++ pins, p.1 ≠ a ∧ p.1 ≠ T) (q : Wout cls d σ H) :
    wpAny (model X.prog X.w) X.A (PySem.passOn what (.ref a) X.env : Sem Flow) Q X.xe s := by
  obtain ⟨G, g1, g2⟩ := restrict s.heap fun b => !(decide (b = a) || decide (b = T))
  have gIn : ∀ b o, G.get? b = some o → s.heap.get? b = some o ∧ b ≠ a ∧ b ≠ T := fun b o e => by
    cases z : (!(decide (b = a) || decide (b = T))) with
    | false =>
      rw [g2 b z] at e
      cases e
    | true =>
      rw [g1 b z] at e
      simp only [Bool.not_eq_true', Bool.or_eq_false_iff, decide_eq_false_iff_not] at z
      exact ⟨e, z.1, z.2⟩
  have gOf : ∀ b o, b ≠ a → b ≠ T → s.heap.get? b = some o → G.get? b = some o := fun b o h1 h2 e => by
    rw [g1 b (by simp [h1, h2])]
    exact e
  have I6 : Inv X pins σ H { s with heap := G } := J.less (fun b o e => (gIn b o e).1) gOf ⟨oe, vs, ga, hd⟩ ⟨oT, ts, gT, hdT⟩ na nT far0 farP
  have Bin : ∀ b o, (PySem.W.hideAll G (frs X.stack)).get? b = some o → s.heap.get? b = some o := fun b o e => (gIn b o (PySem.W.of_hideAll _ e)).1
  have Bno : ∀ b, (b = a ∨ b = T) → (PySem.W.hideAll G (frs X.stack)).get? b = none := fun b hb => by
    cases z : (PySem.W.hideAll G (frs X.stack)).get? b with
    | none => rfl
    | some o =>
      obtain ⟨_, n1, n2⟩ := gIn b o (PySem.W.of_hideAll _ z)
      rcases hb with y | y
      · exact absurd y n1
      · exact absurd y n2
  have fl : HandSPX.FlyingZ (PySem.W.hideAll G (frs X.stack)) (X.env :: X.outer) a (Zc cls d) s.heap := by
    refine ⟨Bin, Bno a (.inl rfl), ?_, oe, vs, T, oT, ts, ga, hz, hd, hv1, Bno T (.inr rfl), hTe, gT, hdT, ht3⟩
    have ff := funFrames_none (B := PySem.W.hideAll G (frs X.stack)) J.stack fun b hb => PySem.W.hideAll_none _ hb
    rw [← hs]
    exact ff
  unfold PySem.passOn
  refine wpAny_bind (wpAny_field ga hd hv1 ?_)
  rw [if_neg (show ¬ ((Value.ref T == Value.none) = true) from by simp)]
  have goOn : wpAny (model X.prog X.w) X.A (setFlight (.ref a) X.env.frame) (fun _ s7 => wpAny (model X.prog X.w) X.A (throw (.ref a) : Sem Flow) Q X.xe s7) X.xe s := by
    rw [hf]
    refine HandSPX.setFlight_upZ fl fun h7 hh7 up7 => wpAny_throw (tk _ _ ?_)
    refine ⟨a, PySem.W.hideAll G (frs X.stack), { s with heap := G }, pins, σ, H, cls, d, rfl, I6, fun b o e hb => PySem.W.hideAll_get _ e hb, ?_, .inr (.inr (by rw [← hs] at hh7; exact hh7)), na, rfl, J.bare, q⟩
    exact Heap.UpToSlots.trans (Heap.UpToSlots.of_keeps fun b o e => (gIn b o e).1) up7
  first
    | exact wpAny_bind (wpAny_pure (wpAny_bind goOn))
    | exact wpAny_bind goOn
end

/-! ### with ctx as y: body -/
/-- what is wished of the body's errors: the exit hands back None, on they go -/
def wEx (spX : Sp) (a : Addr) (Wout : WX) : WX := fun cls d σ H => ∃ vc, RelV vc cls ∧ ∀ ve vt, spX [.ref a, vc, ve, vt] H (fun v H' => v = .non ∧ Wout cls d σ H') E0
def tWith (C : Addr) (spE spX : Sp) (i : Nat) (te : TE) (tb : WX → TS) (Wout : WX) : TS := fun D σ H => te σ H fun x H1 => ∃ a dx fs, x = .ref a ∧ H1 a = some (.ins C dx fs) ∧
  spE [.ref a] H1 (fun v H2 => tb (wEx spX a Wout) { nx := fun σ' H' => spX [.ref a, .non, .non, .non] H' (fun _ H3 => D.nx σ' H3) E0, rt := fun r H' => spX [.ref a, .non, .non, .non] H' (fun _ H3 => D.rt r H3) E0, bk := fun σ' H' => spX [.ref a, .non, .non, .non] H' (fun _ H3 => D.bk σ' H3) E0, ct := fun σ' H' => spX [.ref a, .non, .non, .non] H' (fun _ H3 => D.ct σ' H3) E0 } (σ.set i (some v)) H2) E0
section
variable {X : Cx} {C fe fx : Addr} {fdE fdX : FuncData} {psE psX : List Str} {spE spX : Sp} {k i : Nat} {y : Str} {py pos : Pos} {ctx : Expr} {body : List Stmt} {te : TE} {tb : WX → TS} {Wout : WX}
theorem ps_with (hs : X.stack = X.env :: X.outer) (hf : X.env.frame = some X.env.locals) (hex : X.ex = []) (tk : Takes X Wout) (hN : X.N.Nodup) (hi : X.N[i]? = some y) (hy : X.env.scope.names.lookup y = some .local) (he : PE X ctx te)
    (mE : Meth X.K C "__enter__" fe) (FE : FnOk X.prog X.w X.K X.mg X.base CX0 k fe fdE psE spE) (bE : Binds X.K fdE psE []) (mX : Meth X.K C "__exit__" fx) (FX : FnOk X.prog X.w X.K X.mg X.base CX0 k fx fdX psX spX) (bX : Binds X.K fdX psX [])
    (SX : FnS X.prog X.w X.K X.mg X.base k fx fdX psX spX) (hr : Room k X.A)
    (hb : ∀ (W : WX) (pn : List (Addr × Obj)) (xe : Value → Shared → Prop), Takes (X.tr pn xe) W → PassesOwn (model X.prog X.w) X.A X.env xe → PSs (X.tr pn xe) body (tb W)) :
    PS X (.With [⟨ctx, some (.Name y py)⟩] body pos) (tWith C spE spX i te tb Wout) := by
  refine ⟨fun pins s σ H D I h => ?_⟩
  have hfr : X.A.frames = some (X.env :: X.outer) := by rw [I.ok.frames, hs]
  refine PySem.W.kw_execN (thn (he.run pins s σ H _ I h) fun u s1 ⟨x, H1, I1, r1, a, dx, fs, ex, ea, h1⟩ => ?_)
  subst ex
  obtain rfl : u = Value.ref a := r1
  obtain ⟨mA, O, _, _, _, _⟩ := ins_get I1.hok ea
  obtain ⟨od, J, _⟩ := O.look
  unfold PySem.W.KwIn
  refine with_core (b := assign (.Name y py) X.env) I1.kIn J mE.at_ mE.fn mX.at_ mX.fn ?_
  refine thn (run_fn (dvs := []) (vs := [.ref a]) (us := [.ref a]) (E := E0) FE hr bE .nil pass0 I1 (.cons (show RelV (.ref a) (.ref a) from rfl) .nil) h1) fun v s2 ⟨vv, H2, I2, rv, q2⟩ => ?_
  refine wpAny_assign_Name (store_ok I2 hN hi (.inl hy) rv (fun s3 I3 => ?_) (.inr hy))
  have ok := I3.ok
  have leave : ∀ {σ' : St} {H' : Hp} {s4 : Shared} {Q4 : Hp → Prop}, Inv X pins σ' H' s4 → spX [.ref a, .non, .non, .non] H' (fun _ H3 => Q4 H3) E0 →
      wpAny (model X.prog X.w) X.A (call (.ref fx) [.ref a, .none, .none, .none]) (fun _ s5 => ∃ H3, Inv X pins σ' H3 s5 ∧ Q4 H3) X.xe s4 := fun {σ' H' s4 Q4} J4 q4 =>
    thn (run_fn (dvs := []) (vs := [.ref a, .non, .non, .non]) (us := [.ref a, .none, .none, .none]) (E := E0) FX hr bX .nil pass0 J4 (.cons (show RelV (.ref a) (.ref a) from rfl) (.cons (show RelV .non .none from rfl) (.cons (show RelV .non .none from rfl) (.cons (show RelV .non .none from rfl) .nil)))) q4) fun _ s5 ⟨_, H3, I5, _, q5⟩ => ⟨H3, I5, q5⟩
  refine wpAny_mono ((hb (wEx spX a Wout) (X.pn ++ pins) (Landing X.prog X.w X.A X.xe X.env fx a (SP X pins D)) (fun u s' xx => ?_) PassesOwn.looking).run [] s3 _ H2 _ (I3.toTry _) q2) (fun f s4 hsp => ?_) (fun e s4 z => z)
  · -- an error of the body
    obtain ⟨b, B, sI, pins', σ', H', cls, d, rfl, J', nb, up, sky, na, os, ag, vc, rvc, hw⟩ := xx
    have Jx : Inv X pins σ' H' sI := J'.ofTry ok
    have sky' : Sky B (X.env :: X.outer) b (Zc cls d) X.env.locals s'.heap := by rw [← hs]; exact sky
    show wpAny (model X.prog X.w) X.A (noteFrame (.ref b) X.env) _ _ _
    refine Sky.land Zc.steady hfr hf sky' fun h3 fl3 up3 => ?_
    have J3 : Inv X pins σ' H' { s' with heap := h3 } := Jx.landed nb fl3.1 (up.trans up3) os ag
    obtain ⟨k1, k2, k3, oe, vs, T, oT, ts, he3, hz, hd, hv1, hnT, hTe, hT, hdT, ht3⟩ := id fl3
    have nT : H' T = none := (Jx.inGround nb).gone hnT
    have notFr : ∀ (c : Addr) (o : Obj) (fv : Array Value), h3.get? c = some o → o.data = .fields fv → c ∉ frs X.stack := fun c o fv e dd hm => by
      rw [hs] at hm
      obtain ⟨_, o', e', hnf⟩ := k3.mem hm
      have eo : o = o' := Option.some.inj (e.symm.trans e')
      rw [← eo] at hnf
      exact hnf _ dd
    have fa := notFr b oe vs he3 hd
    have fT := notFr T oT ts hT hdT
    have h13 : ∃ v1, ts[1]? = some v1 := by
      have z : 3 < ts.size := (Array.getElem?_eq_some_iff.mp ht3).1
      exact ⟨ts[1]'(by omega), Array.getElem?_eq_getElem (by omega)⟩
    obtain ⟨v1, hv1'⟩ := h13
    refine ⟨b, T, cls, oe, oT, vs, ts, v1, rfl, he3, hz.1, hd, hv1, hT, hdT, hv1', fun tv htv => ?_⟩
    have hrt : ∃ vt, RelV vt tv := by
      rcases htv with z | z
      · exact ⟨.non, z⟩
      · exact ⟨.ref T, z⟩
    obtain ⟨vt, rvt⟩ := hrt
    have e0 : Env0 X.prog X.w X.K X.mg X.base (X.A.mark (some (.ref b))) X.stack { s' with heap := h3 } H' := let e := J3.env0; ⟨e.frames, e.mod, e.bs, e.bsz, e.funs, e.frf, e.hok, e.bare⟩
    have hpin : PinOk X.stack H' { s' with heap := h3 } (b, oe) := ⟨he3, na, fa, fun v z => by
      have z' : oe.data = .cell v := z
      rw [hd] at z'
      cases z'⟩
    have rV : Vals [V.ref a, vc, .ref b, vt] [Value.ref a, cls, .ref b, tv] := .cons (show RelV (.ref a) (.ref a) from rfl) (.cons rvc (.cons (show RelV (.ref b) (.ref b) from rfl) (.cons rvt .nil)))
    have hspX := hw (.ref b) vt
    have hl4 : ([Value.ref a, cls, .ref b, tv] : List Value).length = psX.length := by rw [← rV.length]; exact FX.len _ _ _ _ hspX
    have bnd := bX { s' with heap := h3 } [Value.ref a, cls, .ref b, tv] J3.kIn (by rw [List.append_nil]; exact hl4)
    rw [List.append_nil] at bnd
    have hrH : RoomH k (X.A.mark (some (.ref b))) := ⟨hr.dp, hr.un⟩
    refine codeAny_mono (SX.run (X.A.mark (some (.ref b))) X.stack _ H' _ _ _ _ (b, oe) hrH hpin e0 bnd rV hspX) fun r s6 hq => ?_
    cases r with
    | error e => exact False.elim hq
    | ok fl =>
      cases fl with
      | next => exact False.elim hq
      | brk => exact False.elim hq
      | cont => exact False.elim hq
      | ret u =>
        obtain ⟨v6, H6, os6, bare6, un6, hok6, rv6, ev6, q6⟩ := (show CE X.stack X.prog X.w H' { s' with heap := h3 } _ u s6 from hq)
        subst ev6
        have J6 : Inv X pins σ' H6 s6 := J3.call' (ch := []) os6 un6 hok6 bare6 (fun _ z => nomatch z)
        obtain rfl : u = Value.none := rv6
        have ga : s6.heap.get? b = some oe := un6.keep b oe he3 na fa (by simp)
        have gT : s6.heap.get? T = some oT := un6.keep T oT hT nT fT (by simp)
        have far : ∀ c o, sI.heap.get? c = some o → c ≠ b ∧ c ≠ T := fun c o e => by
          by_cases hc : c ∈ frs X.stack
          · exact ⟨fun z => fa (by rw [← z]; exact hc), fun z => fT (by rw [← z]; exact hc)⟩
          · have q := nb c o e hc
            exact ⟨fun z => by
              rw [z, k2] at q
              exact (nomatch q), fun z => by
              rw [z, hnT] at q
              cases q⟩
        have far0 : ∀ c o, X.s_0.heap.get? c = some o → c ≠ b ∧ c ≠ T := fun c o e => by
          obtain ⟨o', q⟩ := Jx.base.there c o e (by rw [hex]; simp)
          exact far c o' q
        have farP : ∀ p ∈ X.pn ++ pins, p.1 ≠ b ∧ p.1 ≠ T := fun p hp => far p.1 p.2 (Jx.pin p hp).1
        exact ⟨rfl, air_again hs hf tk J6 ga hz hd hv1 hTe gT hdT ht3 (un6.free b oe he3 na (by simp)) (un6.free T oT hT nT (by simp)) far0 farP q6⟩
  · cases f with
    | next =>
      obtain ⟨σ', H', J', q⟩ := hsp
      exact thn (leave (J'.ofTry ok) q) fun _ s5 ⟨H3, I5, q5⟩ => ⟨σ', H3, I5, q5⟩
    | brk =>
      obtain ⟨σ', H', J', q⟩ := hsp
      exact thn (leave (J'.ofTry ok) q) fun _ s5 ⟨H3, I5, q5⟩ => ⟨σ', H3, I5, q5⟩
    | cont =>
      obtain ⟨σ', H', J', q⟩ := hsp
      exact thn (leave (J'.ofTry ok) q) fun _ s5 ⟨H3, I5, q5⟩ => ⟨σ', H3, I5, q5⟩
    | ret u =>
      obtain ⟨v, σ', H', J', r, q⟩ := hsp
      exact thn (leave (Q4 := fun H3 => D.rt v H3) (J'.ofTry ok) q) fun _ s5 ⟨H3, I5, q5⟩ => ⟨v, σ', H3, I5, r, q5⟩
end
end Wm
/-! W3 -/
namespace Wm
open PySem PySem.Spec PyProof.Rows L2 LamX NdefX
/-! ### cells that are known while a callee runs -/
def frzd (h : Heap) (cs : List Addr) (H : Hp) : Hp := fun b => if b ∈ cs then (h.get? b).map (fun o => HO.frz o (.own 0)) else H b
def thaw (cs : List Addr) (H : Hp) : Hp := fun b => if b ∈ cs then none else H b
def refr (cs : List Addr) (H H' : Hp) : Hp := fun b => if b ∈ cs then H b else H' b
theorem frzd_in {h : Heap} {cs : List Addr} {H : Hp} {b : Addr} {o : Obj} (hb : b ∈ cs) (e : h.get? b = some o) : frzd h cs H b = some (.frz o (.own 0)) := by
  unfold frzd
  rw [if_pos hb, e]
  rfl
theorem frzd_out {h : Heap} {cs : List Addr} {H : Hp} {b : Addr} (hb : b ∉ cs) : frzd h cs H b = H b := if_neg hb
theorem thaw_in {cs : List Addr} {H : Hp} {b : Addr} (hb : b ∈ cs) : thaw cs H b = none := if_pos hb
theorem thaw_out {cs : List Addr} {H : Hp} {b : Addr} (hb : b ∉ cs) : thaw cs H b = H b := if_neg hb
theorem refr_in {cs : List Addr} {H H' : Hp} {b : Addr} (hb : b ∈ cs) : refr cs H H' b = H b := if_pos hb
theorem refr_out {cs : List Addr} {H H' : Hp} {b : Addr} (hb : b ∉ cs) : refr cs H H' b = H' b := if_neg hb
section
variable {P : Program} {w : World} {H H' : Hp} {h h' : Heap} {cs : List Addr} {outer : List Env} {s s' : Shared} {Q : VK} {u : Value}
theorem hok_frzd (ok : HOk P w H h) (hc : ∀ c ∈ cs, H c = none) : HOk P w (frzd h cs H) h := fun b x e => by
  have nin : ∀ c y, H c = some y → c ∉ cs := fun c y q z => by
    rw [hc c z] at q
    cases q
  by_cases hb : b ∈ cs
  · unfold frzd at e
    rw [if_pos hb] at e
    cases q : h.get? b with
    | none =>
      rw [q] at e
      cases e
    | some o =>
      rw [q] at e
      cases e
      exact ⟨q, o, q⟩
  · rw [frzd_out hb] at e
    exact (ok b x e).stay (fun _ _ _ q => q) (fun c q => by rw [frzd_out (nin c _ q)]; exact q) fun c xs q => by rw [frzd_out (nin c _ q)]; exact q
theorem hok_thaw (ok : HOk P w H h) (hc : ∀ c ∈ cs, ∃ o, H c = some (.frz o (.own 0))) : HOk P w (thaw cs H) h := fun b x e => by
  by_cases hb : b ∈ cs
  · rw [thaw_in hb] at e
    cases e
  · rw [thaw_out hb] at e
    refine (ok b x e).stay (fun _ _ _ q => q) (fun c q => ?_) fun c xs q => ?_
    · rw [thaw_out fun z => ?_]
      · exact q
      · obtain ⟨o, y⟩ := hc c z
        rw [q] at y
        cases y
    · rw [thaw_out fun z => ?_]
      · exact q
      · obtain ⟨o, y⟩ := hc c z
        rw [q] at y
        cases y
/-- behind a call that ran with frozen cells -/
theorem ce_thaw (hc : ∀ c ∈ cs, H c = none ∧ c ∉ frs outer ∧ ∃ o v, s.heap.get? c = some o ∧ o.data = .cell v) (x : CE outer P w (frzd s.heap cs H) s Q u s') : CE outer P w H s (fun v H4 => ∃ H3, H4 = thaw cs H3 ∧ (∀ c ∈ cs, ∃ o v, o.data = .cell v ∧ H3 c = some (.frz o (.own 0))) ∧ Q v H3) u s' := by
  obtain ⟨v, H3, os, bare, un, hok, rv, q⟩ := x
  have nin : ∀ c y, H c = some y → c ∉ cs := fun c y q z => by
    rw [(hc c z).1] at q
    cases q
  have fz : ∀ c o, c ∈ cs → s.heap.get? c = some o → H3 c = some (.frz o (.own 0)) := fun c o hb e => un.frzs c o _ (frzd_in hb e)
  have fg : ∀ c o, c ∈ cs → s.heap.get? c = some o → s'.heap.get? c = some o := fun c o hb e => (hok c _ (fz c o hb e)).1
  refine ⟨v, thaw cs H3, os, bare, ⟨fun b o e n hb hx => ?_, fun b o e n hb hx => ?_, fun b o e n hx => ?_, un.there, fun b xs e => ?_, fun b o y e => ?_, fun b ps e => ?_⟩, hok_thaw hok fun c hb => ?_, rv, H3, rfl, fun c hb => ?_, q⟩
  · by_cases hbc : b ∈ cs
    · exact fg b o hbc e
    · exact un.keep b o e (by rw [frzd_out hbc]; exact n) hb hx
  · exact un.slot b o e (by rw [frzd_out fun z => (hc b z).2.1 hb]; exact n) hb hx
  · by_cases hbc : b ∈ cs
    · exact thaw_in hbc
    · rw [thaw_out hbc]
      exact un.free b o e (by rw [frzd_out hbc]; exact n) hx
  · rw [thaw_out (nin b _ e)]
    exact un.tups b xs (by rw [frzd_out (nin b _ e)]; exact e)
  · rw [thaw_out (nin b _ e)]
    exact un.frzs b o y (by rw [frzd_out (nin b _ e)]; exact e)
  · rw [thaw_out (nin b _ e)]
    exact un.tbls b ps (by rw [frzd_out (nin b _ e)]; exact e)
  · obtain ⟨o, v, e, _⟩ := (hc c hb).2.2
    exact ⟨o, fz c o hb e⟩
  · obtain ⟨o, v, e, hd⟩ := (hc c hb).2.2
    exact ⟨o, v, hd, fz c o hb e⟩
/-- behind a body that ran with thawed cells -/
theorem ce_refr (hc : ∀ c ∈ cs, ∃ o, H c = some (.frz o (.own 0))) (ok : HOk P w H s.heap) (hf : ∀ b ∈ frs outer, H b = none) (x : CE outer P w (thaw cs H) s (fun v H' => (∀ c ∈ cs, H' c = none) → Q v (refr cs H H')) u s') : CE outer P w H s Q u s' := by
  obtain ⟨v, H3, os, bare, un, hok, rv, q⟩ := x
  have nin : ∀ c, H c = none → c ∉ cs := fun c q z => by
    obtain ⟨o, y⟩ := hc c z
    rw [q] at y
    cases y
  have cin : ∀ c, c ∈ cs → H3 c = none := fun c hb => by
    obtain ⟨o, y⟩ := hc c hb
    exact un.free c o (ok c _ y).1 (thaw_in hb) (by simp)
  refine ⟨v, refr cs H H3, os, bare, ⟨fun b o e n hb hx => ?_, fun b o e n hb hx => ?_, fun b o e n hx => ?_, un.there, fun b xs e => ?_, fun b o y e => ?_, fun b ps e => ?_⟩, fun b y e => ?_, rv, q cin⟩
  · exact un.keep b o e (by rw [thaw_out (nin b n)]; exact n) hb hx
  · exact un.slot b o e (by rw [thaw_out (nin b n)]; exact n) hb hx
  · rw [refr_out (nin b n)]
    exact un.free b o e (by rw [thaw_out (nin b n)]; exact n) hx
  · have hb : b ∉ cs := fun z => by
      obtain ⟨o, y⟩ := hc b z
      rw [e] at y
      cases y
    rw [refr_out hb]
    exact un.tups b xs (by rw [thaw_out hb]; exact e)
  · by_cases hb : b ∈ cs
    · rw [refr_in hb]
      exact e
    · rw [refr_out hb]
      exact un.frzs b o y (by rw [thaw_out hb]; exact e)
  · have hb : b ∉ cs := fun z => by
      obtain ⟨o, y⟩ := hc b z
      rw [e] at y
      cases y
    rw [refr_out hb]
    exact un.tbls b ps (by rw [thaw_out hb]; exact e)
  · by_cases hb : b ∈ cs
    · rw [refr_in hb] at e
      obtain ⟨o, y⟩ := hc b hb
      rw [y] at e
      cases e
      have g : s'.heap.get? b = some o := un.keep b o (ok b _ y).1 (thaw_in hb) (fun z => by
        rw [hf b z] at y
        cases y) (by simp)
      exact ⟨g, o, g⟩
    · rw [refr_out hb] at e
      refine (hok b y e).stay (fun _ _ _ q => q) (fun c q => ?_) fun c xs q => ?_
      · rw [refr_out fun z => ?_]
        · exact q
        · rw [cin c z] at q
          cases q
      · rw [refr_out fun z => ?_]
        · exact q
        · rw [cin c z] at q
          cases q
end

/-! ### code objects and their tables, exactly -/
def CodeObjOk (oc : Obj) (q : Str) (P : Addr) : Prop := ∃ vs file tf flags tg inF text tt tq, oc.cls = .type "code" ∧ oc.data = .fields vs ∧ vs[1]? = some (.str q tq) ∧ vs[11]? = some (.ref P) ∧ vs.getD 11 .none = .ref P ∧ vs.getD 18 .none = .str file tf ∧
  vs.getD 7 .none = .int flags tg ∧ vs.getD 9 .none = .bool inF ∧ vs.getD 10 .none = .int text tt
def CodeT (H : Hp) (c : Addr) (q : Str) (P : Addr) : Prop := ∃ oc, H c = some (.frz oc (.own 0)) ∧ CodeObjOk oc q P ∧ c ≠ P
theorem CodeT.hd {P' : Program} {w : World} {H : Hp} {h : Heap} {c P : Addr} {q : Str} (x : CodeT H c q P) (ok : HOk P' w H h) : PySem.W.CodeHd h c P := by
  obtain ⟨oc, e, ⟨vs, file, tf, flags, tg, inF, text, tt, tq, a1, a2, a3, a4, a5, a6, a7, a8, a9⟩, n⟩ := x
  exact ⟨oc, vs, file, tf, flags, tg, inF, text, tt, (ok c _ e).1, a1, a2, a4, a5, a6, a7, a8, a9, n⟩
theorem CodeT.rc {P' : Program} {w : World} {H : Hp} {h : Heap} {c P : Addr} {q : Str} (x : CodeT H c q P) (ok : HOk P' w H h) : h.CodeRec (.ref c) q := by
  obtain ⟨oc, e, ⟨vs, file, tf, flags, tg, inF, text, tt, tq, a1, a2, a3, a4, a5, a6, a7, a8, a9⟩, n⟩ := x
  exact ⟨c, oc, vs, tq, rfl, (ok c _ e).1, a2, a3⟩
theorem CodeT.ext {H H' : Hp} {c P : Addr} {q : Str} (x : CodeT H c q P) (e : ExtN H H') : CodeT H' c q P := by
  obtain ⟨oc, a, b⟩ := x
  exact ⟨oc, e _ _ a (fun ps z => by cases z), b⟩
/-- the table at P: each code object that it tells is R -/
def TabR (H : Hp) (P : Addr) (R : Addr → Prop) : Prop := ∃ ps : Array Value, H P = some (.tbl ps) ∧ TriplesOk ps.toList ∧ ∀ (pos : Pos) (cv : Value), codeAmong pos ps.toList = some cv → ∃ c, cv = .ref c ∧ R c
theorem TabR.nil {H : Hp} {P : Addr} {R : Addr → Prop} (h : H P = some (.tbl #[])) : TabR H P R := ⟨#[], h, True.intro, fun pos cv hc => by
  have z : codeAmong pos [] = some cv := hc
  simp [codeAmong] at z⟩
theorem TabR.ext {H H' : Hp} {P : Addr} {R R' : Addr → Prop} (x : TabR H P R) (e : H' P = H P) (r : ∀ c, R c → R' c) : TabR H' P R' := by
  obtain ⟨ps, h1, h2, h3⟩ := x
  refine ⟨ps, e.trans h1, h2, fun pos cv hc => ?_⟩
  obtain ⟨c, e1, e2⟩ := h3 pos cv hc
  exact ⟨c, e1, r c e2⟩
/-- a table of lambdas that make no lambda -/
def Tab0 (H : Hp) (P : Addr) (q : Str) : Prop := TabR H P fun c => ∃ P2, CodeT H c q P2 ∧ P2 ≠ P
/-- a table of lambdas whose own tables are such -/
def Tab1 (H : Hp) (P : Addr) (q q2 : Str) : Prop := TabR H P fun c => ∃ P2, CodeT H c q P2 ∧ P2 ≠ P ∧ Tab0 H P2 q2
theorem Tab0.keep {H H' : Hp} {P : Addr} {q : Str} (x : Tab0 H P q) (e : ExtN H H') (eP : H' P = H P) : Tab0 H' P q := TabR.ext x eP fun c ⟨P2, a, b⟩ => ⟨P2, a.ext e, b⟩
end Wm
/-! W4 -/
namespace Wm
open PySem PySem.Spec PyProof.Rows L2 LamX NdefX
/-! ### a lambda that stands in the heap -/
/-- at f stands the lambda (params, body, scope), cl its cells, c' its code object with the table P2 -/
def LamAt (H : Hp) (f : Addr) (params : Arguments) (body : Expr) (scope : Scope) (q : Str) (cl : List (Str × Addr)) (c' P2 : Addr) : Prop :=
  (∃ pm ctv, H f = some (.frz (PySem.W.kla_obj "<lambda>" q params body scope cl pm c' ctv) (.own 0))) ∧ CodeT H c' q P2
/-- its cells hold ws -/
structure CloAt (H : Hp) (f : Addr) (params : Arguments) (body : Expr) (scope : Scope) (q : Str) (fr : List Str) (ws : List V) (cl : List (Str × Addr)) (c' P2 : Addr) : Prop where
  lam : LamAt H f params body scope q cl c' P2
  inj : ∀ x y c, cl.lookup x = some c → cl.lookup y = some c → x = y
  len : ws.length = fr.length
  has : ∀ (i : Nat) (y : Str), fr[i]? = some y → ∃ c o u v, cl.lookup y = some c ∧ ws[i]? = some v ∧ L2.RelV v u ∧ o.data = .cell (some u) ∧ H c = some (.frz o (.own 0))
  dom : ∀ y c, cl.lookup y = some c → y ∈ fr
theorem LamAt.ext {H H' : Hp} {f : Addr} {params : Arguments} {body : Expr} {scope : Scope} {q : Str} {cl : List (Str × Addr)} {c' P2 : Addr} (x : LamAt H f params body scope q cl c' P2) (e : ExtN H H') : LamAt H' f params body scope q cl c' P2 := by
  obtain ⟨⟨pm, ctv, h⟩, c⟩ := x
  exact ⟨⟨pm, ctv, e _ _ h (fun ps z => by cases z)⟩, c.ext e⟩
theorem CloAt.ext {H H' : Hp} {f : Addr} {params : Arguments} {body : Expr} {scope : Scope} {q : Str} {fr : List Str} {ws : List V} {cl : List (Str × Addr)} {c' P2 : Addr} (x : CloAt H f params body scope q fr ws cl c' P2) (e : ExtN H H') :
    CloAt H' f params body scope q fr ws cl c' P2 :=
  ⟨x.lam.ext e, x.inj, x.len, fun i y h => by
    obtain ⟨c, o, u, v, h1, h2, h3, h4, h5⟩ := x.has i y h
    exact ⟨c, o, u, v, h1, h2, h3, h4, e _ _ h5 (fun ps z => by cases z)⟩, x.dom⟩
abbrev lamF (q : Str) (params : Arguments) (scope : Scope) (cl : List (Str × Addr)) (c' : Addr) : NF := ⟨"<lambda>", q, params, [], scope, cl, c'⟩
theorem mem_snd {l : List (Str × Addr)} {c : Addr} (h : c ∈ l.map (·.2)) (hd : (l.map (·.1)).Nodup) : ∃ y, l.lookup y = some c := by
  induction l with
  | nil => simp at h
  | cons p r ih =>
    obtain ⟨k, v⟩ := p
    rw [List.map_cons] at h hd
    rcases List.mem_cons.mp h with z | z
    · exact ⟨k, by rw [z]; simp [List.lookup]⟩
    · obtain ⟨y, e⟩ := ih z (List.nodup_cons.mp hd).2
      refine ⟨y, ?_⟩
      have ny : (y == k) = false := by
        apply beq_eq_false_iff_ne.mpr
        intro q
        subst q
        exact (List.nodup_cons.mp hd).1 (List.mem_map.mpr ⟨(y, c), PySem.mem_of_lookup e, rfl⟩)
      simp only [List.lookup, ny]
      exact e
/-- the cells of a closure -/
def clocs (cl : List (Str × Addr)) (fr : List Str) : List Addr := fr.filterMap fun y => cl.lookup y
theorem mem_clocs {cl : List (Str × Addr)} {fr : List Str} {c : Addr} : c ∈ clocs cl fr ↔ ∃ y ∈ fr, cl.lookup y = some c := List.mem_filterMap
section
variable {P : Program} {w : World} {K : PySem.W.Frag} {mg : Str → Option Value} {base : Heap} {N ps fr : List Str} {f : Addr} {k : Nat} {params : Arguments} {body : Expr} {scope : Scope} {q : Str} {ws : List V} {cl : List (Str × Addr)} {c' P2 : Addr}
  {A : Around} {outer : List Env} {s : Shared} {H : Hp} {us : List Value} {vs : List V} {Q : VK}
/-- THE RULE of a lambda called: its body, the cells thawed -/
theorem clo_run (S : NScope N ps fr scope) (hbind : ∀ (cl : List (Str × Addr)) (pm cv ctv : Value) (us : List Value), us.length = ps.length → bindArgs (PySem.W.kla_fn "<lambda>" q params body scope cl pm cv ctv) ⟨us, []⟩ = pure (ps.zip us))
    (C : CloAt H f params body scope q fr ws cl c' P2) (hr : Room (k + 1) A) (e0 : Env0 P w K mg base A outer s H) (r : Vals vs us) (hl : vs.length = ps.length)
    (hbody : (∀ y c, cl.lookup y = some c → c ∉ frs outer ∧ base.get? c = none) → Room k (A.deeper (envF (lamF q params scope cl c') f s.heap.objs.size)) →
      ∃ t, PE (ncx CX0 P w K mg base N (lamF q params scope cl c') f A outer s (thaw (clocs cl fr) H) E0).nox body t ∧ t (startF N vs (ws.map some)) (thaw (clocs cl fr) H) (fun v H' => (∀ c ∈ clocs cl fr, H' c = none) → Q v (refr (clocs cl fr) H H'))) :
    codeAny (model P w) A (.call (.ref f) ⟨us, []⟩) (CR CX0 outer P w H s Q E0) s := by
  obtain ⟨⟨pm, ctv, ho⟩, hct⟩ := C.lam
  have hcs : ∀ c ∈ clocs cl fr, ∃ o, H c = some (.frz o (.own 0)) := fun c hc => by
    obtain ⟨y, hy, e⟩ := mem_clocs.mp hc
    obtain ⟨i, hi⟩ := List.mem_iff_getElem?.mp hy
    obtain ⟨c1, o, u, v, h1, _, _, _, h5⟩ := C.has i y hi
    rw [e] at h1
    cases h1
    exact ⟨o, h5⟩
  have hin : ∀ y c, cl.lookup y = some c → c ∈ clocs cl fr := fun y c e => mem_clocs.mpr ⟨y, C.dom y c e, e⟩
  have hnf : ∀ y c, cl.lookup y = some c → c ∉ frs outer ∧ base.get? c = none := fun y c e => by
    obtain ⟨o, h⟩ := hcs c (hin y c e)
    refine ⟨fun z => ?_, ?_⟩
    · rw [e0.frf c z] at h
      cases h
    · cases q : base.get? c with
      | none => rfl
      | some ob =>
        rw [(e0.bs c ob q).2] at h
        cases h
  have nin : ∀ b, H b = none → b ∉ clocs cl fr := fun b n z => by
    obtain ⟨o, h⟩ := hcs b z
    rw [n] at h
    cases h
  have okT := hok_thaw e0.hok hcs
  have e1 : Env0 P w K mg base A outer s (thaw (clocs cl fr) H) := ⟨e0.frames, e0.mod, fun b o e => ⟨(e0.bs b o e).1, by
      rw [thaw_out (nin b (e0.bs b o e).2)]
      exact (e0.bs b o e).2⟩, e0.bsz, e0.funs, fun b hb => by
      rw [thaw_out (nin b (e0.frf b hb))]
      exact e0.frf b hb, okT, e0.bare⟩
  have hof : s.heap.get? f = some (PySem.W.kla_obj "<lambda>" q params body scope cl pm c' ctv) := (e0.hok f _ ho).1
  have lim : s.heap.NoLimit := e0.mod.nolimit.keeps fun b o e => (e0.bs b o e).1
  refine codeAny_mono (R := CR CX0 outer P w (thaw (clocs cl fr) H) s (fun v H' => (∀ c ∈ clocs cl fr, H' c = none) → Q v (refr (clocs cl fr) H H')) E0) ?_ fun r s' hq => ?_
  · refine PySem.W.kla_callFunE hr.depth hof rfl S.co S.gen rfl (hct.rc e0.hok) ?_
    rw [hbind cl pm (.ref c') ctv us (by rw [← r.length]; exact hl)]
    refine wpAny_pure (wpAny_newFunctionEnv S.nocell (fun ⟨n, _⟩ hy => S.par n (List.of_mem_zip hy).1) (fun h1 hns hsb => ⟨lim.fresh _ hsb, ?_⟩) S.kind)
    show codeAny _ _ (.expr body (envF (lamF q params scope cl c') f s.heap.objs.size)) _ _
    have kp : ∀ b o, s.heap.get? b = some o → h1.get? b = some o := fun b o e => hsb.extBut b o (Nat.ne_of_lt (Heap.lt_size e)) (Heap.get?_push_of_some _ e)
    obtain ⟨t, ht, hq⟩ := hbody hnf (hr.deeper _)
    have CA : CellsAt cl fr (ws.map some) s.heap (thaw (clocs cl fr) H) := by
      refine ⟨by rw [List.length_map]; exact C.len, fun y c e => ⟨thaw_in (hin y c e), ?_⟩, C.inj, fun i y hi => ?_⟩
      · obtain ⟨i, hi⟩ := List.mem_iff_getElem?.mp (C.dom y c e)
        obtain ⟨c1, o, u, v, h1, _, _, h4, h5⟩ := C.has i y hi
        rw [e] at h1
        cases h1
        exact ⟨some u, o, (e0.hok c _ h5).1, h4⟩
      · obtain ⟨c1, o, u, v, h1, h2, h3, h4, h5⟩ := C.has i y hi
        refine ⟨c1, h1, fun v' ev => ?_⟩
        rw [List.getElem?_map, h2] at ev
        cases ev
        exact ⟨u, h3, o, (e0.hok c1 _ h5).1, h4⟩
    have I : Inv (ncx CX0 P w K mg base N (lamF q params scope cl c') f A outer s (thaw (clocs cl fr) H) E0) [] (startF N vs (ws.map some)) (thaw (clocs cl fr) H) { s with heap := h1, toks := s.toks + (ps.zip us).length } :=
      inv_startN S hr.hd e1 hl r CA hns kp
    refine PySem.W.kla_codeExpr (wpAny_mono (ht.nox.run [] _ _ _ _ I hq) (fun v s' hq => ?_) fun e s' hq => hq)
    obtain ⟨w', H', J, rv, q⟩ := hq
    exact ⟨w', H', J.os, J.bare, J.base, J.hok, rv, q⟩
  · cases r with
    | error e => exact hq
    | ok fl =>
      cases fl with
      | ret u => exact ce_refr hcs e0.hok e0.frf hq
      | next => exact hq
      | brk => exact hq
      | cont => exact hq
end
/-! ### functions as values -/
/-- what f does, called with values -/
def HeldF (P : Program) (w : World) (K : PySem.W.Frag) (mg : Str → Option Value) (base : Heap) (CX : CXT) (k : Nat) (f : Addr) (sp : Sp) : Prop :=
  ∀ (A : Around) (outer : List Env) (s : Shared) (H : Hp) (us : List Value) (vs : List V) (Q : VK) (E : XK), Room k A → Env0 P w K mg base A outer s H → Vals vs us → sp vs H Q E → codeAny (model P w) A (.call (.ref f) ⟨us, []⟩) (CR CX outer P w H s Q E) s
/-- f is a function's object -/
def FnV (K : PySem.W.Frag) (H : Hp) (f : Addr) : Prop := PySem.W.keepIn K (.ref f) = true ∨ ∃ od fd sl, H f = some (.frz ⟨.type "function", od, .func fd, sl⟩ (.own 0))
theorem LamAt.fn {K : PySem.W.Frag} {H : Hp} {f : Addr} {params : Arguments} {body : Expr} {scope : Scope} {q : Str} {cl : List (Str × Addr)} {c' P2 : Addr} (x : LamAt H f params body scope q cl c' P2) : FnV K H f := by
  obtain ⟨⟨pm, ctv, h⟩, _⟩ := x
  exact .inr ⟨_, _, _, h⟩
theorem FnV.ext {K : PySem.W.Frag} {H H' : Hp} {f : Addr} (x : FnV K H f) (e : ExtN H H') : FnV K H' f := by
  rcases x with x | ⟨od, fd, sl, x⟩
  · exact .inl x
  · exact .inr ⟨od, fd, sl, e _ _ x (fun ps z => by cases z)⟩
theorem heldF_of {P : Program} {w : World} {K : PySem.W.Frag} {mg : Str → Option Value} {base : Heap} {CX : CXT} {k : Nat} {f : Addr} {fd : FuncData} {ps : List Str} {sp : Sp} (F : FnOk P w K mg base CX k f fd ps sp) (hb : Binds K fd ps []) : HeldF P w K mg base CX k f sp := by
  intro A outer s H us vs Q E hr e0 r h
  have hl : us.length = ps.length := by rw [← r.length]; exact F.len _ _ _ _ h
  have b := hb s us (e0.mod.kin.keeps fun b o e => (e0.bs b o e).1) (by rw [List.append_nil]; exact hl)
  rw [List.append_nil] at b
  exact F.run A outer s H ⟨us, []⟩ us vs Q E hr e0 b r h
section
variable {X : Cx} {CX : CXT} {k i : Nat} {x : Str} {p pos : Pos} {e : Expr} {es : List Expr} {t : TA} {SF : Addr → Sp} {E : St → XK}
/-- the i-th slot holds a function -/
def tCallF (K : PySem.W.Frag) (i : Nat) (SF : Addr → Sp) (E : St → XK) (t : TA) : TE := fun σ H Q => ∃ f, σ[i]? = some (some (.ref f)) ∧ FnV K H f ∧ t σ H fun vs H1 => FnV K H1 f ∧ SF f vs H1 Q (E σ)
theorem callWith_FnV {pins : List (Addr × Obj)} {σ : St} {H : Hp} {s : Shared} {f : Addr} {Q : Value → Shared → Prop} (I : Inv X pins σ H s) (hf : FnV X.K H f)
    (h : wpAny (model X.prog X.w) X.A (spliced (backTo pos (starEach (e :: es) X.env))) (fun us s1 => (∃ σ1 H1 pn, Inv X pn σ1 H1 s1 ∧ FnV X.K H1 f) ∧ wpAny (model X.prog X.w) X.A (call (.ref f) us) Q X.xe s1) X.xe s)
    (he : starEach (e :: es) X.env = (false, eval e X.env) :: starEach es X.env := by rfl) (hpl : (backTo pos (starEach es X.env)).any (·.1) = false := by rfl) :
    wpAny (model X.prog X.w) X.A (callWith pos (.ref f) [] (backTo pos (starEach (e :: es) X.env)) []) Q X.xe s := by
  have key : ∀ {σ : St} {H : Hp} {s : Shared} {pn : List (Addr × Obj)}, Inv X pn σ H s → FnV X.K H f → PySem.W.keepIn X.K (.ref f) = true ∨ PySem.W.FnAt f s.heap := fun {σ H s pn} I hf => by
    rcases hf with z | ⟨od, fd, sl, z⟩
    · exact .inl z
    · exact .inr ⟨_, od, fd, sl, (I.hok f _ z).1⟩
  by_cases hk : PySem.W.keepIn X.K (.ref f) = true
  · refine PySem.W.callWith_K (h₀ := X.base) I.ok.mod.kin hk (thn h fun us s1 ⟨⟨_, _, _, I1, _⟩, h1⟩ => ⟨I1.kIn, h1⟩) he hpl
  · have fa : ∀ {σ : St} {H : Hp} {s : Shared} {pn : List (Addr × Obj)}, Inv X pn σ H s → FnV X.K H f → PySem.W.FnAt f s.heap := fun {σ H s pn} I hf => (key I hf).elim (fun z => absurd z hk) id
    exact PySem.W.callWith_F (first := []) (fa I hf) (thn h fun us s1 ⟨⟨_, _, _, I1, f1⟩, h1⟩ => ⟨fa I1 f1, h1⟩) he hpl
theorem pe_callF (hS : ∀ f, HeldF X.prog X.w X.K X.mg X.base CX k f (SF f)) (hr : Room k X.A) (hx : ∀ σ, PassesAt CX X σ (E σ)) (hN : X.N[i]? = some x) (hv : Vis X.env.scope x) (ha : PA X (e :: es) t)
    (hdb : (x == ("__debug__" : Str)) = false := by decide) (hcd : (x == ("__classdict__" : Str)) = false := by decide)
    (he : starEach (e :: es) X.env = (false, eval e X.env) :: starEach es X.env := by rfl) (hpl : (backTo pos (starEach es X.env)).any (·.1) = false := by rfl) : PE X (.Call (.Name x p) (e :: es) [] pos) (tCallF X.K i SF E t) := by
  refine ⟨fun pins s σ H Q I h => ?_⟩
  obtain ⟨f, hs, hf, ht⟩ := h
  refine wpAny_Call_Name_kw (thn ((pe_var (pos := p) hN hv hdb hcd).run pins s σ H (fun v H1 => v = .ref f ∧ H1 = H) I ⟨.ref f, hs, rfl, rfl⟩) fun u s1 ⟨v, H1, I1, r1, q1⟩ => ?_)
  obtain ⟨ev, eH⟩ := q1
  subst ev
  rw [eH] at I1
  obtain rfl : u = Value.ref f := r1
  refine callWith_FnV I1 hf (thn (ha.run pos pins s1 σ H _ I1 ht) fun us s2 ⟨vs, H2, I2, r, f2, q⟩ => ⟨⟨σ, H2, pins, I2, f2⟩, ?_⟩) he hpl
  refine wpAny_call (codeAny_mono (hS f X.A X.stack s2 H2 us vs Q (E σ) hr I2.env0 r q) fun r s' hq => ?_)
  cases r with
  | error e => exact hx σ pins H2 s2 e s' I2 hq
  | ok fl =>
    cases fl with
    | ret u => exact I2.after hq
    | next => exact False.elim hq
    | brk => exact False.elim hq
    | cont => exact False.elim hq
end
end Wm
/-! W5 -/
namespace Wm
open PySem PySem.Spec PyProof.Rows L2 LamX NdefX
/-! ### a lambda is made: the whole of what is new -/
section
variable {M : Model} {A : Around} {E : Value → Shared → Prop} {s : Shared} {name qual : Str} {params : Arguments} {body : Expr} {scope : Scope} {env : Env} {c P : Addr} {ps : Array Value} {pos : Pos} {firstLine : Nat} {mg : Str → Option Value}
  {clos : List (Str × Addr)} {Q : Value → Shared → Prop}
theorem fn_made (hcl : closureFor scope env = pure clos) (hge0 : env.globals = mainGlobals) (hg : s.heap.Ns mainGlobals mg) (hcode : env.code = .ref c) (C : PySem.W.CodeHd s.heap c P) (hP : s.heap.get? P = some (PySem.W.tabObj ps)) (ht : TriplesOk ps.toList)
    (hnf : codeAmong pos ps.toList = none) (hgP : mainGlobals ≠ P) (hb : s.heap.BuiltinsAt mg P)
    (h : ∀ c' P' ctv h' tk, Heap.ExtBut P s.heap h' → s.heap.objs.size ≤ c' → s.heap.objs.size ≤ P' → c' < h'.objs.size → P' < h'.objs.size → h'.CodeRec (.ref c') qual → PySem.W.CodeHd h' c' P' → h'.get? P' = some (PySem.W.tabObj #[]) →
      h'.get? P = some (PySem.W.tabObj (ps ++ #[rawInt pos.line, rawInt pos.col, .ref c'])) →
      Q (.ref h'.objs.size) { s with heap := h'.push (PySem.W.kla_obj name qual params body scope clos ((mg "__name__").getD .none) c' ctv), toks := tk }) :
    wpAny M A (makeFunction name qual params (.expr body) scope env [] [] [] pos firstLine) Q E s := by
  obtain ⟨bm, ob, hbm, hne0, _, hneP, hbo, hcls, hdict, hdata⟩ := hb
  rw [makeFunction_eq]
  simp only [List.zip_nil_right, List.filterMap_nil, List.isEmpty_nil, if_true, pure_bind]
  unfold makeTail
  rw [hcl, hge0]
  refine wpAny_bind (wpAny_pure ?_)
  have tail : ∀ (s0 : Shared) (ctv : Value), (∀ b o, s.heap.get? b = some o → s0.heap.get? b = some o) → s.heap.objs.size ≤ s0.heap.objs.size → s0.gens = s.gens → s0.os = s.os → s0.drawn = s.drawn →
      wpAny M A (functionCode env pos firstLine name qual params scope (.expr body)) (fun cv s1 => wpAny M A (builtinsFor mainGlobals env.builtins) (fun bl s2 => wpAny M A (nsGet mainGlobals "__name__") (fun nm s3 =>
        wpAny M A (newObj (.type "function") (.func { name, qualname := qual, params, body := .expr body, scope, globals := mainGlobals, closure := clos, closureTuple := ctv, code := cv, builtins := bl, defaults := .none, kwdefaults := .none, annotations := none, pyModule := nm.getD .none, doc := .none })) Q E s3) E s2) E s1) E s0 := by
    intro s0 ctv k0 z0 eg eo ed
    refine wpAny_functionCodeX hcode ((C.keeps k0).code (k0 _ _ hP) ht) ((C.keeps k0).tab (k0 _ _ hP)) hnf fun c' h' tk hx hge hlt _ hrec htb hown => ?_
    obtain ⟨P', hP', hcode', htab'⟩ := hown
    have hg' := (hg.keeps k0).extBut hx hgP
    have hx' : Heap.ExtBut P s.heap h' := fun b o hb' e => hx b o hb' (k0 b o e)
    refine wpAny_builtinsFor hg' hbm hne0 (hx' _ _ hneP hbo) hcls hdict hdata ?_
    refine wpAny_nsGet hg' ?_
    have q := h c' P' ctv h' tk hx' (Nat.le_trans z0 hge) (Nat.le_trans z0 hP') hlt (Heap.lt_size htab'.2) hrec (PySem.W.CodeHd.of hcode' htab') htab'.2 htb.2
    obtain ⟨s0h, s0g, s0d, s0t, s0o⟩ := s0
    have e1 : s0g = s.gens := eg
    have e2 : s0o = s.os := eo
    have e3 : s0d = s.drawn := ed
    subst e1 e2 e3
    exact wpAny_newObj_type q (by size_fits)
  cases clos with
  | nil =>
    simp only [List.isEmpty_nil, if_true]
    refine wpAny_bind (wpAny_pure ?_)
    refine wpAny_bind (wpAny_mono (tail s .none (fun _ _ e => e) (Nat.le_refl _) rfl rfl rfl) (fun cv s1 h1 => ?_) fun _ _ z => z)
    exact wpAny_bind (wpAny_mono h1 (fun bl s2 h2 => wpAny_bind (wpAny_mono h2 (fun nm s3 h3 => wpAny_bind (wpAny_pure h3)) fun _ _ z => z)) fun _ _ z => z)
  | cons q r =>
    simp only [List.isEmpty_cons, Bool.false_eq_true, if_false]
    refine wpAny_bind (wpAny_newTextTuple ?_)
    refine wpAny_bind (wpAny_mono (tail _ (.ref s.heap.objs.size) (fun b o e => Heap.get?_push_of_some _ e) (by rw [Heap.size_push]; omega) rfl rfl rfl) (fun cv s1 h1 => ?_) fun _ _ z => z)
    exact wpAny_bind (wpAny_mono h1 (fun bl s2 h2 => wpAny_bind (wpAny_mono h2 (fun nm s3 h3 => wpAny_bind (wpAny_pure h3)) fun _ _ z => z)) fun _ _ z => z)
end
section
variable {X : Cx} {pins : List (Addr × Obj)} {σ : St} {H H' : Hp} {s : Shared} {P : Addr}
/-- one table grows, all else is kept; new objects are tracked or not -/
theorem inv_grow {ps more : Array Value} {h' : Heap} {t' : Nat} (I : Inv X pins σ H s) (hP : H P = some (.tbl ps)) (k : ∀ b o, b ≠ P → s.heap.get? b = some o → h'.get? b = some o) (hm : h'.get? P = some (PySem.W.tabObj (ps ++ more)))
    (old : ∀ b, b < s.heap.objs.size → b ≠ P → H' b = H b) (aP : H' P = some (.tbl (ps ++ more))) (new : ∀ b u, s.heap.objs.size ≤ b → H' b = some u → ObjOk X.prog X.w H' h' b u) : Inv X pins σ H' { s with heap := h', toks := t' } := by
  have nP : ∀ b u, H b = some u → (∀ q, u ≠ .tbl q) → b ≠ P := fun b u e q z => by
    rw [z, hP] at e
    exact q ps (Option.some.inj e).symm
  have nN : ∀ b, H b = none → b ≠ P := fun b e z => by
    rw [z, hP] at e
    cases e
  have old' : ∀ b u, H b = some u → b ≠ P → H' b = some u := fun b u e n => (old b (I.hok.lt e) n).trans e
  refine I.step (g' := s.gens) (d' := s.drawn) (ch := []) (fun b hb => absurd hb (by simp)) (fun b o _ _ _ e n => k b o (nN b n) e) (fun b o _ _ _ e n => ⟨o.slots, k b o (nN b n) e⟩)
    (fun b o _ e n => by rw [old b (Heap.lt_size e) (nN b n)]; exact n) (fun b o _ e => ?_) (fun b xs e => old' b _ e (nP b _ e (fun q z => by cases z))) (fun b o u e => old' b _ e (nP b _ e (fun q z => by cases z))) (fun b qs e => ?_) (fun m hn => ?_) (fun b u e => ?_) I.bare
  · by_cases hb : b = P
    · rw [hb]
      exact ⟨_, hm⟩
    · exact ⟨o, k b o hb e⟩
  · by_cases hb : b = P
    · rw [hb, hP] at e
      cases e
      rw [hb, aP]
      exact ⟨more, rfl⟩
    · exact ⟨#[], by rw [old' b _ e hb]; simp⟩
  · obtain ⟨ob, es, ep, ho, r⟩ := hn
    exact ⟨ob, es, ep, k _ ob (nN _ I.free) ho, r⟩
  · by_cases hb2 : b = P
    · rw [hb2, aP] at e
      cases e
      rw [hb2]
      exact hm
    · by_cases hb : s.heap.objs.size ≤ b
      · exact new b u hb e
      · have e' : H b = some u := (old b (by omega) hb2).symm.trans e
        refine (I.hok b u e').stay (fun d v hd q => k d v ?_ q) (fun d q => old' d _ q (nP d _ q (fun q z => by cases z))) fun d xs q => old' d _ q (nP d _ q (fun q z => by cases z))
        rcases hd with z | z
        · rw [z]
          exact hb2
        · exact nP d _ z (fun q z => by cases z)
theorem bat_of (I : Inv X pins σ H s) {P0 : Addr} (BM : X.base.BuiltinsAt X.mg P0) {ps : Array Value} (hP : H P = some (.tbl ps)) : s.heap.BuiltinsAt X.mg P ∧ mainGlobals ≠ P := by
  have ne : ∀ b o, X.base.get? b = some o → b ≠ P := fun b o e z => by
    have q := (I.bs b o e).2
    rw [z, hP] at q
    cases q
  obtain ⟨bm, o, h1, h2, h3, h4, h5, h6⟩ := BM
  refine ⟨⟨bm, o, h1, h2, h3, ne bm o h5, I.bk _ _ h5, h6⟩, ?_⟩
  obtain ⟨og, _, _, eg, _⟩ := I.mod.glob
  exact ne _ og eg
/-- what the making of a lambda leaves: its code object new, or found in the table -/
theorem lam_new {c P0 : Addr} {params : Arguments} {body : Expr} {scope : Scope} {pos : Pos} {E : Value → Shared → Prop} {Q : Value → Shared → Prop} {ps : Array Value} (I : Inv X pins σ H s) (hcode : X.env.code = .ref c) (C : PySem.W.CodeHd s.heap c P)
    (BM : X.base.BuiltinsAt X.mg P0) (hP : H P = some (.tbl ps)) (ht : TriplesOk ps.toList) (hdef : defaultsOf params X.env = ([], [])) (hfree : ∀ y ∈ scope.names, y.2 = .free → ∃ c, X.env.cells.lookup y.1 = some c)
    (hhit : ∀ cv, codeAmong pos ps.toList = some cv → ∃ c' P', cv = .ref c' ∧ CodeT H c' (X.env.qual ++ "<lambda>") P')
    (h : ∀ (f c' P' : Addr) (H1 : Hp) (s' : Shared), Inv X pins σ H1 s' → LamAt H1 f params body scope (X.env.qual ++ "<lambda>") (cloFrom X.env.cells scope.names []) c' P' → (∀ b o, H b = some o → b ≠ P → H1 b = some o) → (∀ b, H1 b = none → H b = none) → H f = none →
      ((codeAmong pos ps.toList = none ∧ H P' = none ∧ H c' = none ∧ H1 P' = some (.tbl #[]) ∧ H1 P = some (.tbl (ps ++ #[rawInt pos.line, rawInt pos.col, .ref c']))) ∨ (codeAmong pos ps.toList = some (.ref c') ∧ CodeT H c' (X.env.qual ++ "<lambda>") P' ∧ H1 P = H P)) → Q (.ref f) s') :
    wpAny (model X.prog X.w) X.A (eval (.Lambda params body scope pos) X.env) Q E s := by
  refine PySem.W.kla_eval hdef ?_
  obtain ⟨bP, gP⟩ := bat_of I BM hP
  have hP' : s.heap.get? P = some (PySem.W.tabObj ps) := I.hok P _ hP
  cases hc : codeAmong pos ps.toList with
  | none =>
    refine fn_made (mg := X.mg) (c := c) (P := P) (ps := ps) (closure_ok hfree) I.ok.glob (I.mod.glob.keeps I.bk) hcode C hP' ht hc gP bP fun c' P' ctv h' tk hx hge hgeP hlt hltP hrec hcd htP htb => ?_
    obtain ⟨c2, oc, vs, t, e2, hoc, hd, hv⟩ := hrec
    cases e2
    obtain ⟨oc2, vs2, file, tf, flags, tg, inF, text, tt, e1, r1, r2, r3, r4, r5, r6, r7, r8, hne⟩ := hcd
    have eo : oc = oc2 := Option.some.inj (hoc.symm.trans e1)
    subst eo
    have ev : vs = vs2 := by
      rw [hd] at r2
      exact Data.fields.inj r2
    subst ev
    obtain ⟨fo, hfo⟩ : ∃ fo, fo = PySem.W.kla_obj "<lambda>" (X.env.qual ++ "<lambda>") params body scope (cloFrom X.env.cells scope.names []) ((X.mg "__name__").getD .none) c' ctv := ⟨_, rfl⟩
    rw [← hfo]
    have hsz : s.heap.objs.size ≤ h'.objs.size := Nat.le_trans hge (Nat.le_of_lt hlt)
    have nC : H c' = none := I.hok.fresh hge
    have nP' : H P' = none := I.hok.fresh hgeP
    have nF : H h'.objs.size = none := I.hok.fresh hsz
    have PltS : P < s.heap.objs.size := I.hok.lt hP
    have n1 : c' ≠ P := Nat.ne_of_gt (Nat.lt_of_lt_of_le PltS hge)
    have n2 : P' ≠ P := Nat.ne_of_gt (Nat.lt_of_lt_of_le PltS hgeP)
    have n3 : h'.objs.size ≠ P := Nat.ne_of_gt (Nat.lt_of_lt_of_le PltS hsz)
    have n4 : h'.objs.size ≠ c' := Nat.ne_of_gt hlt
    have n5 : h'.objs.size ≠ P' := Nat.ne_of_gt hltP
    obtain ⟨H1, hH1⟩ : ∃ H1, H1 = upd (upd (upd (upd H P (.tbl (ps ++ #[rawInt pos.line, rawInt pos.col, .ref c']))) c' (.frz oc (.own 0))) P' (.tbl #[])) h'.objs.size (.frz fo (.own 0)) := ⟨_, rfl⟩
    have aP : H1 P = some (.tbl (ps ++ #[rawInt pos.line, rawInt pos.col, .ref c'])) := by rw [hH1, upd_ne n3.symm, upd_ne n2.symm, upd_ne n1.symm, upd_same]
    have aC : H1 c' = some (.frz oc (.own 0)) := by rw [hH1, upd_ne n4.symm, upd_ne hne, upd_same]
    have aP' : H1 P' = some (.tbl #[]) := by rw [hH1, upd_ne n5.symm, upd_same]
    have aF : H1 h'.objs.size = some (.frz fo (.own 0)) := by rw [hH1, upd_same]
    have aO : ∀ b, b ≠ P → b ≠ c' → b ≠ P' → b ≠ h'.objs.size → H1 b = H b := fun b h1 h2 h3 h4 => by rw [hH1, upd_ne h4, upd_ne h3, upd_ne h2, upd_ne h1]
    have gF : (h'.push fo).get? h'.objs.size = some fo := Heap.get?_push_size _ (by rw [hfo]; rfl)
    have gC : (h'.push fo).get? c' = some oc := Heap.get?_push_of_some _ hoc
    have gP' : (h'.push fo).get? P' = some (PySem.W.tabObj #[]) := Heap.get?_push_of_some _ htP
    have I1 : Inv X pins σ H1 { s with heap := h'.push fo, toks := tk } := by
      refine inv_grow (more := #[rawInt pos.line, rawInt pos.col, .ref c']) I hP (fun b o hb e => Heap.get?_push_of_some _ (hx b o hb e)) (Heap.get?_push_of_some _ htb) (fun b hb hbP => aO b hbP (Nat.ne_of_lt (Nat.lt_of_lt_of_le hb hge)) (Nat.ne_of_lt (Nat.lt_of_lt_of_le hb hgeP)) (Nat.ne_of_lt (Nat.lt_of_lt_of_le hb hsz))) aP fun b u hb e => ?_
      by_cases b1 : b = h'.objs.size
      · rw [b1, aF] at e
        cases e
        rw [b1]
        exact ⟨gF, _, gF⟩
      · by_cases b2 : b = P'
        · rw [b2, aP'] at e
          cases e
          rw [b2]
          exact gP'
        · by_cases b3 : b = c'
          · rw [b3, aC] at e
            cases e
            rw [b3]
            exact ⟨gC, _, gC⟩
          · rw [aO b (Nat.ne_of_gt (Nat.lt_of_lt_of_le PltS hb)) b3 b2 b1, I.hok.fresh hb] at e
            cases e
    refine h h'.objs.size c' P' H1 _ I1 ⟨⟨_, ctv, by rw [← hfo]; exact aF⟩, oc, aC, ⟨vs, file, tf, flags, tg, inF, text, tt, t, r1, r2, hv, r3, r4, r5, r6, r7, r8⟩, hne⟩ (fun b o e n => ?_) (fun b e => ?_) nF (.inl ⟨hc, nP', nC, aP', aP⟩)
    · have lt := I.hok.lt e
      rw [aO b n (Nat.ne_of_lt (Nat.lt_of_lt_of_le lt hge)) (Nat.ne_of_lt (Nat.lt_of_lt_of_le lt hgeP)) (Nat.ne_of_lt (Nat.lt_of_lt_of_le lt hsz))]
      exact e
    · rw [hH1] at e
      exact upd_none (upd_none (upd_none (upd_none e)))
  | some cv =>
    obtain ⟨c', P', e, hct⟩ := hhit cv hc
    subst e
    refine PySem.W.kla_makeFunctionHit (mg := X.mg) (c := c) (P := P) (ps := ps) (closure_ok hfree) I.ok.glob (I.mod.glob.keeps I.bk) hcode C hP' ht hc bP fun ctv h' tk hx hsz => ?_
    obtain ⟨fo, hfo⟩ : ∃ fo, fo = PySem.W.kla_obj "<lambda>" (X.env.qual ++ "<lambda>") params body scope (cloFrom X.env.cells scope.names []) ((X.mg "__name__").getD .none) c' ctv := ⟨_, rfl⟩
    show Q (.ref h'.objs.size) { s with heap := h'.push (PySem.W.kla_obj "<lambda>" (X.env.qual ++ "<lambda>") params body scope (cloFrom X.env.cells scope.names []) ((X.mg "__name__").getD .none) c' ctv), toks := tk }
    rw [← hfo]
    have nF : H h'.objs.size = none := I.hok.fresh hsz
    have gF : (h'.push fo).get? h'.objs.size = some fo := Heap.get?_push_size _ (by rw [hfo]; rfl)
    have I1 : Inv X pins σ (upd H h'.objs.size (.frz fo (.own 0))) { s with heap := h'.push fo, toks := tk } := I.laid (fun b o e => Heap.get?_push_of_some _ (hx b o e)) hsz ⟨gF, _, gF⟩
    have eN : ExtN H (upd H h'.objs.size (.frz fo (.own 0))) := fun b o e _ => by
      rw [upd_ne (ne_of_none e nF)]
      exact e
    refine h h'.objs.size c' P' _ _ I1 ⟨⟨_, ctv, by rw [← hfo]; exact upd_same⟩, hct.ext eN⟩ (fun b o e n => ?_) (fun b e => upd_none e) nF (.inr ⟨hc, hct, ?_⟩)
    · rw [upd_ne (ne_of_none e nF)]
      exact e
    · rw [upd_ne (ne_of_none hP nF)]
end
end Wm
/-! W6 -/
namespace Wm
open PySem PySem.Spec PyProof.Rows L2 LamX NdefX
/-! ### a lambda as an expression -/
theorem CodeT.inj {H : Hp} {c P P' : Addr} {q q' : Str} (x : CodeT H c q P) (y : CodeT H c q' P') : P = P' := by
  obtain ⟨oc, e, ⟨vs, file, tf, flags, tg, inF, text, tt, tq, a1, a2, a3, a4, _⟩, n⟩ := x
  obtain ⟨oc', e', ⟨vs', file', tf', flags', tg', inF', text', tt', tq', b1, b2, b3, b4, _⟩, n'⟩ := y
  rw [e] at e'
  cases e'
  rw [a2] at b2
  cases b2
  rw [a4] at b4
  cases b4
  rfl
def tLam1 (P : Addr) (q q2 : Str) (params : Arguments) (body : Expr) (scope : Scope) (cl : List (Str × Addr)) : TE := fun σ H Q => Tab1 H P q q2 ∧ ∀ (f c' P' : Addr) (H1 : Hp), LamAt H1 f params body scope q cl c' P' → P' ≠ P → Tab0 H1 P' q2 → Tab1 H1 P q q2 →
  (∀ b o, H b = some o → b ≠ P → H1 b = some o) → (∀ b, H1 b = none → H b = none) → H f = none → Q (.ref f) H1
def tLam0 (c P : Addr) (q : Str) (params : Arguments) (body : Expr) (scope : Scope) (cl : List (Str × Addr)) : TE := fun σ H Q => (∃ qc, CodeT H c qc P) ∧ Tab0 H P q ∧ ∀ (f c' P' : Addr) (H1 : Hp), LamAt H1 f params body scope q cl c' P' → Tab0 H1 P q →
  (∀ b o, H b = some o → b ≠ P → H1 b = some o) → (∀ b, H1 b = none → H b = none) → H f = none → Q (.ref f) H1
section
variable {X : Cx} {c P P0 : Addr} {params : Arguments} {body : Expr} {scope : Scope} {pos : Pos} {q q2 : Str}
theorem pe_lam1 (TB : TabB X.base X.mg c P) (hcode : X.env.code = .ref c) (hq : X.env.qual ++ "<lambda>" = q) (hdef : defaultsOf params X.env = ([], [])) (hfree : ∀ y ∈ scope.names, y.2 = .free → X.env.scope.names.lookup y.1 = some .cell ∨ X.env.scope.names.lookup y.1 = some .free) :
    PE X (.Lambda params body scope pos) (tLam1 P q q2 params body scope (cloFrom X.env.cells scope.names [])) := by
  refine ⟨fun pins s σ H Q I h => ?_⟩
  subst hq
  obtain ⟨T, h⟩ := h
  obtain ⟨ps, hP, ht, ha⟩ := id T
  have hfr : ∀ y ∈ scope.names, y.2 = .free → ∃ c, X.env.cells.lookup y.1 = some c := fun y hy e => (hfree y hy e).elim (fun z => I.ok.has _ (.inl z)) fun z => I.ok.has _ (.inr z)
  refine lam_new (P := P) (c := c) (P0 := P) I hcode (TB.code.keeps I.bk) TB.bm hP ht hdef hfr (fun cv e => ?_) fun f c' P' H1 s' I1 L kp gn f0 cs => ?_
  · obtain ⟨c', e1, P2, e2, _⟩ := ha pos cv e
    exact ⟨c', P2, e1, e2⟩
  · have eN : ExtN H H1 := fun b o e n => kp b o e fun z => n ps (Option.some.inj (e.symm.trans (by rw [z]; exact hP)))
    have oldR : ∀ c0, (∃ P2, CodeT H c0 (X.env.qual ++ "<lambda>") P2 ∧ P2 ≠ P ∧ Tab0 H P2 q2) → ∃ P2, CodeT H1 c0 (X.env.qual ++ "<lambda>") P2 ∧ P2 ≠ P ∧ Tab0 H1 P2 q2 := fun c0 ⟨P2, a, n, t⟩ =>
      ⟨P2, a.ext eN, n, t.keep eN (by
        obtain ⟨ps2, z, _⟩ := id t
        exact (kp P2 _ z n).trans z.symm)⟩
    rcases cs with ⟨hn, nP', nC, aP', aP⟩ | ⟨hs, hct, eP⟩
    · have nPP : P' ≠ P := fun z => by
        rw [z, hP] at nP'
        cases nP'
      have t0 : Tab0 H1 P' q2 := TabR.nil aP'
      refine ⟨.ref f, H1, I1, rfl, h f c' P' H1 L nPP t0 ⟨_, aP, by simpa using PySem.TriplesOk_snoc pos.line pos.col (.ref c') _ ht, fun p' cv hcv => ?_⟩ kp gn f0⟩
      rw [show (ps ++ #[rawInt pos.line, rawInt pos.col, .ref c']).toList = ps.toList ++ [rawInt pos.line, rawInt pos.col, .ref c'] from by simp] at hcv
      rcases among_app _ ht hcv with z | z
      · obtain ⟨c0, e1, r⟩ := ha p' cv z
        exact ⟨c0, e1, oldR c0 r⟩
      · exact ⟨c', z, P', L.2, nPP, t0⟩
    · obtain ⟨c0, e1, P2, a, n, t⟩ := ha pos _ hs
      cases e1
      have e2 : P' = P2 := hct.inj a
      subst e2
      obtain ⟨P3, _, _, t3⟩ := oldR c' ⟨P', a, n, t⟩
      have t1 : Tab1 H1 P (X.env.qual ++ "<lambda>") q2 := TabR.ext T eP oldR
      have t0 : Tab0 H1 P' q2 := t.keep eN (by
        obtain ⟨ps2, z, _⟩ := id t
        exact (kp P' _ z n).trans z.symm)
      exact ⟨.ref f, H1, I1, rfl, h f c' P' H1 L n t0 t1 kp gn f0⟩
theorem pe_lam0 (BM : X.base.BuiltinsAt X.mg P0) (hcode : X.env.code = .ref c) (hq : X.env.qual ++ "<lambda>" = q) (hdef : defaultsOf params X.env = ([], [])) (hfree : ∀ y ∈ scope.names, y.2 = .free → X.env.scope.names.lookup y.1 = some .cell ∨ X.env.scope.names.lookup y.1 = some .free) :
    PE X (.Lambda params body scope pos) (tLam0 c P q params body scope (cloFrom X.env.cells scope.names [])) := by
  refine ⟨fun pins s σ H Q I h => ?_⟩
  subst hq
  obtain ⟨⟨qc, C⟩, T, h⟩ := h
  obtain ⟨ps, hP, ht, ha⟩ := id T
  have hfr : ∀ y ∈ scope.names, y.2 = .free → ∃ c, X.env.cells.lookup y.1 = some c := fun y hy e => (hfree y hy e).elim (fun z => I.ok.has _ (.inl z)) fun z => I.ok.has _ (.inr z)
  refine lam_new (P := P) (c := c) (P0 := P0) I hcode (C.hd I.hok) BM hP ht hdef hfr (fun cv e => ?_) fun f c' P' H1 s' I1 L kp gn f0 cs => ?_
  · obtain ⟨c', e1, P2, e2, _⟩ := ha pos cv e
    exact ⟨c', P2, e1, e2⟩
  · have eN : ExtN H H1 := fun b o e n => kp b o e fun z => n ps (Option.some.inj (e.symm.trans (by rw [z]; exact hP)))
    have oldR : ∀ c0, (∃ P2, CodeT H c0 (X.env.qual ++ "<lambda>") P2 ∧ P2 ≠ P) → ∃ P2, CodeT H1 c0 (X.env.qual ++ "<lambda>") P2 ∧ P2 ≠ P := fun c0 ⟨P2, a, n⟩ => ⟨P2, a.ext eN, n⟩
    rcases cs with ⟨hn, nP', nC, aP', aP⟩ | ⟨hs, hct, eP⟩
    · have nPP : P' ≠ P := fun z => by
        rw [z, hP] at nP'
        cases nP'
      refine ⟨.ref f, H1, I1, rfl, h f c' P' H1 L ⟨_, aP, by simpa using PySem.TriplesOk_snoc pos.line pos.col (.ref c') _ ht, fun p' cv hcv => ?_⟩ kp gn f0⟩
      rw [show (ps ++ #[rawInt pos.line, rawInt pos.col, .ref c']).toList = ps.toList ++ [rawInt pos.line, rawInt pos.col, .ref c'] from by simp] at hcv
      rcases among_app _ ht hcv with z | z
      · obtain ⟨c0, e1, r⟩ := ha p' cv z
        exact ⟨c0, e1, oldR c0 r⟩
      · exact ⟨c', z, P', L.2, nPP⟩
    · exact ⟨.ref f, H1, I1, rfl, h f c' P' H1 L (TabR.ext T eP oldR) kp gn f0⟩
end
/-! ### a call while which the cells of the running frame are known -/
def Fz (cells : List (Str × Addr)) (N : List Str) (σ : St) (fr : List Str) (cs : List Addr) (H1 H2 : Hp) : Prop :=
  (∀ y ∈ fr, ∃ c, cells.lookup y = some c ∧ c ∈ cs ∧ ∀ (j : Nat) v, N[j]? = some y → σ[j]? = some (some v) → ∃ o u, L2.RelV v u ∧ o.data = .cell (some u) ∧ H2 c = some (.frz o (.own 0))) ∧ (∀ c ∈ cs, H1 c = none) ∧ (∀ b, b ∉ cs → H2 b = H1 b) ∧
    ∀ x y c, cells.lookup x = some c → cells.lookup y = some c → x = y
theorem Fz.ext {cells : List (Str × Addr)} {N : List Str} {σ : St} {fr : List Str} {cs : List Addr} {H1 H2 : Hp} (z : Fz cells N σ fr cs H1 H2) {b : Addr} {o : HO} (e : H1 b = some o) : H2 b = some o := by
  rw [z.2.2.1 b fun m => ?_]
  · exact e
  · rw [z.2.1 b m] at e
    cases e
theorem Fz.back {cells : List (Str × Addr)} {N : List Str} {σ : St} {fr : List Str} {cs : List Addr} {H1 H2 H3 : Hp} (z : Fz cells N σ fr cs H1 H2) {b : Addr} {o : HO} (e : H1 b = some o) (e3 : H3 b = some o) : thaw cs H3 b = some o := by
  rw [thaw_out fun m => ?_]
  · exact e3
  · rw [z.2.1 b m] at e
    cases e
/-- a closure just made, its cells known -/
theorem clo_of {cells : List (Str × Addr)} {N : List Str} {σ : St} {fr fr2 : List Str} {cs : List Addr} {H1 H2 : Hp} {f c' P2 : Addr} {params : Arguments} {body : Expr} {scope : Scope} {q : Str} {ws : List V} (z : Fz cells N σ fr2 cs H1 H2)
    (L : LamAt H1 f params body scope q (cloFrom cells scope.names []) c' P2) (hs : ∀ y ∈ fr, y ∈ fr2 ∧ (y, NameKind.free) ∈ scope.names) (ho : ∀ y ∈ scope.names, y.2 = .free → y.1 ∈ fr) (len : ws.length = fr.length)
    (hw : ∀ (i : Nat) (y : Str), fr[i]? = some y → ∃ (j : Nat) (v : V), N[j]? = some y ∧ σ[j]? = some (some v) ∧ ws[i]? = some v) : CloAt H2 f params body scope q fr ws (cloFrom cells scope.names []) c' P2 := by
  have hfree : ∀ y ∈ scope.names, y.2 = .free → ∃ c, cells.lookup y.1 = some c := fun y hy e => by
    obtain ⟨c, h, _⟩ := z.1 y.1 (hs y.1 (ho y hy e)).1
    exact ⟨c, h⟩
  refine ⟨L.ext (fun b o e _ => z.ext e), fun x y c e1 e2 => z.2.2.2 x y c (clo_cm hfree e1) (clo_cm hfree e2), len, fun i y hi => ?_, fun y c e => ?_⟩
  · have hy : y ∈ fr := List.mem_of_getElem? hi
    obtain ⟨j, v, h1, h2, h3⟩ := hw i y hi
    obtain ⟨c, e1, _, e3⟩ := z.1 y (hs y hy).1
    obtain ⟨o, u, r, d, g⟩ := e3 j v h1 h2
    exact ⟨c, o, u, v, clo_has hfree (hs y hy).2 e1, h3, r, d, g⟩
  · rcases cloFrom_mem (PySem.mem_of_lookup e) with hm | ⟨h1, _⟩
    · cases hm
    · exact ho (y, .free) h1 rfl
section
variable {X : Cx} {CXT : CXT} {k i : Nat} {f : Addr} {fd : FuncData} {ps fr : List Str} {sp : Sp} {dvs : List V} {ds : List Value} {x : Str} {p pos : Pos} {e : Expr} {es : List Expr} {t : TA} {SF : Addr → Sp} {pins : List (Addr × Obj)} {σ : St} {H : Hp} {s : Shared}
theorem env0_frz (I : Inv X pins σ H s) {cs : List Addr} (hc : ∀ c ∈ cs, ∃ y, X.env.cells.lookup y = some c) (hcf : X.Ok → ∀ x c, X.env.cells.lookup x = some c → c ∉ X.fs ∧ X.base.get? c = none) :
    Env0 X.prog X.w X.K X.mg X.base X.A X.stack s (frzd s.heap cs H) ∧ (∀ c ∈ cs, H c = none ∧ c ∉ frs X.stack ∧ ∃ o v, s.heap.get? c = some o ∧ o.data = .cell v) := by
  have h0 : ∀ c ∈ cs, H c = none := fun c hm => by
    obtain ⟨y, e⟩ := hc c hm
    exact I.freeC y c e
  have hfs : ∀ c ∈ cs, c ∉ frs X.stack := fun c hm z => by
    obtain ⟨y, e⟩ := hc c hm
    rcases List.mem_cons.mp (I.stkSub c z) with q | q
    · exact I.cne y c e q
    · exact (hcf I.ok y c e).1 q
  have e0 := I.env0
  refine ⟨⟨e0.frames, e0.mod, fun b o e => ⟨(e0.bs b o e).1, ?_⟩, e0.bsz, e0.funs, fun b hb => ?_, hok_frzd e0.hok h0, e0.bare⟩, fun c hm => ⟨h0 c hm, hfs c hm, ?_⟩⟩
  · rw [frzd_out fun z => ?_]
    · exact (e0.bs b o e).2
    · obtain ⟨y, ey⟩ := hc b z
      rw [(hcf I.ok y b ey).2] at e
      cases e
  · rw [frzd_out fun z => hfs b z hb]
    exact e0.frf b hb
  · obtain ⟨y, e⟩ := hc c hm
    obtain ⟨v, o, ho, hd⟩ := I.cell y c e
    exact ⟨o, v, ho, hd⟩
theorem run_frz {us : List Value} {Q : VK} (I : Inv X pins σ H s) {cs : List Addr} (hc : ∀ c ∈ cs, ∃ y, X.env.cells.lookup y = some c) (hcf : X.Ok → ∀ x c, X.env.cells.lookup x = some c → c ∉ X.fs ∧ X.base.get? c = none) (hx0 : ∀ H s e s', CXT X.stack H s E0 e s' → False)
    (h : codeAny (model X.prog X.w) X.A (.call (.ref f) ⟨us, []⟩) (CR CXT X.stack X.prog X.w (frzd s.heap cs H) s Q E0) s) :
    wpAny (model X.prog X.w) X.A (call (.ref f) us) (EP X pins σ (fun v H4 => ∃ H3, H4 = thaw cs H3 ∧ (∀ c ∈ cs, ∃ o v, o.data = .cell v ∧ H3 c = some (.frz o (.own 0))) ∧ Q v H3)) X.xe s := by
  obtain ⟨_, hcs⟩ := env0_frz I hc hcf
  refine wpAny_call (codeAny_mono h fun r s' hq => ?_)
  cases r with
  | error e => exact (hx0 _ _ _ _ hq).elim
  | ok fl =>
    cases fl with
    | ret u => exact I.after (ce_thaw hcs hq)
    | next => exact False.elim hq
    | brk => exact False.elim hq
    | cont => exact False.elim hq
theorem fz_of (I : Inv X pins σ H s) (cp : ∀ y ∈ fr, X.env.scope.names.lookup y = some .cell ∨ X.env.scope.names.lookup y = some .free) :
    Fz X.env.cells X.N σ fr (clocs X.env.cells fr) H (frzd s.heap (clocs X.env.cells fr) H) ∧ ∀ c ∈ clocs X.env.cells fr, ∃ y, X.env.cells.lookup y = some c := by
  have hin : ∀ c ∈ clocs X.env.cells fr, ∃ y, X.env.cells.lookup y = some c := fun c hm => by
    obtain ⟨y, _, e⟩ := mem_clocs.mp hm
    exact ⟨y, e⟩
  refine ⟨⟨fun y hy => ?_, fun c hm => ?_, fun b hb => frzd_out hb, I.ok.inj⟩, hin⟩
  · obtain ⟨c, e⟩ := I.ok.has y (cp y hy)
    have hm : c ∈ clocs X.env.cells fr := mem_clocs.mpr ⟨y, hy, e⟩
    refine ⟨c, e, hm, fun j v h1 h2 => ?_⟩
    obtain ⟨m, hn, hl⟩ := I.loc
    have hv : Vis X.env.scope y := (cp y hy).elim (fun k => .inr (.inl k)) (fun k => .inr (.inr k))
    obtain ⟨u, r, q⟩ := hl j y v h1 h2 hv
    rcases q with ⟨k, _⟩ | ⟨_, c3, e', o, ho, hd⟩
    · have k' : X.env.scope.names.lookup y = some .local := k
      rcases cp y hy with z | z <;> rw [z] at k' <;> cases k'
    · rw [e] at e'
      cases e'
      exact ⟨o, u, r, hd, frzd_in hm ho⟩
  · obtain ⟨y, e⟩ := hin c hm
    exact I.freeC y c e
/-- f(..), f a kept def; the cells fr are known while it runs -/
def tCallZ (cells : List (Str × Addr)) (N : List Str) (fr : List Str) (sp : Sp) (dvs : List V) (t : TA) : TE := fun σ H Q => t σ H fun vs H1 => ∀ cs H2, Fz cells N σ fr cs H1 H2 → sp (vs ++ dvs) H2 (fun v H3 => (∀ c ∈ cs, ∃ o v, o.data = .cell v ∧ H3 c = some (.frz o (.own 0))) → Q v (thaw cs H3)) E0
theorem pe_callZ (F : FnOk X.prog X.w X.K X.mg X.base CXT k f fd ps sp) (hr : Room k X.A) (hg : Gl X x) (hm : X.mg x = some (.ref f)) (hk : PySem.W.keepIn X.K (.ref f) = true) (hb : Binds X.K fd ps ds) (hd : Vals dvs ds) (hx0 : ∀ H s e s', CXT X.stack H s E0 e s' → False)
    (cp : ∀ y ∈ fr, X.env.scope.names.lookup y = some .cell ∨ X.env.scope.names.lookup y = some .free) (hcf : X.Ok → ∀ x c, X.env.cells.lookup x = some c → c ∉ X.fs ∧ X.base.get? c = none) (ha : PA X (e :: es) t)
    (hdb : (x == ("__debug__" : Str)) = false := by decide) (he : starEach (e :: es) X.env = (false, eval e X.env) :: starEach es X.env := by rfl) (hpl : (backTo pos (starEach es X.env)).any (·.1) = false := by rfl) :
    PE X (.Call (.Name x p) (e :: es) [] pos) (tCallZ X.env.cells X.N fr sp dvs t) := by
  refine ⟨fun pins s σ H Q I h => ?_⟩
  refine wpAny_Call_Name_kw (ld_glob I hg hm ?_ hdb)
  refine PySem.W.callWith_K (h₀ := X.base) I.ok.mod.kin hk (thn (ha.run pos pins s σ H _ I h) fun us s1 ⟨vs, H1, I1, r, q⟩ => ⟨I1.kIn, ?_⟩) he hpl
  obtain ⟨fz, hc⟩ := fz_of (fr := fr) I1 cp
  obtain ⟨e1, _⟩ := env0_frz I1 hc hcf
  have q2 := q _ _ fz
  have r2 : Vals (vs ++ dvs) (us ++ ds) := r.append hd
  have hl : (us ++ ds).length = ps.length := by rw [← r2.length]; exact F.len _ _ _ _ q2
  refine thn (run_frz (CXT := CXT) I1 hc hcf hx0 (F.run X.A X.stack s1 _ ⟨us, []⟩ (us ++ ds) (vs ++ dvs) _ E0 hr e1 (hb s1 us I1.kIn hl) r2 q2)) fun u s2 ⟨v, H4, I2, rv, H3, e4, f4, q4⟩ => ⟨v, H4, I2, rv, ?_⟩
  rw [e4]
  exact q4 f4
/-- f(..), f a local name that holds a function; the cells fr are known while it runs -/
def tCallFZ (K : PySem.W.Frag) (cells : List (Str × Addr)) (N : List Str) (fr : List Str) (i : Nat) (SF : Addr → Sp) (t : TA) : TE := fun σ H Q => ∃ f, σ[i]? = some (some (.ref f)) ∧ FnV K H f ∧ t σ H fun vs H1 => FnV K H1 f ∧ ∀ cs H2, Fz cells N σ fr cs H1 H2 → SF f vs H2 (fun v H3 => (∀ c ∈ cs, ∃ o v, o.data = .cell v ∧ H3 c = some (.frz o (.own 0))) → Q v (thaw cs H3)) E0
theorem pe_callFZ (hS : ∀ f, HeldF X.prog X.w X.K X.mg X.base CXT k f (SF f)) (hr : Room k X.A) (hx0 : ∀ H s e s', CXT X.stack H s E0 e s' → False) (hN : X.N[i]? = some x) (hv : Vis X.env.scope x)
    (cp : ∀ y ∈ fr, X.env.scope.names.lookup y = some .cell ∨ X.env.scope.names.lookup y = some .free) (hcf : X.Ok → ∀ x c, X.env.cells.lookup x = some c → c ∉ X.fs ∧ X.base.get? c = none) (ha : PA X (e :: es) t)
    (hdb : (x == ("__debug__" : Str)) = false := by decide) (hcd : (x == ("__classdict__" : Str)) = false := by decide)
    (he : starEach (e :: es) X.env = (false, eval e X.env) :: starEach es X.env := by rfl) (hpl : (backTo pos (starEach es X.env)).any (·.1) = false := by rfl) :
    PE X (.Call (.Name x p) (e :: es) [] pos) (tCallFZ X.K X.env.cells X.N fr i SF t) := by
  refine ⟨fun pins s σ H Q I h => ?_⟩
  obtain ⟨f, hs, hf, ht⟩ := h
  refine wpAny_Call_Name_kw (thn ((pe_var (pos := p) hN hv hdb hcd).run pins s σ H (fun v H1 => v = .ref f ∧ H1 = H) I ⟨.ref f, hs, rfl, rfl⟩) fun u s1 ⟨v, H1, I1, r1, q1⟩ => ?_)
  obtain ⟨ev, eH⟩ := q1
  subst ev
  rw [eH] at I1
  obtain rfl : u = Value.ref f := r1
  refine callWith_FnV I1 hf (thn (ha.run pos pins s1 σ H _ I1 ht) fun us s2 ⟨vs, H2, I2, r, f2, q⟩ => ⟨⟨σ, H2, pins, I2, f2⟩, ?_⟩) he hpl
  obtain ⟨fz, hc⟩ := fz_of (fr := fr) I2 cp
  obtain ⟨e1, _⟩ := env0_frz I2 hc hcf
  refine thn (run_frz (CXT := CXT) I2 hc hcf hx0 (hS f X.A X.stack s2 _ us vs _ E0 hr e1 r (q _ _ fz))) fun u s2 ⟨v, H4, I2, rv, H3, e4, f4, q4⟩ => ⟨v, H4, I2, rv, ?_⟩
  rw [e4]
  exact q4 f4
end
/-- the cells of a def's own frame -/
theorem own_cells {CXT : CXT} {P : Program} {w : World} {K : PySem.W.Frag} {mg : Str → Option Value} {base : Heap} {N : List Str} {qual : Str} {scope : Scope} {f : Addr} {cd : Value} {A : Around} {outer : List Env} {s : Shared} {H : Hp} {E : XK} :
    (cxOf CXT P w K mg base N qual scope f cd A outer s H E).Ok → ∀ x c, (cxOf CXT P w K mg base N qual scope f cd A outer s H E).env.cells.lookup x = some c → c ∉ (cxOf CXT P w K mg base N qual scope f cd A outer s H E).fs ∧ (cxOf CXT P w K mg base N qual scope f cd A outer s H E).base.get? c = none := by
  intro ok x c e
  have h1 := ok.cab x c rfl e
  refine ⟨fun hb => ?_, Heap.get?_none_of_le (Nat.le_trans ok.bsz h1)⟩
  obtain ⟨_, o, ho, _⟩ := ok.funs.mem hb
  exact absurd (Nat.lt_of_lt_of_le (Heap.lt_size ho) h1) (Nat.lt_irrefl _)
end Wm
/-! W7 -/
namespace PySem
namespace BadX
open PySem.W PySem.Calls PyProof.Rows PySem.HandSPX
/-! ### an own error whose __init__ says super().__init__(text); self.value = value -/
def iA : Arguments := { posonlyargs := [], args := [{ arg := "self", annotation := none, pos := ⟨29, 17, 29, 21⟩ }, { arg := "value", annotation := none, pos := ⟨29, 23, 29, 28⟩ }], vararg := none, kwonlyargs := [], kw_defaults := [], kwarg := none, defaults := [] }
def iB : List Stmt :=
  [.Expr (.Call (.Attribute (.Call (.Name "super" ⟨30, 8, 30, 13⟩) [] [] ⟨30, 8, 30, 15⟩) "__init__" ⟨30, 8, 30, 24⟩) [.Constant (.str "not a row that is wanted") 0 ⟨30, 25, 30, 51⟩] [] ⟨30, 8, 30, 52⟩) ⟨30, 8, 30, 52⟩,
   .Assign [.Attribute (.Name "self" ⟨31, 8, 31, 12⟩) "value" ⟨31, 8, 31, 18⟩] (.Name "value" ⟨31, 21, 31, 26⟩) ⟨31, 8, 31, 26⟩]
def iS : Scope := { kind := .function, names := [(PySem.Str.ofString "self", .local), (PySem.Str.ofString "value", .local), (PySem.Str.ofString "__class__", .free), (PySem.Str.ofString "super", .globalImplicit)], isGenerator := false, isCoroutine := false, more := [] }
/-- what the written part says of the class named nm0, at C, and of its __init__, at fI -/
structure BadTxt (P : Program) (K : Frag) (mg : Str → Option Value) (nm0 : Str) (C fI : Addr) : Prop where
  gC : mg nm0 = some (.ref C)
  cls : ∃ nm q N bs bm sn sub ab col dd k0 k1 k2 k3 k5, K.lookup C = some (excClassObj nm q C N bs bm true sn sub ab col dd k0 k1 k2 k3 k5 "ValueError.__new__") ∧ refsVE bm = true
  sa : findIn K (.ref C) "__setattr__" = some (some (.builtin "object.__setattr__"))
  ga : findIn K (.ref C) "__getattribute__" = some (some (.builtin "BaseException.__getattribute__"))
  gg : findIn K (.ref C) "__getattr__" = some none
  noN : findIn K (.ref C) "value" = some none
  iC : findIn K (.ref C) "__init__" = some (some (.ref fI))
  tC : typeIn K (.ref fI) = some (.type "function")
  kC : keepIn K (.ref C) = true
  exC : subIn K (.ref C) (.type "BaseException") = some true
  veC : subIn K (.ref C) (.type "ValueError") = some true
  tyC : typeIn K (.ref C) = some (.type "type")
  hdC : hasDictIn K C = true
  te : exmOne K (.ref C) (.ref C) = some true
  sup : ks_superIn K C C "__init__" = some (some (.builtin "ValueError.__init__"))
  self : mroIn K C (.ref C) = some true
  opq : nsIn K cStatics "thirdparty.any" = some none
  noS : mg "super" = none
  main : (P.main.scope.names.lookup ("super" : Str)).isSome = false
  fn : ∃ (oc : Value) (od : Option Addr) (doc pm : Value) (an : Option Addr) (cda cc : Addr) (ct : Value) (osl : Array (Option Value)) (vs : Array Value) (file : Str) (tf : Tok) (ccl cl : Value) (cdd cld : Option Addr) (ccs csl : Array (Option Value)),
    K.lookup fI = some ⟨oc, od, .func (fnX "__init__" (nm0 ++ ".__init__") iA iB iS [("__class__", cc)] .none .none doc pm an (.ref cda) ct), osl⟩ ∧ codeIn K (.ref cda) (nm0 ++ ".__init__") = true ∧
    K.lookup cda = some ⟨ccl, cdd, .fields vs, ccs⟩ ∧ vs[2]? = some (.str file tf) ∧ ((P.main.file : Str) == file) = true ∧ K.lookup cc = some ⟨cl, cld, .cell (some (.ref C)), csl⟩
theorem one_size (v : Value) : [v].length ≤ sizeLine := by
  rw [sizeLine_eq]
  exact (by decide : 1 ≤ 16777216)
/-- what __init__ leaves of a fresh error at x -/
structure InitEnd (h h' : Heap) (x C dx : Addr) (v : Value) : Prop where
  keep : ∀ b o, b ≠ x → h.get? b = some o → h'.get? b = some o
  obj : ∃ t1, h'.get? x = some { cls := .ref C, dict := some dx, data := .fields #[.ref t1, .none, .none, .none, .bool false, .none] }
  dbig : h.objs.size ≤ dx
  dne : dx ≠ x
  ns : h'.Ns1 dx (fun y => if y = "value" then some v else none)
/-- a made error -/
structure OwnMade (h h' : Heap) (e C d : Addr) (v : Value) : Prop where
  keep : ∀ b o, h.get? b = some o → h'.get? b = some o
  new : h.objs.size ≤ e
  obj : ∃ oe vs, h'.get? e = some oe ∧ oe.cls = .ref C ∧ oe.dict = some d ∧ oe.data = .fields vs ∧ vs[1]? = some .none
  dbig : h.objs.size ≤ d
  dne : d ≠ e
  ns : h'.Ns1 d (fun y => if y = "value" then some v else none)
section
variable {prog : Program} {w : World} {A : Around} {E : Value → Shared → Prop} {R : Result → Shared → Prop} {s : Shared} {K : Frag} {mg mb : Str → Option Value} {nm0 : Str} {C fI : Addr}
theorem ldX {M : Model} {s : Shared} {name : Str} {scope : Scope} {L a : Addr} {cd : Value} {cl : List (Str × Addr)} {m : Str → Option Value} {x : Str} {pos : Pos} {v : Value} {Q : Value → Shared → Prop} {A : Around} {E : Value → Shared → Prop} (hn : s.heap.Ns L m) (hv : m x = some v) (h : Q v s)
    (hk : scope.kind = .function := by rfl) (hl : (envX name scope L a cd cl).kindOf x = some .local := by rfl) (hd : (x == ("__debug__" : Str)) = false := by decide) :
    wpAny M A (eval (.Name x pos) (envX name scope L a cd cl)) Q E s := wpAny_Name (wpAny_loadName_local hk hl hn hv h) hd
theorem bad_init (T : BadTxt prog K mg nm0 C fI) {x t0 : Addr} {v : Value} (X : K.In s.heap) (hlim : s.heap.NoLimit) (hG : s.heap.Ns mainGlobals mg) (hB : s.heap.Ns builtinsNs mb) (hb : mb "super" = some (.type "super")) (hx : s.heap.get? x = some (excO C t0)) (hnx : K.lookup x = none) (hroom : A.depth < recursionLimit)
    (hq : ∀ h' tk dx, InitEnd s.heap h' x C dx v → R (.ok (.ret .none)) { s with heap := h', toks := tk }) :
    codeAny (model prog w) A (.call (.ref fI) ⟨[.ref x, v], []⟩) R s := by
  obtain ⟨oc, od, doc, pm, an, cda, cc, ct, osl, vs, file, tf, ccl, cl, cdd, cld, ccs, csl, ho, hcd, hcode, hvs, hfile, hcell⟩ := T.fn
  obtain ⟨nm, q, N, bs, bm, sn, sub, ab, col, dd, k0, k1, k2, k3, k5, hC, hbm⟩ := T.cls
  have hcl : clsIn K C = some { name := nm, bases := bs, mro := .ref C :: bm, ns := N, qualname := q, hasDict := true, slotNames := sn, subclasses := sub, abstract := ab, collection := col, hasDel := false } := by unfold clsIn; rw [hC] <;> rfl
  refine ks_codeAny_call_defAt (fd := fnX "__init__" (nm0 ++ ".__init__") iA iB iS [("__class__", cc)] .none .none doc pm an (.ref cda) ct) (body := iB) (binds := [("self", .ref x), ("value", v)])
    hroom (X _ _ ho) rfl hlim (codeRec_of X hcd) rfl (BindsTo.of_eq (by first | rfl | with_unfolding_all rfl)) (show ∀ x ∈ iS.names, x.2 ≠ NameKind.cell by decide +kernel) (fun y hy => ?_) (fun h1 hns k1 => ?_) rfl rfl rfl
  · rcases List.mem_cons.mp hy with z | z
    · rw [z]
      show iS.names.lookup ("self" : Str) = some .local
      rfl
    · rw [List.mem_singleton.mp z]
      show iS.names.lookup ("value" : Str) = some .local
      rfl
  have X1 : K.In h1 := X.keeps k1
  have hx1 := k1 _ _ hx
  have hxL : x < s.heap.objs.size := Heap.lt_size hx
  have hns' : h1.Ns s.heap.objs.size (fun y => [(("self" : Str), Value.ref x), ("value", v)].reverse.lookup y) := hns
  have I1 : InstAt h1 x (excO C t0) C none := ⟨hx1, rfl, rfl, trivial⟩
  show _root_.PySem.wpAt (model prog w) (A.deeper (envX (nm0 ++ ".__init__") iS s.heap.objs.size fI (.ref cda) [("__class__", cc)])) _ (execs _ (envX (nm0 ++ ".__init__") iS s.heap.objs.size fI (.ref cda) [("__class__", cc)])) _ _ _
  unfold iB
  refine ks_wpAt_execs_cons (ks_wpAt_Expr_any ?_)
  refine ks_wpAt_MethodCall (pl := (do return (← importBound (.Call (.Name "super" ⟨30, 8, 30, 13⟩) [] [] ⟨30, 8, 30, 15⟩) (envX (nm0 ++ ".__init__") iS s.heap.objs.size fI (.ref cda) [("__class__", cc)])).getD true)) ?_ (by with_unfolding_all rfl)
  refine (ks_wpAt_super_base (f := fI) (cc := cda) (fd := fnX "__init__" (nm0 ++ ".__init__") iA iB iS [("__class__", cc)] .none .none doc pm an (.ref cda) ct) (ar := { arg := "self", annotation := none, pos := ⟨29, 17, 29, 21⟩ }) rfl rfl rfl rfl (X1 _ _ ho) rfl rfl rfl (X1 _ _ hcode) rfl hvs hfile T.main ?_)
  have hbs : bootBuiltins "super" = some (.type "super") := by decide +kernel
  refine ks_loadName_global rfl rfl (loadGlobal_builtin (env := envX (nm0 ++ ".__init__") iS s.heap.objs.size fI (.ref cda) [("__class__", cc)]) (hG.keeps k1) T.noS (hB.keeps k1) hb ⟨rfl, ?_⟩)
  refine wpAny_loadName_free rfl rfl rfl ⟨_, X1 _ _ hcell, rfl⟩ ?_
  refine wpAny_loadName_local rfl rfl hns' (show _ = some (Value.ref x) by first | rfl | with_unfolding_all rfl | kernel_rfl) ?_
  refine ks_wpAny_isType_cls (X1 _ _ hC) rfl ⟨rfl, ?_⟩
  have hxC1 := I1.no
  refine ks_wpAny_call_super (X1 _ _ hC) rfl hx1 rfl (fun c e => ?_) (looks_mroIn X1 T.self) (fun h2 e2 k2 => ?_)
  · cases e
  have X2 : K.In h2 := X1.keeps k2
  have hx2 : h2.get? x = some (excO C t0) := k2 _ _ hx1
  have I2 : InstAt h2 x (excO C t0) C none := ⟨hx2, rfl, rfl, trivial⟩
  have hI : Looks (model prog w) h2 (isInstance (.ref x) (.type "ValueError")) true := I2.type.andThen (looks_subIn X2 T.veC)
  have hm := T.sup
  unfold ks_superIn at hm
  rw [hcl] at hm
  refine kxs_getMethod kxs_ValueError (so := h1.objs.size) e2 (looks_opaque X2 T.opq) (l₀ := .ref C :: bm) ?_ rfl X2 hm hI (ks_ne X2 I2 hcl) (by decide +kernel) ?_
  · exact fun A Q E s k q => wpAny_bind ((looks_clsIn X2 hcl) A _ E s k (wpAny_pure q))
  have eu : (h2.push (kxs_mw "ValueError.__init__" x)).get? h2.objs.size = some (kxs_mw "ValueError.__init__" x) := Heap.get?_push_at rfl rfl
  have k3 : ∀ b o, h2.get? b = some o → (h2.push (kxs_mw "ValueError.__init__" x)).get? b = some o := fun b o e => Heap.get?_push_of_some _ e
  have X3 := X2.keeps k3
  have hx3 := k3 _ _ hx2
  refine kxs_callWith (i := "ValueError.__init__") (x := x) rfl ?_
  refine evalArgs_plain ?_
  refine Calls.spliced_cons (x := eval (.Constant (.str "not a row that is wanted") 0 ⟨30, 25, 30, 51⟩) (envX (nm0 ++ ".__init__") iS s.heap.objs.size fI (.ref cda) [("__class__", cc)])) (wpAny_Constant_str (Calls.spliced_nil ⟨eu, ?_⟩))
  refine wpAny_call (codeAny_of_tree ?_)
  show wpAny _ _ (callAny (.ref h2.objs.size) ⟨_, []⟩) _ _ _
  simp only [callAny]
  refine wpAny_bind (wpAny_load eu ?_)
  simp only [kxs_mw, show (Value.type "method-wrapper" == Value.type "method" || Value.type "method-wrapper" == Value.type "builtin_function_or_method" || Value.type "method-wrapper" == Value.type "method-wrapper") = true by decide, if_true]
  refine KFB.if_so (by decide) ?_
  refine wpAny_bind (check_bound_init F.excBase_ValueError.toExcCallFacts (X3 _ _ hC) hx3 rfl ?_)
  refine wpAny_bind (wpAny_pure (wpAny_pure ?_))
  refine ⟨plainId_quiet F.excBase_ValueError.init.plain _, codeAny_builtin F.excBase_ValueError.initEntry ?_⟩
  refine exc_init_tree (cls := .ref C) (t0 := t0) (dv := none) (c2 := .none) (c3 := .none) (b4 := .bool false) hx3 (one_size _) fun h4 k4 hx4 ht4 => ?_
  have k04 : ∀ b o, b ≠ x → s.heap.get? b = some o → h4.get? b = some o := fun b o hb e => k4 b o hb (k3 b o (k2 b o (k1 b o e)))
  have X4 : K.In h4 := fun a o e => k4 a o (fun z => by
    rw [z, hnx] at e
    cases e) (X3 a o e)
  have hns4 : h4.Ns s.heap.objs.size (fun y => [(("self" : Str), Value.ref x), ("value", v)].reverse.lookup y) := by
    obtain ⟨oL, es, ep, hL, r⟩ := hns'
    exact ⟨oL, es, ep, k4 _ _ (Nat.ne_of_gt hxL) (k3 _ _ (k2 _ _ hL)), r⟩
  -- self.value = value
  refine wpAt_of_wpAny ?_
  show wpAny _ _ (execs _ _) _ _ _
  refine wpAny_execs_cons (plainObj_wpAny_Assign_Attribute ?_)
  refine ldX (v := v) hns4 (by first | rfl | with_unfolding_all rfl | kernel_rfl) (ldX (v := .ref x) hns4 (by first | rfl | with_unfolding_all rfl | kernel_rfl) ?_)
  refine set_plain X4 (ox := excRec (.ref C) (h2.push (kxs_mw "ValueError.__init__" x)).objs.size none .none .none (.bool false)) (od := none) ⟨hx4, rfl, rfl, trivial⟩ T.sa ?_
  refine exc_osa X4 hx4 hcl (show refsVE (.ref C :: bm) = true from hbm) rfl T.noN (fun h5 tk5 dx k5 dn dne hx5 hn5 => ?_)
  show wpAny _ _ (execs _ _) _ _ _
  have z : s.heap.objs.size < h4.objs.size := hns4.lt
  exact wpAny_execs_nil (hq h5 tk5 dx ⟨fun b o hb e => k5 b o hb (k04 b o hb e), ⟨_, hx5⟩, Nat.le_of_lt (Nat.lt_of_lt_of_le z dn), dne, hn5⟩)
theorem bad_made (T : BadTxt prog K mg nm0 C fI) {v : Value} (X : K.In s.heap) (hlim : s.heap.NoLimit) (hG : s.heap.Ns mainGlobals mg) (hB : s.heap.Ns builtinsNs mb) (hb : mb "super" = some (.type "super")) (hroom : A.depth + 1 < recursionLimit)
    (hq : ∀ h' tk e d, OwnMade s.heap h' e C d v → R (.ok (.ret (.ref e))) { s with heap := h', toks := tk }) :
    codeAny (model prog w) A (.call (.ref C) ⟨[v], []⟩) R s := by
  obtain ⟨nm, q, N, bs, bm, sn, sub, ab, col, dd, k0, k1, k2, k3, k5, hC, hbm⟩ := T.cls
  obtain ⟨hp, g, dr, tk, os⟩ := s
  have k : ∀ b o, hp.get? b = some o → ((hp.push (kdv_tup [v])).push (excO C hp.objs.size)).get? b = some o := fun b o e => Heap.get?_push_of_some _ (Heap.get?_push_of_some _ e)
  have hget : ((hp.push (kdv_tup [v])).push (excO C hp.objs.size)).get? (hp.objs.size + 1) = some (excO C hp.objs.size) := by heap_get
  have hnx : K.lookup (hp.objs.size + 1) = none := by
    cases e : K.lookup (hp.objs.size + 1) with
    | none => rfl
    | some o =>
      have z : hp.get? (hp.objs.size + 1) = some o := X _ _ e
      exact absurd (Nat.lt_of_succ_lt (Heap.lt_size z)) (Nat.lt_irrefl _)
  refine call_own F.excBase_ValueError (fun X => refsVE_contains X bm hbm) (X _ _ hC) (looks_findIn X T.iC) (fun self => bind_fn X self T.tC) (one_size v) ?_
  refine bad_init (s := ⟨(hp.push (kdv_tup [v])).push (excO C hp.objs.size), g, dr, tk, os⟩) T (X.keeps k) (hlim.keeps k) (hG.keeps k) (hB.keeps k) hb hget hnx ?_ fun h' tk' dx ⟨k', hx, dn, dne, hns⟩ => ?_
  · show A.depth + 1 < recursionLimit
    exact hroom
  · have old : ∀ b o, hp.get? b = some o → h'.get? b = some o := fun b o e => k' b o (Nat.ne_of_lt (Nat.lt_succ_of_lt (Heap.lt_size e))) (k b o e)
    have z : hp.objs.size + 1 + 1 ≤ dx := by
      first
        | (simpa only [Heap.size_push] using dn)
        | exact dn
        | (have q := dn; rw [Heap.size_push, Heap.size_push] at q; exact q)
    obtain ⟨t1, hx⟩ := hx
    exact ⟨rfl, hq h' tk' (hp.objs.size + 1) dx ⟨old, Nat.le_succ _, ⟨_, _, hx, rfl, rfl, rfl, rfl⟩, Nat.le_trans (Nat.le_trans (Nat.le_succ _) (Nat.le_succ _)) z, dne, hns⟩⟩
end
end BadX
end PySem
namespace Wm
open PySem PySem.Spec PyProof.Rows L2
theorem relO_bad {v : V} {v' : Value} (r : RelV v v') (f : Str) : RelO (List.lookup f [(("value" : Str), v)]) (if f = "value" then some v' else none) := by
  by_cases hw : f = "value"
  · subst hw
    rw [if_pos rfl]
    have q : List.lookup ("value" : Str) [(("value" : Str), v)] = some v := by simp [List.lookup]
    rw [q]
    exact r
  · rw [if_neg hw]
    have qw : (f == ("value" : Str)) = false := by simpa using hw
    have q2 : List.lookup f [(("value" : Str), v)] = none := by simp [List.lookup, qw]
    rw [q2]
    trivial
section
variable {X : Cx} {C fI : Addr} {nm0 : Str}
/-- BadRow(e) -/
def tMkBad (C : Addr) (ta : TA) : L2.St → Hp → XK → Prop := fun σ H Q => ta σ H fun vs H1 => ∃ v, vs = [v] ∧ ∀ d, H1 d = none → Q (.ref C) (some d) (upd H1 d (.xd [(("value" : Str), v)]))
theorem pmk_bad {a : Expr} {ta : TA} {p pos : Pos} {k : Nat} (T : PySem.BadX.BadTxt X.prog X.K X.mg nm0 C fI) (hr : Room k X.A) (ha : PA X [a] ta) (hg : Gl X nm0 := by rfl) (hd0 : (nm0 == ("__debug__" : Str)) = false := by decide)
    (he : starEach (a :: []) X.env = (false, eval a X.env) :: starEach [] X.env := by rfl) (hpl : (backTo pos (starEach [] X.env)).any (·.1) = false := by rfl) :
    PMk X (.Call (.Name nm0 p) [a] [] pos) (tMkBad C ta) := by
  intro pins s σ H Q I h
  refine wpAny_Call_Name_kw (ld_glob I hg T.gC (hd := hd0) ?_)
  refine PySem.W.callWith_K (h₀ := X.base) I.ok.mod.kin T.kC (thn (ha.run pos pins s σ H _ I h) fun us s1 hh => ?_) he hpl
  obtain ⟨vs, H1, I1, r1, v, ev, q1⟩ := hh
  subst ev
  refine ⟨I1.kIn, ?_⟩
  cases r1 with
  | cons rv rn =>
    rename_i v' us'
    cases rn
    show wpAny _ _ (call (.ref C) [v']) _ _ _
    have hlim := I1.nolimit
    obtain ⟨mb, hB0, hbs⟩ := I1.mod.blt
    have hG1 := I1.mod.glob.keeps I1.bk
    have hB1 := hB0.keeps I1.bk
    have hsup : mb "super" = some (.type "super") := (hbs "super" (by decide +kernel)).trans (by decide +kernel)
    have hk1 := I1.kIn
    obtain ⟨hp, g, dr, tk, os⟩ := s1
    refine wpAny_call (PySem.BadX.bad_made T hk1 hlim hG1 hB1 hsup (by have := hr.dp; omega) fun h' tk' e d M => ?_)
    show MkP X pins σ Q (.ref e) ⟨h', g, dr, tk', os⟩
    obtain ⟨oe, fv, hoe, hc, hd, hdat, h1⟩ := M.obj
    have hns := M.ns
    obtain ⟨G', g1, g2⟩ := restrict h' fun b => decide (b ≠ e)
    have gk : ∀ b, b ≠ e → G'.get? b = h'.get? b := fun b hb => g1 b (decide_eq_true hb)
    have ge : G'.get? e = none := g2 e (by simp)
    have old : ∀ b o, hp.get? b = some o → G'.get? b = some o := fun b o q => (gk b (Nat.ne_of_lt (Nat.lt_of_lt_of_le (Heap.lt_size q) M.new))).trans (M.keep b o q)
    have ob : ObjOk X.prog X.w (upd H1 d (.xd [(("value" : Str), v)])) G' d (.xd [(("value" : Str), v)]) :=
      ⟨_, hns.at (fun o q => (gk d M.dne).trans q), fun f => relO_bad rv f⟩
    have J : Inv X pins σ (upd H1 d (.xd [(("value" : Str), v)])) ⟨G', g, dr, tk', os⟩ := I1.laid (t' := tk') old M.dbig ob
    refine ⟨e, oe, fv, ⟨G', g, dr, tk', os⟩, _, .ref C, some d, rfl, J, fun b o q => ?_, ge, hoe, ⟨hc, hd⟩, hdat, h1, ?_, rfl, I1.bare, raises_own T.exC T.tyC, q1 d (I1.hok.fresh M.dbig)⟩
    · by_cases hb : b = e
      · have q' : G'.get? b = some o := q
        rw [hb, ge] at q'; cases q'
      · exact (gk b hb).symm.trans q
    · rw [upd_ne (Ne.symm M.dne)]
      exact I1.hok.fresh M.new
/-- raise BadRow(e) -/
def tRaiseBad (C : Addr) (W : WX) (ta : TA) : TS := fun _ σ H => tMkBad C ta σ H fun cls d H' => W cls d σ H'
theorem ps_raiseBad {a : Expr} {ta : TA} {W : WX} {p pos pos2 : Pos} {k : Nat} (hc : X.calm = true) (T : PySem.BadX.BadTxt X.prog X.K X.mg nm0 C fI) (hr : Room k X.A) (tk : Takes X W) (ha : PA X [a] ta) (hg : Gl X nm0 := by rfl) (hd0 : (nm0 == ("__debug__" : Str)) = false := by decide)
    (he : starEach (a :: []) X.env = (false, eval a X.env) :: starEach [] X.env := by rfl) (hpl : (backTo pos (starEach [] X.env)).any (·.1) = false := by rfl) :
    PS X (.Raise (some (.Call (.Name nm0 p) [a] [] pos)) none pos2) (tRaiseBad C W ta) := ps_raise hc tk (pmk_bad T hr ha hg hd0 he hpl)
/-- e.value, e the exception that the suite holds (at a; its class cls, its dict d) -/
def tByBad (C : Addr) (a : Addr) (cls : Value) (d : Option Addr) (te : TE) : TE := fun σ H Q => te σ H fun x H1 => x = .ref a ∧ cls = .ref C ∧ ∃ (dd : Addr) (v : V), d = some dd ∧ H1 dd = some (.xd [(("value" : Str), v)]) ∧ Q v H1
theorem pe_byBad {a : Addr} {oe : Obj} {cls : Value} {d : Option Addr} {pn : List (Addr × Obj)} {e : Expr} {te : TE} {pos : Pos} (T : PySem.BadX.BadTxt X.prog X.K X.mg nm0 C fI) (hz : Zc cls d oe) (hf : ∃ vs, oe.data = .fields vs) (he : PE (X.suite a ((a, oe) :: pn)) e te)
    (hb : attributeBase e "value" X.env (eval e X.env) = eval e X.env := by rfl) :
    PE (X.suite a ((a, oe) :: pn)) (.Attribute e "value" pos) (tByBad C a cls d te) := by
  refine ⟨fun pins s σ H Q I h => ?_⟩
  refine attr_of hb (thn (he.run pins s σ H _ I h) fun u s1 hh => ?_)
  obtain ⟨x, H1, I1, rx, ex, ec, dd, v, ed, ea, q⟩ := hh
  subst ex
  obtain rfl : u = Value.ref a := rx
  subst ec
  subst ed
  obtain ⟨ha, _⟩ := I1.pin (a, oe) (List.mem_append_left _ List.mem_cons_self)
  obtain ⟨vs, hd⟩ := hf
  have hx : ObjOk X.prog X.w H1 s1.heap dd (.xd [(("value" : Str), v)]) := I1.hok dd _ ea
  obtain ⟨mA, hns, hr⟩ := hx
  obtain ⟨od, ho, hl⟩ := lookIn_ns hns
  have l : List.lookup ("value" : Str) [(("value" : Str), v)] = some v := by simp [List.lookup]
  obtain ⟨u, hu, ru⟩ := RelO.some_of (v := v) (o := mA "value") (by rw [← l]; exact hr "value")
  have J : PySem.W.InstAt s1.heap a oe C (some od) := ⟨ha, hz.1, by unfold PySem.W.notCls; rw [hd] <;> rfl, by rw [hz.2]; exact ho⟩
  exact HandSPX.exc_get I1.kIn J T.ga T.gg T.exC (PySem.W.findObj_own T.hdC T.noN rfl (by rw [hl, hu])) (handed_of ru) ⟨v, H1, I1.tok _, ru, q⟩
end
end Wm
/-! W8 -/
/-! sets of keys of any one kind: what is in them is told by a list; added to, made of a list, sorted, by comprehensions -/
namespace Wm
open PySem PySem.Spec PyProof.Rows L2
theorem paired_perm {α β : Type} {R : α → β → Prop} : ∀ {l l' : List β} {ks : List α}, l.Perm l' → Paired R ks l → ∃ ks', ks.Perm ks' ∧ Paired R ks' l'
  | _, _, ks, .nil, p => ⟨ks, List.Perm.refl _, p⟩
  | _, _, _, .cons x h, .cons r p => by
    obtain ⟨ks', a, b⟩ := paired_perm h p
    exact ⟨_ :: ks', a.cons _, .cons r b⟩
  | _, _, _, .swap x y l, .cons r (.cons q p) => ⟨_, List.Perm.swap _ _ _, .cons q (.cons r p)⟩
  | _, _, ks, .trans h1 h2, p => by
    obtain ⟨k1, a, b⟩ := paired_perm h1 p
    obtain ⟨k2, c, d⟩ := paired_perm h2 b
    exact ⟨k2, a.trans c, d⟩
theorem paired_mem {α β : Type} {R : α → β → Prop} : ∀ {l : List β} {ks : List α} {k : α}, Paired R ks l → k ∈ ks → ∃ e ∈ l, R k e
  | _, _, _, .nil, h => nomatch h
  | _, _, k, .cons r p, h => by
    rcases List.mem_cons.mp h with z | z
    · subst z; exact ⟨_, List.mem_cons_self, r⟩
    · obtain ⟨e, a, b⟩ := paired_mem p z
      exact ⟨e, List.mem_cons_of_mem _ a, b⟩
theorem paired_mem' {α β : Type} {R : α → β → Prop} : ∀ {l : List β} {ks : List α} {e : β}, Paired R ks l → e ∈ l → ∃ k ∈ ks, R k e
  | _, _, _, .nil, h => nomatch h
  | _, _, k, .cons r p, h => by
    rcases List.mem_cons.mp h with z | z
    · subst z; exact ⟨_, List.mem_cons_self, r⟩
    · obtain ⟨e, a, b⟩ := paired_mem' p z
      exact ⟨e, List.mem_cons_of_mem _ a, b⟩
/-- a key put into a row of keys -/
def insK {κ : Type} [DecidableEq κ] (k : κ) (xs : List κ) : List κ := if k ∈ xs then xs else k :: xs
section
variable {P : Program} {w : World} {κ : Type} [DecidableEq κ]
def EntOk (kd : PySem.KeyKind P w κ) (k : κ) (e : Int × Value) : Prop := kd.is k e.2 = true ∧ e.1 = kd.hash k ∧ e.2.scannable = true
/-- the set at a holds xs, none twice -/
def SetG (kd : PySem.KeyKind P w κ) (h : Heap) (a : Addr) (xs : List κ) : Prop :=
  ∃ o es ep t ks, h.get? a = some o ∧ o.ExactSet ∧ o.data = .set es ep t ∧ Paired (EntOk kd) ks es.toList ∧ ks.Nodup ∧ ks.Perm xs ∧
    es.size < scanBound ∧ t.fits es.size = true ∧ Ris t.place.toList ∧ (w.params.followText "set-order" = true ∨ t.led = true)
variable {kd : PySem.KeyKind P w κ} {h h' : Heap} {a : Addr} {xs : List κ}
theorem SetG.at (R : SetG kd h a xs) (k : ∀ o, h.get? a = some o → h'.get? a = some o) : SetG kd h' a xs := by
  obtain ⟨o, es, ep, t, ks, ho, r⟩ := R
  exact ⟨o, es, ep, t, ks, k o ho, r⟩
theorem SetG.perm {ys : List κ} (R : SetG kd h a xs) (p : xs.Perm ys) : SetG kd h a ys := by
  obtain ⟨o, es, ep, t, ks, ho, a1, a2, a3, a4, a5, r⟩ := R
  exact ⟨o, es, ep, t, ks, ho, a1, a2, a3, a4, a5.trans p, r⟩
theorem ents_elems {l : List (Int × Value)} {ks : List κ} (g : Paired (EntOk kd) ks l) : ElemsOf kd l := fun e he => by
  obtain ⟨k, _, a, b, c⟩ := paired_mem' g he
  exact ⟨⟨k, a, b⟩, c⟩
theorem ents_mem {l : List (Int × Value)} {ks : List κ} (g : Paired (EntOk kd) ks l) (k : κ) : k ∈ ks ↔ ∃ e ∈ l, kd.is k e.2 = true := by
  constructor
  · intro h
    obtain ⟨e, a, b, _⟩ := paired_mem g h
    exact ⟨e, a, b⟩
  · rintro ⟨e, a, b⟩
    obtain ⟨k', a', b', _⟩ := paired_mem' g a
    rw [kd.inj e.2 k k' b b']
    exact a'
end
section
variable {P : Program} {w : World} {κ : Type} [DecidableEq κ] {kd : PySem.KeyKind P w κ} {A : Around} {E : Value → Shared → Prop} {s : Shared} {a : Addr} {xs : List κ}
theorem setG_add_tail {g : Bool → Sem Unit} (hg : ∀ (b : Bool) (s₁ : Shared) (Q' : Unit → Shared → Prop), Q' () s₁ → wpAny (model P w) A (g b) Q' E s₁)
    {o : Obj} {es : Array (Int × Value)} {ep : Nat} {t : SetTable} (ho : s.heap.get? a = some o) (hex : o.ExactSet) (hd : o.data = .set es ep t)
    {es1 : Array (Int × Value)} {t2 : SetTable} {ks : List κ} (g1 : Paired (EntOk kd) ks es1.toList) (nd1 : ks.Nodup) (m1 : ks.Perm xs)
    (hb1 : es1.size < scanBound) (hf2 : t2.fits es1.size = true) (hr : Ris t2.place.toList) (hl : w.params.followText "set-order" = true ∨ t2.led = true) {wasDummy : Bool} {R : Option Bool → Shared → Prop}
    (hR : ∀ h', Heap.SameBut a s.heap h' → SetG kd h' a xs → R (some true) { s with heap := h' }) :
    wpAny (model P w) A (do
        storeSet a es1 t2
        if (!wasDummy && t2.tooFull) = true then do
            g (relayAll t2 es1 (SetTable.grown es1.size)).2.2
            storeSet a (relayAll t2 es1 (SetTable.grown es1.size)).1 (relayAll t2 es1 (SetTable.grown es1.size)).2.1
            pure (some true)
          else pure (some true)) R E s := by
  refine wpAny_bind (wpAny_storeSet_of ho hd ?_ (fits_of_scanBound hb1))
  have ho1 := L2.store_at (es' := es1) (t' := t2) ho hd
  have sb1 := Heap.SameBut.update s.heap a (Obj.putSet es1 t2)
  split
  · have pm := relayAll_perm t2 es1 (SetTable.grown es1.size)
    have hf3 := relayAll_fits t2 es1 (SetTable.grown es1.size)
    have hr3 := relayAll_ris t2 es1 (SetTable.grown es1.size)
    have hl3 := relayAll_led t2 es1 (SetTable.grown es1.size)
    generalize relayAll t2 es1 (SetTable.grown es1.size) = Z at pm hf3 hr3 hl3 ⊢
    obtain ⟨es2, t3, gave⟩ := Z
    dsimp only at pm hf3 hr3 hl3 ⊢
    have hsz : es2.size = es1.size := by rw [← Array.length_toList, pm.length_eq, Array.length_toList]
    have hb2 : es2.size < scanBound := by rw [hsz]; exact hb1
    refine wpAny_bind (hg _ _ _ ?_)
    refine wpAny_bind (wpAny_storeSet_of ho1 rfl ?_ (fits_of_scanBound hb2))
    have ho2 := L2.store_at (es' := es2) (t' := t3) ho1 rfl
    obtain ⟨ks2, p2, g2⟩ := paired_perm pm.symm g1
    refine wpAny_pure (hR _ (sb1.trans (Heap.SameBut.update _ a _)) ?_)
    exact ⟨_, es2, _, t3, ks2, ho2, hex, rfl, g2, p2.nodup_iff.mp nd1, p2.symm.trans m1, hb2, by first | exact hf3 | (rw [hsz]; exact hf3), hr3, hl.imp id fun z => by rw [hl3]; exact z⟩
  · exact wpAny_pure (hR _ sb1 ⟨_, es1, _, t2, ks, ho1, hex, rfl, g1, nd1, m1, hb1, hf2, hr, hl⟩)
theorem setG_add_hashed {k : κ} {v : Value} {Q : Bool → Shared → Prop} (hkey : kd.is k v = true) (hsc : v.scannable = true) (R : SetG kd s.heap a xs) (room : xs.length + 1 < scanBound)
    (hQ : ∀ b h', Heap.SameBut a s.heap h' → SetG kd h' a (insK k xs) → Q b { s with heap := h' }) :
    wpAny (model P w) A (setAddHashed a v (kd.hash k)) Q E s := by
  obtain ⟨o, es, ep, t, ks, ho, hex, hd, g, nd, hm, hb, hf, hr, hl⟩ := R
  have hel : ElemsOf kd es.toList := ents_elems g
  unfold setAddHashed setAddHashedIn
  refine wpAny_holding (wpAny_bind (wpAny_setState_of ho hd hf ?_))
  dsimp only
  rw [byScan_of hsc hb hel]
  simp only [↓reduceIte]
  unfold setAddByScan
  refine wpAny_bind ?_
  refine wpAny_bind (wpAny_rule ?_)
  refine wpAny_bind (wpAny_setScan_of hkey ho hd hf hel ?_)
  cases hfi : List.findIdx? (fun e => kd.is k e.2) es.toList with
  | some j =>
    dsimp only
    obtain ⟨hj, pj, _⟩ := List.findIdx?_eq_some_iff_getElem.mp hfi
    have hSk : k ∈ xs := hm.mem_iff.mp ((ents_mem g k).2 ⟨es.toList[j], List.getElem_mem hj, pj⟩)
    refine wpAny_pure (wpAny_pure ?_)
    have e : insK k xs = xs := if_pos hSk
    exact hQ _ s.heap (Heap.SameBut.refl a s.heap) (by rw [e]; exact ⟨o, es, ep, t, ks, ho, hex, hd, g, nd, hm, hb, hf, hr, hl⟩)
  | none =>
    dsimp only
    have hnk : k ∉ ks := fun z => by
      obtain ⟨e, he, q⟩ := (ents_mem g k).1 z
      have c := List.findIdx?_eq_none_iff.mp hfi e he
      rw [q] at c
      cases c
    have hnx : k ∉ xs := fun z => hnk (hm.mem_iff.mpr z)
    have ei : insK k xs = k :: xs := if_neg hnx
    have hgw : ∀ (b : Bool) {s₁ : Shared} {Q' : Unit → Shared → Prop}, Q' () s₁ → wpAny (model P w) A (match b with | true => rule "set.scan.the-table-gave-way" | false => pure ()) Q' E s₁ :=
      fun b s₁ Q' q => by cases b <;> first | exact wpAny_pure q | exact wpAny_rule q
    have pm := layNew_perm t es (kd.hash k) v
    have hf1 := layNew_fits t es (kd.hash k) v
    have hr1 := layNew_ris t es (kd.hash k) v hr
    have hl1 := layNew_led t es (kd.hash k) v
    generalize layNew t es (kd.hash k) v = Z at pm hf1 hr1 hl1 ⊢
    obtain ⟨es1, t1, wasDummy, gave⟩ := Z
    dsimp only at pm hf1 hr1 hl1 ⊢
    rw [Array.toList_push] at pm
    have pc : es1.toList.Perm ((kd.hash k, v) :: es.toList) := pm.trans (List.perm_append_singleton _ _)
    obtain ⟨ks1, pk, g1⟩ := paired_perm pc.symm (Paired.cons (F := EntOk kd) (a := k) (⟨hkey, rfl, hsc⟩ : EntOk kd k (kd.hash k, v)) g)
    have nd1 : ks1.Nodup := pk.nodup_iff.mp (List.nodup_cons.mpr ⟨hnk, nd⟩)
    have m1 : ks1.Perm (insK k xs) := by
      rw [ei]
      exact pk.symm.trans (hm.cons k)
    have hnes : es.size = xs.length := by
      have q1 := g.length
      have q2 := hm.length_eq
      rw [← Array.length_toList, ← q1, q2]
    have hsz : es1.size = xs.length + 1 := by rw [← Array.length_toList, pc.length_eq, List.length_cons, Array.length_toList, hnes]
    have hb1 : es1.size < scanBound := by rw [hsz]; exact room
    have hled : w.params.followText "set-order" = true ∨ t1.led = true := hl.imp id fun z => by rw [hl1]; exact z
    refine wpAny_bind (hgw _ ?_)
    split
    · refine wpAny_bind ?_
      rw [hashByValue_scannable 8 hsc]
      refine wpAny_pure ?_
      refine setG_add_tail ?_ ho hex hd g1 nd1 m1 hb1 ?_ ?_ ?_ ?_
      · intro b s₁ Q' q; cases b <;> first | exact wpAny_pure q | exact wpAny_rule q
      · first | (split <;> first | exact hf1 | exact SetTable.fits_plain_off hf1) | exact hf1
      · first | (split <;> exact hr1) | exact hr1
      · first | (split <;> exact hled) | exact hled
      · intro h' sb r; dsimp only; exact wpAny_pure (hQ _ h' sb r)
    · refine wpAny_bind (wpAny_pure ?_)
      simp only [↓reduceIte]
      refine setG_add_tail ?_ ho hex hd g1 nd1 m1 hb1 hf1 hr1 hled ?_
      · intro b s₁ Q' q; cases b <;> first | exact wpAny_pure q | exact wpAny_rule q
      · intro h' sb r; dsimp only; exact wpAny_pure (hQ _ h' sb r)
theorem SetG.typeIs (R : SetG kd s.heap a xs) : s.TypeIs (.ref a) "set" := by
  obtain ⟨o, _, _, _, _, ho, hex, _⟩ := R
  exact ⟨o, ho, hex.1⟩
theorem setG_add {k : κ} {v : Value} {Q : Value → Shared → Prop} (hkey : kd.is k v = true) (hsc : v.scannable = true) (R : SetG kd s.heap a xs) (room : xs.length + 1 < scanBound)
    (hQ : ∀ h', Heap.SameBut a s.heap h' → SetG kd h' a (insK k xs) → Q .none { s with heap := h', toks := s.toks + 1 }) :
    wpAny (model P w) A (call (.builtin "set.add") [.ref a, v]) Q E s := by
  refine wpAny_call_entry PySem.F.slot_set_add R.typeIs PySem.F.entry_set_add ?_ (PySem.F.args_set_add_2 _ _)
  unfold Builtin.«set.add» Builtin.Frozenset.oneOther
  simp only [List.isEmpty_nil, bind_assoc]
  unfold Builtin.Frozenset.addrOf setAdd
  refine wpAny_bind (wpAny_pure ?_)
  try dsimp only
  refine wpAny_bind (wpAny_pure ?_)
  try dsimp only
  refine wpAny_bind ?_
  refine wpAny_holding ?_
  refine wpAny_bind (kd.pyHash hkey ?_)
  refine setG_add_hashed (s := { s with toks := s.toks + 1 }) hkey hsc R room fun b h' sb r => ?_
  show wpAny _ _ (ret Value.none) _ _ _
  exact wpAny_pure ⟨_, rfl, hQ h' sb r⟩
end
theorem setG_fresh {P : Program} {w : World} {κ : Type} [DecidableEq κ] (kd : PySem.KeyKind P w κ) (h : Heap) : SetG kd (h.push { cls := .type "set", dict := none, data := .set #[] 0 (.fresh 0 0 (!w.params.followText "set-order")) }) h.objs.size [] :=
  ⟨_, #[], 0, _, [], Heap.get?_push_size _ rfl, ⟨rfl, rfl, rfl⟩, rfl, .nil, List.nodup_nil, List.Perm.refl _, (by decide), (by rfl), List.Pairwise.nil, by
    show _ ∨ (!w.params.followText "set-order") = true
    cases w.params.followText "set-order"
    · exact .inr rfl
    · exact .inl rfl⟩
end Wm
/-! W9 -/
namespace Wm
open PySem PySem.Spec PyProof.Rows L2
theorem paired_at {α β : Type} {R : α → β → Prop} : ∀ {ks : List α} {l : List β} (i : Nat) (v : β), Paired R ks l → l[i]? = some v → ∃ k, ks[i]? = some k ∧ R k v
  | _, _, i, v, .nil, h => by simp at h
  | _, _, 0, v, .cons r p, h => by simp at h; subst h; exact ⟨_, rfl, r⟩
  | _, _, i + 1, v, .cons r p, h => by
    simp only [List.getElem?_cons_succ] at h
    obtain ⟨k, a, b⟩ := paired_at i v p h
    exact ⟨k, by simpa using a, b⟩
/-- the keys of a row, put in from the left -/
def insAll {κ : Type} [DecidableEq κ] (xs : List κ) : List κ := xs.foldl (fun acc k => insK k acc) []
theorem insK_len {κ : Type} [DecidableEq κ] (k : κ) (xs : List κ) : (insK k xs).length ≤ xs.length + 1 := by
  unfold insK
  split
  · exact Nat.le_succ _
  · exact Nat.le_refl _
theorem insAll_len {κ : Type} [DecidableEq κ] (xs : List κ) : (insAll xs).length ≤ xs.length := by
  have key : ∀ (xs acc : List κ), (xs.foldl (fun acc k => insK k acc) acc).length ≤ acc.length + xs.length := by
    intro xs
    induction xs with
    | nil => intro acc; exact Nat.le_refl _
    | cons x xs ih =>
      intro acc
      have := ih (insK x acc)
      have := insK_len x acc
      simp only [List.foldl_cons, List.length_cons]
      omega
  have := key xs []
  rw [List.length_nil, Nat.zero_add] at this
  exact this
theorem insAll_take {κ : Type} [DecidableEq κ] {xs : List κ} {i : Nat} {k : κ} (h : xs[i]? = some k) : insAll (xs.take (i + 1)) = insK k (insAll (xs.take i)) := by
  have e : xs.take (i + 1) = xs.take i ++ [k] := by rw [List.take_add_one, h]; rfl
  rw [e]
  unfold insAll
  rw [List.foldl_append]
  rfl
section
variable {prog : Program} {w : World} {κ : Type} [DecidableEq κ] {kd : PySem.KeyKind prog w κ} {A : Around} {R : Result → Shared → Prop} {I : Addr} {fp wr : List Addr} {G : Array GenState → Array GenState → Prop} {n : Nat} {P : Nat → Value → Prop} {St : Nat → Shared → Prop}
theorem loopG (W : WalksS prog w A.in1 I fp wr G n P St) (S : Addr) (hSf : S ∉ fp) (xs : List κ) (hsz : xs.length = n) (hn1 : n + 1 < scanBound)
    (hval : ∀ i v, P i v → ∃ k, xs[i]? = some k ∧ kd.is k v = true ∧ v.scannable = true) :
    ∀ (k i : Nat) (s : Shared), n - i = k → i ≤ n → St i s →
      SetG kd s.heap S (insAll (xs.take i)) →
      (∀ s', Moved (S :: wr) G s s' → SetG kd s'.heap S (insAll xs) → R (.ok (.ret .none)) s') →
      codeAny (model prog w) A (.builtin "set.update.loop" ⟨[.ref S, .ref I], []⟩) R s := by
  have hSw : S ∉ wr := fun h => hSf (W.sub _ h)
  have hsub : ∀ b ∈ wr, b ∈ S :: wr := fun b hb => List.mem_cons_of_mem _ hb
  intro k
  induction k with
  | zero =>
    intro i s hk hi hst hS hR
    have hin : i = n := by omega
    subst hin
    have et : xs.take i = xs := by rw [← hsz]; exact List.take_length
    rw [et] at hS
    refine codeAny_builtin PyProof.Rows.F.entry_set_update_loop ?_
    rw [Around.under_plainId PyProof.Rows.F.plain_set_update_loop _]
    show wpAny _ A.in1 (pyNext (.ref I) >>= _) _ _ s
    refine wpAny_bind (W.done s _ _ hst fun s' hm => ?_)
    show wpAny _ A.in1 (ret Value.none) _ _ s'
    exact wpAny_pure (hR s' (hm.mono hsub) (hS.at fun o ho => hm.heap S _ hSw ho))
  | succ k ih =>
    intro i s hk hi hst hS hR
    have hlt : i < n := by omega
    refine codeAny_builtin PyProof.Rows.F.entry_set_update_loop ?_
    rw [Around.under_plainId PyProof.Rows.F.plain_set_update_loop _]
    show wpAny _ A.in1 (pyNext (.ref I) >>= _) _ _ s
    refine wpAny_bind (W.item i s _ _ hlt hst fun v s' hP hst' hm => ?_)
    obtain ⟨x, hx, hkey, hsc⟩ := hval i v hP
    have hS' : SetG kd s'.heap S (insAll (xs.take i)) := hS.at fun o ho => hm.heap S _ hSw ho
    show wpAny _ A.in1 (holding [v] (setAdd S v) >>= _) _ _ s'
    refine wpAny_bind (wpAny_holding ?_)
    unfold setAdd
    refine wpAny_holding ?_
    refine wpAny_bind (kd.pyHash hkey ?_)
    have hl : (insAll (xs.take i)).length ≤ n := Nat.le_trans (insAll_len _) (by rw [List.length_take]; omega)
    refine setG_add_hashed (s := { s' with toks := s'.toks + 1 }) hkey hsc hS' (by omega) fun b h' hsb hS2 => ?_
    rw [← insAll_take hx] at hS2
    refine wpAny_pure ⟨plainId_quiet PyProof.Rows.F.plain_set_update_loop _, ih (i + 1) _ (by omega) hlt (W.frame _ s' _ _ hst' (Nat.le_succ _) fun b hb o e => ?_) hS2 fun s'' hm'' hS'' => ?_⟩
    · rw [hsb.2 b (fun h : b = S => hSf (by rw [← h]; exact hb))]; exact e
    · refine hR s'' (Moved.trans W.gtrans ((hm.mono hsub).then_heap (Nat.le_succ _) fun b o hb e => ?_) hm'') hS''
      rw [hsb.2 b (fun h : b = S => hb (by rw [h]; exact List.mem_cons_self))]; exact e
end
section
variable {prog : Program} {w : World} {κ : Type} [DecidableEq κ] {kd : PySem.KeyKind prog w κ} {A : Around} {E : Value → Shared → Prop} {s : Shared}
theorem code_set_new_1L (a : Value) {Q₁ : Value → Shared → Prop}
    (h : Q₁ (.ref s.heap.objs.size) { s with heap := s.heap.push { cls := .type "set", dict := none, data := .set #[] 0 (.fresh 0 0 (!w.params.followText "set-order")) } }) :
    codeAny (model prog w) A (.call (.builtin "set.__new__") ⟨[.type "set", a], []⟩) (wants Q₁ E) s := by
  refine codeAny_of_tree ?_
  show wpAny _ A.in1 (do checkBuiltinCall "set.__new__" ⟨[.type "set", a], []⟩; again (.builtin "set.__new__" ⟨[.type "set", a], []⟩)) _ _ s
  refine wpAny_bind (wpAny_of_eq (PySem.F.newCall_set_1 a) (wpAny_pure ⟨plainId_quiet PySem.F.plain_set_new _, codeAny_builtin PySem.F.entry_set_new ?_⟩))
  rw [Around.under_plainId PySem.F.plain_set_new _]
  unfold Builtin.«set.__new__» Builtin.Frozenset.newClass
  have hsub := sub_set_self
  obtain ⟨hp, g, d, tk, os⟩ := s
  dsimp only
  wp_walk
  refine wpAny_askSetting (wpAny_pure ?_)
  dsimp only
  simp only [newObj]
  refine wpAny_bind (wpAny_alloc (wpAny_pure ?_))
  exact wpAny_pure h
set_option maxHeartbeats 3200000 in
theorem call_set_listG {l : Addr} {items : Array Value} {xs : List κ} {Q : Value → Shared → Prop}
    (hh : A.handled = none) (hl : s.heap.IsList l items) (hi : Paired (fun k v => kd.is k v = true ∧ v.scannable = true) xs items.toList) (hn1 : xs.length < 64)
    (h : ∀ (h' : Heap) (tk : Nat), SetG kd h' s.heap.objs.size (insAll xs) →
      (∀ b o, b < s.heap.objs.size → s.heap.get? b = some o → h'.get? b = some o) → Q (.ref s.heap.objs.size) { s with heap := h', toks := tk }) :
    wpAny (model prog w) A (call (.type "set") [.ref l]) Q E s := by
  obtain ⟨c, tl, hmro⟩ := PySem.F.called_set.mro
  have hmade := PySem.F.called_set.made
  have hsub := PySem.F.called_set.sub
  refine wpAny_call (codeAny_of_tree ?_)
  show wpAny _ _ (callAny (.type "set") _) _ _ _
  refine wpAny_pure ⟨Code.quiet_builtin _ (by decide +kernel), codeAny_builtin PySem.F.entry_type_call ?_⟩
  rw [Around.under_plain (weight_type_call_type "set" [.ref l] []) rfl]
  have h1 := PySem.F.called_set.notType
  have h2 := PySem.F.called_set.canCreate
  have hct := PySem.F.typeCall_set_1 (.ref l)
  repeat (any_goals (first | assumption | wp_step))
  refine codeAny_mono (code_set_new_1L (.ref l) (E := E) (Q₁ := fun obj s₁ => obj = .ref s.heap.objs.size ∧ s₁ = { s with heap := s.heap.push { cls := .type "set", dict := none, data := .set #[] 0 (.fresh 0 0 (!w.params.followText "set-order")) } }) ⟨rfl, rfl⟩) fun r s₁ hr => ?_
  cases r with
  | error e => exact hr
  | ok fl =>
    cases fl with
    | ret obj =>
      obtain ⟨rfl, rfl⟩ := hr
      have hS : (s.heap.push { cls := .type "set", dict := none, data := .set #[] 0 (.fresh 0 0 (!w.params.followText "set-order")) }).get? s.heap.objs.size = some { cls := .type "set", dict := none, data := .set #[] 0 (.fresh 0 0 (!w.params.followText "set-order")) } := Heap.get?_push_size _ rfl
      have hT : Shared.TypeIs { s with heap := s.heap.push { cls := .type "set", dict := none, data := .set #[] 0 (.fresh 0 0 (!w.params.followText "set-order")) } } (.ref s.heap.objs.size) "set" := ⟨_, hS, rfl⟩
      have hli := PySem.F.called_set.init.lookup
      have hbi := PySem.F.called_set.init.bind (.ref s.heap.objs.size)
      have hG0 : SetG kd (s.heap.push { cls := .type "set", dict := none, data := .set #[] 0 (.fresh 0 0 (!w.params.followText "set-order")) }) s.heap.objs.size [] := setG_fresh kd s.heap
      generalize (!w.params.followText "set-order") = led at hS hT hG0 ⊢
      repeat (any_goals (first | assumption | wp_step))
      refine codeAny_mono (codeAny_call_builtin (R := wants (fun r s₂ => r = .none ∧ ∃ h' tk, s₂ = { s with heap := h', toks := tk } ∧
          SetG kd h' s.heap.objs.size (insAll xs) ∧
          (∀ b o, b < s.heap.objs.size → s.heap.get? b = some o → h'.get? b = some o)) E) PySem.F.called_set.init.plain PySem.F.entry_set_init (check_set_init_1 hT ?_)) fun r₂ s₂ hr₂ => ?_
      · obtain ⟨ol, hol, hcl, nl, hdl⟩ := hl
        obtain ⟨ocls, odict, odata, oslots⟩ := ol
        simp only at hcl hdl
        subst hcl; subst hdl
        have hol' : (s.heap.push { cls := .type "set", dict := none, data := .set #[] 0 (.fresh 0 0 led) }).get? l = some { cls := .type "list", dict := odict, data := .seq items nl, slots := oslots } := Heap.get?_push_of_some _ hol
        have hsls := PySem.F.sub_list_set
        have hslf := PySem.F.sub_list_frozenset
        have hne : (Value.type "list" == Value.type "dict") = false := by decide
        have hl1 : (s.heap.push { cls := .type "set", dict := none, data := .set #[] 0 (.fresh 0 0 led) }).IsList l items := ⟨_, hol', rfl, nl, rfl⟩
        unfold Builtin.«set.__init__» noKeywords Builtin.Frozenset.updateFrom
        generalize hPI : pyIter = PI
        wp_walk
        subst hPI
        refine wpAny_pyIter_list hl1 ?_
        refine wpAny_bind (wpAny_runValue ?_)
        have hlS : l < s.heap.objs.size := Heap.lt_size hol
        have hh3 : A.in1.in1.in1.handled = none := by simp [hh]
        have hneI : l ≠ (s.heap.push { cls := .type "set", dict := none, data := .set #[] 0 (.fresh 0 0 led) }).objs.size := by
          rw [Heap.size_push]; exact Nat.ne_of_lt (Nat.lt_succ_of_lt hlS)
        have hSf : s.heap.objs.size ∉ [(s.heap.push { cls := .type "set", dict := none, data := .set #[] 0 (.fresh 0 0 led) }).objs.size, l] := by
          rw [Heap.size_push]; simp only [List.mem_cons, List.mem_singleton, List.not_mem_nil, or_false, not_or]
          exact ⟨Nat.ne_of_lt (Nat.lt_succ_self _), Nat.ne_of_gt hlS⟩
        have hsz : xs.length = items.size := by rw [hi.length, Array.length_toList]
        have hval : ∀ (i : Nat) (v : Value), items[i]? = some v → ∃ k, xs[i]? = some k ∧ kd.is k v = true ∧ v.scannable = true := fun i v hv => paired_at i v hi (by rw [Array.getElem?_toList]; exact hv)
        refine loopG (kd := kd) ((Walks.list hh3 _ l hneI items).toS) s.heap.objs.size
          hSf xs hsz (by rw [← hsz]; unfold scanBound; omega) hval (items.size - 0) 0 _ (by omega) (Nat.zero_le _)
          ⟨⟨_, Heap.get?_push_size _ rfl, rfl, rfl⟩, (hl1.push _)⟩ ?hS0 ?hR
        case hS0 =>
          rw [List.take_zero]
          exact hG0.at fun o e => Heap.get?_push_of_some _ e
        case hR =>
          intro s' hm hS'
          obtain ⟨h', g', d', tk', os'⟩ := s'
          have eg : g' = s.gens := hm.gens
          have ed : d' = s.drawn := hm.drawn
          have eo : os' = s.os := hm.os
          subst eg; subst ed; subst eo
          show wpAny _ _ _ _ _ _
          refine wpAny_pure ?_
          show wpAny _ _ (ret Value.none) _ _ _
          refine wpAny_pure ⟨rfl, h', tk', rfl, hS', fun b o hb e => ?_⟩
          have hb1 : b ≠ s.heap.objs.size := Nat.ne_of_lt hb
          have hb2 : b ≠ (s.heap.push { cls := .type "set", dict := none, data := .set #[] 0 (.fresh 0 0 led) }).objs.size := by
            rw [Heap.size_push]; exact Nat.ne_of_lt (Nat.lt_succ_of_lt hb)
          exact hm.heap b o (by simp only [List.mem_cons, List.mem_singleton, List.not_mem_nil, or_false, not_or]; exact ⟨hb1, hb2⟩) (Heap.get?_push_of_some _ (Heap.get?_push_of_some _ e))
      · cases r₂ with
        | error e => exact hr₂
        | ok fl₂ =>
          cases fl₂ with
          | ret r =>
            obtain ⟨rfl, h', tk, rfl, hS', hk'⟩ := hr₂
            repeat (any_goals (first | assumption | wp_step))
            exact h _ _ hS' hk'
          | _ => exact hr₂.elim
    | _ => exact hr.elim
end
end Wm
/-! W10 -/
namespace Wm
open PySem PySem.Spec PyProof.Rows L2
/-- what tells a sort how a row of values stands to keys -/
structure SortRow {κ : Type} (are : List Value → List κ → Prop) (ok : List κ → Prop) : Prop where
  tree : ∀ {prog : Program} {w : World} {A : Around} {E : Value → Shared → Prop} {s : Shared} {a : Addr} {vs : List Value} {xs : List κ} {n : Nat} {P : Fin → Shared → Prop}, s.heap.get? a = some (seqObj "list" vs.toArray n) → are vs xs → vs.length < 64 →
    (∀ (out : Array Value) (ys : List κ), are out.toList ys → ys.Perm xs → ok ys → P (.done (.ret .none)) { s with heap := sortedHeap s.heap a vs out }) → wpAny (model prog w) A (Builtin.«list.sort» ⟨[.ref a], []⟩) P E s
theorem sortRow_int : SortRow IntsAre (fun ns => ns.Pairwise (· ≤ ·)) := ⟨fun ho hI h64 h => list_sort_tree ho hI h64 h⟩
theorem sortRow_str : SortRow StrsAre (fun ys => sortedS ys = true) := ⟨fun ho hS h64 h => by
  refine list_sort_treeK strKind_oneLt ho hS.keysOf (fun v₁ v₂ rest e => keyKind_strs (by rw [← e]; exact hS)) h64 fun st' hp hs => ?_
  obtain ⟨ss', h1, h2, h3⟩ := sorted_out_str hS hp hs
  exact h _ ss' h1 h2 h3⟩
section
variable {P : Program} {w : World} {κ : Type} [DecidableEq κ] {kd : PySem.KeyKind P w κ} {A : Around} {E : Value → Shared → Prop} {s : Shared} {a : Addr} {xs : List κ}
theorem ents_vals : ∀ {ks : List κ} {l : List (Int × Value)}, Paired (EntOk kd) ks l → Paired (fun k v => kd.is k v = true) ks (l.map (·.2))
  | _, _, .nil => .nil
  | _, _, .cons r p => .cons r.1 (ents_vals p)
theorem sorted_setG {are : List Value → List κ → Prop} {okk : List κ → Prop} (SR : SortRow are okk) (har : ∀ ks vs, Paired (fun k v => kd.is k v = true) ks vs → are vs ks) {Q : Value → Shared → Prop} (R : SetG kd s.heap a xs) (hh : A.handled = none) (h64 : xs.length < 64)
    (hQ : ∀ s' p (out : Array Value) (c : Nat) (ys : List κ), (∀ b o, s.heap.get? b = some o → s'.heap.get? b = some o) → s'.gens = s.gens → s'.os = s.os → s.heap.objs.size ≤ p →
      s'.heap.get? p = some (seqObj "list" out c) → are out.toList ys → ys.Perm xs → okk ys → Q (.ref p) s') :
    wpAny (model P w) A (call (.builtin "sorted") [.ref a]) Q E s := by
  obtain ⟨o, es, ep, t, ks, ho, hex, hd, g, nd, hm, hb, hf, hr, hl⟩ := R
  refine Calls.call_function_entry kind_sorted plain_sorted entry_sorted (args_sorted1 _) ?_
  unfold Builtin.«sorted»
  refine wpAny_bind (m := checkCount "sorted" 1 1 _) (wpAny_pure ?_)
  refine wpAny_bind (collect_set (A := A.in1) hh ⟨o, ho, hex.1, hd⟩ hf hb hr hl fun s1 vs k1 hz g1 o1 pm => ?_)
  have hvl : vs.length = xs.length := by rw [pm.length_eq, List.length_map, ← g.length, hm.length_eq]
  have g' : Paired (fun k v => kd.is k v = true) ks (es.toList.map (·.2)) := ents_vals g
  obtain ⟨ks2, p2, g2⟩ := paired_perm pm.symm g'
  have hI : are vs ks2 := har _ _ g2
  refine wpAny_bind (wpAny_newList ?_ (by rw [hvl, sizeLine_eq]; omega))
  have hoL : (s1.heap.push (seqObj "list" vs.toArray 0)).get? s1.heap.objs.size = some (seqObj "list" vs.toArray 0) := Heap.get?_push_size _ rfl
  refine wpAny_bind (wpAny_holding (wpAny_call_entry slot_list_sort ⟨_, hoL, rfl⟩ entry_list_sort (SR.tree hoL hI (by rw [hvl]; exact h64) fun out ys a1 a2 a3 => ⟨_, rfl, ?_⟩) (args_list_sort _)))
  obtain ⟨c, hc⟩ := sortedHeap_at (vs := vs) (out := out) hoL
  refine wpAny_pure ⟨_, rfl, hQ _ s1.heap.objs.size out c ys (fun b u e => ?_) g1 o1 hz hc a1 (a2.trans (p2.symm.trans hm)) a3⟩
  have q := k1 b u e
  have hlt := Heap.lt_size q
  show (sortedHeap (s1.heap.push (seqObj "list" vs.toArray 0)) s1.heap.objs.size vs out).get? b = some u
  rw [sortedHeap_old (Nat.ne_of_lt hlt) (by rw [size_push']; exact Nat.lt_succ_of_lt hlt)]
  exact Heap.get?_push_of_some _ q
end
/-! ### tracked -/
def SetGO {P : Program} {w : World} {κ : Type} [DecidableEq κ] (kd : PySem.KeyKind P w κ) (a : Addr) (xs : List κ) : HO := .ext fun h => SetG kd h a xs
theorem setGO_new {P : Program} {w : World} {κ : Type} [DecidableEq κ] {kd : PySem.KeyKind P w κ} {H : Hp} {h : Heap} {a : Addr} {xs : List κ} (R : SetG kd h a xs) : ObjOk P w H h a (SetGO kd a xs) := by
  have ⟨o, _, _, _, _, ho, _⟩ := R
  exact ⟨R, ⟨o, ho⟩, fun h1 h2 p k => SetG.at p k⟩
/-- a kind of keys whose values the layer tells -/
structure KdV {P : Program} {w : World} {κ : Type} [DecidableEq κ] (kd : PySem.KeyKind P w κ) (vk : κ → V) : Prop where
  ok : ∀ {k : κ} {u : Value}, RelV (vk k) u → kd.is k u = true ∧ u.scannable = true
theorem kdv_str (P : Program) (w : World) : KdV (PySem.strKind P w) V.str := ⟨fun {k u} r => by
  obtain ⟨t, rfl⟩ := r
  exact ⟨strKind_is _ _ _ _, rfl⟩⟩
theorem kdv_int (P : Program) (w : World) : KdV (PySem.intKind P w) V.int := ⟨fun {k u} r => by
  obtain ⟨t, rfl⟩ := r
  exact ⟨intKind_is _ _ _ _, rfl⟩⟩
theorem strs_are (P : Program) (w : World) : ∀ (ks : List Str) (vs : List Value), Paired (fun k v => (PySem.strKind P w).is k v = true) ks vs → StrsAre vs ks
  | _, _, .nil => .nil
  | _, _, .cons (a := a) (b := b) r p => by
    have q : ∃ t, b = Value.str a t := by
      cases b with
      | str x t =>
        have e : (x == _) = true := r
        exact ⟨t, by rw [eq_of_beq e]⟩
      | _ => cases r
    obtain ⟨t, rfl⟩ := q
    exact .cons _ t (strs_are P w _ _ p)
theorem ints_are (P : Program) (w : World) : ∀ (ks : List Int) (vs : List Value), Paired (fun k v => (PySem.intKind P w).is k v = true) ks vs → IntsAre vs ks
  | _, _, .nil => .nil
  | _, _, .cons (a := a) (b := b) r p => by
    have q : ∃ t, b = Value.int a t := by
      cases b with
      | int x t =>
        have e : (x == _) = true := r
        exact ⟨t, by rw [eq_of_beq e]⟩
      | _ => cases r
    obtain ⟨t, rfl⟩ := q
    exact .cons _ t (ints_are P w _ _ p)
section
variable {X : Cx} {κ : Type} [DecidableEq κ] {kd : PySem.KeyKind X.prog X.w κ} {vk : κ → V}
theorem setGO_get {pins : List (Addr × Obj)} {σ : L2.St} {H : Hp} {s : Shared} {a : Addr} {xs : List κ} (I : Inv X pins σ H s) (ha : H a = some (SetGO kd a xs)) : SetG kd s.heap a xs := (I.hok a _ ha).1
/-- sorted of a set -/
def rSortG (kd : PySem.KeyKind X.prog X.w κ) (vk : κ → V) (ok : List κ → Prop) : List V → Hp → VK → Prop := fun vs H Q => ∃ (a : Addr) (xs : List κ), vs = [V.ref a] ∧ H a = some (SetGO kd a xs) ∧ xs.length < 64 ∧
  ∀ (ys : List κ) (p : Addr), ys.Perm xs → ok ys → H p = none → Q (.ref p) (upd H p (.lst (ys.map vk)))
theorem cr_sortG {are : List Value → List κ → Prop} {okk : List κ → Prop} (hc : X.calm = true) (SR : SortRow are okk) (har : ∀ ks vs, Paired (fun k v => kd.is k v = true) ks vs → are vs ks) (hva : ∀ vs ks, are vs ks → Vals (ks.map vk) vs) : CallR X (.builtin "sorted") (rSortG kd vk okk) := by
  intro pins s σ H vs us Q I r h
  obtain ⟨a, xs, rfl, ha, h64, q⟩ := h
  have R := setGO_get I ha
  rw [Vals.ref1 r]
  refine sorted_setG SR har R (I.ok.hd hc) h64 fun s' p out c ys k g o hp hg hi hm hs => ?_
  have hlen : (ys.map vk).length ≤ sizeLine := by rw [List.length_map, hm.length_eq, sizeLine_eq]; omega
  have hn : H p = none := I.hok.fresh hp
  have J : Inv X pins σ (upd H p (.lst (ys.map vk))) { s with heap := s'.heap, gens := s'.gens, drawn := s'.drawn, toks := s'.toks } :=
    I.call (ch := []) (Un.laid k hp hn) (I.hok.laid k hp ⟨hlen, out.toList, c, hva _ _ hi, hg⟩) (by rw [g]; exact I.bare) (fun _ z => nomatch z)
  have e : s' = { s with heap := s'.heap, gens := s'.gens, drawn := s'.drawn, toks := s'.toks } := by
    cases s'
    cases s
    cases o
    rfl
  rw [e]
  exact ⟨.ref p, _, J, rfl, q ys p hm hs hn⟩
end
section
variable {X : Cx}
theorem cr_sortStrs (hc : X.calm = true) : CallR X (.builtin "sorted") (rSortG (PySem.strKind X.prog X.w) V.str fun ys => sortedS ys = true) :=
  cr_sortG hc sortRow_str (strs_are _ _) fun _ _ h => vals_of_strs h
theorem cr_sortInts (hc : X.calm = true) : CallR X (.builtin "sorted") (rSortG (PySem.intKind X.prog X.w) V.int fun ys => ys.Pairwise (· ≤ ·)) :=
  cr_sortG hc sortRow_int (ints_are _ _) fun _ _ h => vals_of_ints h
/-- set(xs), xs a list of texts -/
def rSetS (X : Cx) : List V → Hp → VK → Prop := fun vs H Q => ∃ (a : Addr) (xs : List Str), vs = [V.ref a] ∧ SqL X.K H a (xs.map V.str) ∧ xs.length < 64 ∧ ∀ p, H p = none → Q (.ref p) (upd H p (SetGO (PySem.strKind X.prog X.w) p (insAll xs)))
theorem strs_paired (P : Program) (w : World) : ∀ {us : List Value} {xs : List Str}, StrsAre us xs → Paired (fun k v => (PySem.strKind P w).is k v = true ∧ v.scannable = true) xs us
  | _, _, .nil => .nil
  | _, _, .cons x t h => .cons ⟨strKind_is _ _ _ _, rfl⟩ (strs_paired P w h)
theorem cr_setS (hc : X.calm = true) : CallR X (.type "set") (rSetS X) := by
  intro pins s σ H vs us Q I r h
  obtain ⟨a, xs, rfl, hs, h64, q⟩ := h
  obtain ⟨its, rv, hl, _⟩ := I.list hs
  rw [Vals.ref1 r]
  refine call_set_listG (kd := PySem.strKind X.prog X.w) (I.ok.hd hc) hl.isList (by simpa using strs_paired X.prog X.w rv.strs) h64 fun h' tk hS k => ?_
  have k' : ∀ b o, s.heap.get? b = some o → h'.get? b = some o := fun b o e => k b o (Heap.lt_size e) e
  exact ⟨.ref _, upd H s.heap.objs.size (SetGO (PySem.strKind X.prog X.w) s.heap.objs.size (insAll xs)), I.laid (t' := tk) k' (Nat.le_refl _) (setGO_new hS), rfl, q _ (I.hok.fresh (Nat.le_refl _))⟩
end
end Wm
/-! W11 -/
namespace Wm
open PySem PySem.Spec PyProof.Rows L2
/-! ### comprehensions: the one-for turned from the sets of truth values, the two-for from the lists -/
section
variable {X : Cx} {κ : Type} [DecidableEq κ] {kd : PySem.KeyKind X.prog X.w κ} {vk : κ → V}
theorem addG_ok (kv : KdV kd vk) {pins : List (Addr × Obj)} {σ : L2.St} {H : Hp} {s : Shared} {E : Value → Shared → Prop} {D : Addr} {xs : List κ} {y : κ} {u : Value} {Q : Value → Shared → Prop} (I : Inv X pins σ H s) (hD : H D = some (SetGO kd D xs)) (room : xs.length + 1 < scanBound) (r : RelV (vk y) u)
    (h : ∀ s', Inv X pins σ (upd H D (SetGO kd D (insK y xs))) s' → Q .none s') : wpAny (model X.prog X.w) X.A (call (.builtin "set.add") [.ref D, u]) Q E s := by
  have R := setGO_get I hD
  obtain ⟨hk, hsc⟩ := kv.ok r
  refine setG_add hk hsc R room fun h' sb new => ?_
  have he : ∃ u, h'.get? D = some u := by
    have ⟨o, _, _, _, _, ho, _⟩ := new
    exact ⟨o, ho⟩
  exact h _ (I.write (e := D) (t' := s.toks + 1) (by rw [hD]; trivial) (.inl rfl) (fun b u hb hu => (sb.2 b hb).trans hu) he (setGO_new new))
/-- {elt for target in iter if ..}, elt a truth value: D the new set -/
def tScG (kd : PySem.KeyKind X.prog X.w κ) (vk : κ → V) (wi : TI) (g : TG) (tt : TT) (te : TE) (vs : List Nat) : TE := fun σ H Q => wi σ H fun J H1 => ∀ D, H1 D = none → ∃ W : Nat → Nat → Hp → Prop, (∃ m, W 0 m (upd H1 D (SetGO kd D []))) ∧ ∀ i m H, W i m H →
  (J.stop i H ∧ Q (.ref D) H) ∨ (J.go i H ∧ ∃ Nx : Hp → Prop, (∀ H', Nx H' → ∃ m', m' < m ∧ W (i + 1) m' H') ∧ ∀ x H', J.yld i H x H' → g x (wipe σ vs) H' fun σ2 H2 => wipe σ2 vs = wipe σ vs ∧ tt σ2 H2 fun b H3 =>
    if b = true then te σ2 H3 fun y H4 => ∃ (c : κ) (xs : List κ), y = vk c ∧ H4 D = some (SetGO kd D xs) ∧ xs.length + 1 < scanBound ∧ Nx (upd H4 D (SetGO kd D (insK c xs))) else Nx H3)
theorem scG_core (kv : KdV kd vk) {pins : List (Addr × Obj)} {s : Shared} {σ : L2.St} {H : Hp} {Q : VK} {elt tg iter : Expr} {ifs : List Expr} {scope : Scope} {own : List (PySem.Str × Nat)} {pos pos' : Pos} {wi : TI} {g : TG} {tt : TT} {te : TE} {use : Option (Value → Sem Unit)} {Qf : Value → Shared → Prop}
    (hc : X.calm = true) (hN : X.N.Nodup) (I : Inv X pins σ H s) (hi : PI X tg iter wi) (ok : BlkOk X.N X.env.scope scope own)
    (hg : ∀ (s : Shared) (H : Hp) (C : Addr) (cl : List (PySem.Str × Addr)) (fp : List Addr), PG (X.blk s H scope (compEnvC scope cl C X.env) fp) tg g) (ht : ∀ (s : Shared) (H : Hp) (C : Addr) (cl : List (PySem.Str × Addr)) (fp : List Addr), PTs (X.blk s H scope (compEnvC scope cl C X.env) fp) ifs tt)
    (he : ∀ (s : Shared) (H : Hp) (C : Addr) (cl : List (PySem.Str × Addr)) (fp : List Addr), PE (X.blk s H scope (compEnvC scope cl C X.env) fp) elt te) (hs : ∀ x, foldedSetIterable iter X.env x = pure x)
    (h : tScG kd vk wi g tt te (own.map (·.2)) σ H Q)
    (hRR : ∀ D C s' m H', Inv X pins σ H' s' → Q (.ref D) H' → s'.heap.Ns C m → FpOk X pins H' C → compPost (model X.prog X.w) X.A X.xe use Qf (.ref D) C (.ok .next) s') :
    wpAny (model X.prog X.w) X.A (comprehension (.SetComp elt [⟨tg, iter, ifs, 0⟩] scope pos) scope X.env pos' (newSet (.type "set")) false (eval iter X.env) use) Qf X.xe s := by
  have hfree : ∀ y ∈ scope.names, y.2 = .free → ∃ c, X.env.cells.lookup y.1 = some c := fun y hy e => by
    rcases ok.free y hy e with k | k
    · exact I.ok.has _ (.inl k)
    · exact I.ok.has _ (.inr k)
  refine wpAny_comprehension_free (use := use) rfl hs (closure_ok hfree) ok.kind (fun y hy e => by rw [ok.uniq y hy, e])
    (thn (hi.run pins s σ H _ I h) fun xv s1 hx => thn hx fun itv s2 h2 => ?_)
  obtain ⟨it, fp, tn, J, H2, e, I2, T, st2, f2, q⟩ := h2
  subst e
  refine PpSet.newSet_ok (newEnv_comp ?_)
  generalize hD : s2.heap.objs.size = D
  have hDn : H2 D = none := I2.hok.fresh (Nat.le_of_eq hD)
  obtain ⟨W, ⟨m0, w0⟩, turn⟩ := q D hDn
  -- the new list
  generalize hs3 : ({ s2 with heap := s2.heap.push { cls := .type "set", dict := none, data := .set #[] 0 (.fresh 0 0 (!X.w.params.followText "set-order")) } } : Shared) = s3
  have I3 : Inv X pins σ (upd H2 D (SetGO kd D [])) s3 := by
    rw [← hs3]
    refine I2.laid (t' := s2.toks) (fun b o e => Heap.get?_push_of_some _ e) (Nat.le_of_eq hD) ?_
    rw [← hD]
    exact setGO_new (setG_fresh kd _)
  have h3 : s3.heap = s2.heap.push { cls := .type "set", dict := none, data := .set #[] 0 (.fresh 0 0 (!X.w.params.followText "set-order")) } := by rw [← hs3]
  have sz : ∀ b ∈ fp, b < s2.heap.objs.size := fun b hb => by
    obtain ⟨o, e, _⟩ := T.obj _ _ st2 b hb
    exact Heap.lt_size e
  have f3 : ∀ b ∈ fp, FpOk X pins (upd H2 D (SetGO kd D [])) b ∧ b < s3.heap.objs.size := fun b hb => by
    have hlt := sz b hb
    refine ⟨⟨?_, (f2 b hb).2⟩, by rw [h3, Heap.size_push]; exact Nat.lt_succ_of_lt hlt⟩
    rw [upd_ne (by rw [← hD]; exact Nat.ne_of_lt hlt)]
    exact (f2 b hb).1
  have st3 : tn 0 s3.heap := T.keep _ _ _ st2 fun b _ o e => by rw [h3]; exact Heap.get?_push_of_some _ e
  have I4 := block_start I3 ok hN f3
  have pg := hg s3 (upd H2 D (SetGO kd D [])) s3.heap.objs.size (cellsFrom (s3.heap.objs.size + 1) scope.names (cloFrom X.env.cells scope.names [])) fp
  have pt := ht s3 (upd H2 D (SetGO kd D [])) s3.heap.objs.size (cellsFrom (s3.heap.objs.size + 1) scope.names (cloFrom X.env.cells scope.names [])) fp
  have pe := he s3 (upd H2 D (SetGO kd D [])) s3.heap.objs.size (cellsFrom (s3.heap.objs.size + 1) scope.names (cloFrom X.env.cells scope.names [])) fp
  show codeAny _ _ (.compStart (.SetComp elt [⟨tg, iter, ifs, 0⟩] scope pos) 0 (.ref it) (.ref D) (compEnvC scope (cellsFrom (s3.heap.objs.size + 1) scope.names (cloFrom X.env.cells scope.names [])) s3.heap.objs.size X.env)) (compPost (model X.prog X.w) X.A X.xe use Qf (.ref D) s3.heap.objs.size) { s3 with heap := pushCells (s3.heap.push { cls := .type "dict", data := .dict #[] }) scope.names }
  have nfp : ∀ b ∈ fp, (upd H2 D (SetGO kd D [])) b = none := fun b hb => (f3 b hb).1.1
  generalize hce : compEnvC scope (cellsFrom (s3.heap.objs.size + 1) scope.names (cloFrom X.env.cells scope.names [])) s3.heap.objs.size X.env = ce at I4 pg pt pe ⊢
  have cL : ce.locals = s3.heap.objs.size := by subst hce; rfl
  generalize hH3 : upd H2 D (SetGO kd D []) = H3 at I3 I4 pg pt pe w0 nfp f3
  generalize hs4 : ({ s3 with heap := pushCells (s3.heap.push { cls := .type "dict", data := .dict #[] }) scope.names } : Shared) = s4 at I4 ⊢
  have st4 : tn 0 s4.heap := T.keep _ _ _ st3 fun b _ o e => by rw [← hs4]; exact pushCells_keeps _ _ _ _ (Heap.get?_push_of_some _ e)
  have stat : ∀ {σ' : L2.St} {H' : Hp} {s' : Shared}, Inv (X.blk s3 H3 scope ce fp) [] σ' H' s' → (∀ b ∈ fp, H' b = none) → ∀ b ∈ fp, FpOk (X.blk s3 H3 scope ce fp) [] H' b := fun {σ' H' s'} I' hn b hb =>
    ⟨hn b hb, (I'.ok.exf b hb).1, I'.ok.exfs b hb, .inl hb, fun x c e => (I'.ok.exf b hb).2 x c e, fun p hp => absurd (show p ∈ ([] : List (Addr × Obj)) ++ [] from hp) (by simp)⟩
  have loop : codeAny (model X.prog X.w) X.A (.compLoop (.SetComp elt [⟨tg, iter, ifs, 0⟩] scope pos) 0 (.ref it) (.ref D) ce) (compPost (model X.prog X.w) X.A X.xe use Qf (.ref D) s3.heap.objs.size) s4 := by
    refine PpSet.compLoopS_any (fun n s' => ∃ i H', Inv (X.blk s3 H3 scope ce fp) [] (wipe σ (own.map (·.2))) H' s' ∧ tn i s'.heap ∧ (∀ b ∈ fp, H' b = none) ∧ W i n H') ?_ m0 ⟨0, H3, I4, st4, nfp, w0⟩
    rintro n s5 ⟨i, H5, I5, st5, n5, w5⟩
    rcases turn i n H5 w5 with ⟨stop, qq⟩ | ⟨go, Nx, hNx, step⟩
    · have td := T.done (X.blk s3 H3 scope ce fp) rfl rfl rfl hc i [] s5 _ H5 (fun _ _ => False) I5 (stat I5 n5) st5 stop
      refine thnF td fun r s6 ⟨hr, I6⟩ => ?_
      subst hr
      -- back in the def's context
      have I7 : Inv X pins σ H5 s6 := I3.call' (ch := fp) I6.os I6.base I6.hok I6.bare fun b hb => ⟨(f3 b hb).1.2.2.2.1, (f3 b hb).1.2.1, (f3 b hb).1.2.2.2.2.1, (f3 b hb).1.2.2.2.2.2⟩
      have nC : H5 s3.heap.objs.size = none := by
        have z : H5 ce.locals = none := I6.free
        rw [cL] at z
        exact z
      obtain ⟨m, hn, _⟩ := I6.loc
      have hn : s6.heap.Ns ce.locals m := hn
      rw [cL] at hn
      exact hRR D s3.heap.objs.size s6 m H5 I7 qq hn (I3.fpOk (Nat.le_refl _) nC)
    · have ti := T.item (X.blk s3 H3 scope ce fp) rfl rfl rfl hc i [] s5 _ H5 (fun _ _ => False) I5 (stat I5 n5) st5 go
      refine thnF ti fun r s6 ⟨u, hr, h6⟩ => ?_
      subst hr
      refine thnF h6 fun _ s7 ⟨x, H7, I7, r7, y7, st7, n7⟩ => ?_
      have I7' := I7.pinned (stat I7 n7) (T.obj _ _ st7)
      refine thnF (pg.run _ s7 _ H7 x u _ I7' r7 (step x H7 y7)) fun _ s8 ⟨σ8, H8, I8, hw8, q8⟩ => ?_
      refine thnF (pt.run _ s8 σ8 H8 _ I8 q8) fun b s9 ⟨H9, I9, q9⟩ => ?_
      -- the turn's end
      have fin : ∀ {s' : Shared} {H' : Hp}, Inv (X.blk s3 H3 scope ce fp) ([] ++ pinsAt fp s7.heap) σ8 H' s' → Nx H' → ∃ m, m < n ∧ ∃ i H', Inv (X.blk s3 H3 scope ce fp) [] (wipe σ (own.map (·.2))) H' s' ∧ tn i s'.heap ∧ (∀ b ∈ fp, H' b = none) ∧ W i m H' := fun {s' H'} I' nx => by
        obtain ⟨m', hm, w'⟩ := hNx H' nx
        have pin' : ∀ b ∈ fp, ∀ o, s7.heap.get? b = some o → s'.heap.get? b = some o ∧ H' b = none := fun b hb o e =>
          let z := I'.pin (b, o) (List.mem_append_right _ (List.mem_append_right _ (mem_pinsAt hb e)))
          ⟨z.1, z.2.1⟩
        have hl : (wipe σ (own.map (·.2))).length = σ8.length := by rw [← hw8, wipe_length]
        refine ⟨m', hm, i + 1, H', (I'.unpinned (pins := [])).weak hl (fun j v e => ?_), T.keep _ _ _ st7 fun b hb o e => (pin' b hb o e).1, fun b hb => ?_, w'⟩
        · rw [← hw8] at e
          exact (wipe_some e).1
        · obtain ⟨o, e, _⟩ := T.obj _ _ st7 b hb
          exact (pin' b hb o e).2
      cases b with
      | false =>
        simp only [Bool.false_eq_true, if_false] at q9 ⊢
        exact fin I9 q9
      | true =>
        simp only [if_true] at q9 ⊢
        refine thnF (pe.run _ s9 σ8 H9 _ I9 q9) fun z s10 ⟨yv, H10, I10, r10, cb, S0, ey, hD10, hz10, nx⟩ => ?_
        subst ey
        exact addG_ok (X := X.blk s3 H3 scope ce fp) (kd := kd) kv I10 hD10 hz10 r10 fun s11 I11 => fin I11 nx
  exact PpSet.codeAny_compStart_set loop (T.self X.A 0 _ _ _ st4 loop)
/-- as a value -/
theorem pe_scG (kv : KdV kd vk) {elt tg iter : Expr} {ifs : List Expr} {scope : Scope} {own : List (PySem.Str × Nat)} {pos : Pos} {wi : TI} {g : TG} {tt : TT} {te : TE} (hc : X.calm = true) (hN : X.N.Nodup) (hi : PI X tg iter wi) (ok : BlkOk X.N X.env.scope scope own)
    (hg : ∀ (s : Shared) (H : Hp) (C : Addr) (cl : List (PySem.Str × Addr)) (fp : List Addr), PG (X.blk s H scope (compEnvC scope cl C X.env) fp) tg g) (ht : ∀ (s : Shared) (H : Hp) (C : Addr) (cl : List (PySem.Str × Addr)) (fp : List Addr), PTs (X.blk s H scope (compEnvC scope cl C X.env) fp) ifs tt)
    (he : ∀ (s : Shared) (H : Hp) (C : Addr) (cl : List (PySem.Str × Addr)) (fp : List Addr), PE (X.blk s H scope (compEnvC scope cl C X.env) fp) elt te) (hs : ∀ x, foldedSetIterable iter X.env x = pure x := by intro _; rfl) :
    PE X (.SetComp elt [⟨tg, iter, ifs, 0⟩] scope pos) (tScG kd vk wi g tt te (own.map (·.2))) := by
  refine ⟨fun pins s σ H Q I h => ?_⟩
  rw [PpSet.eval_SetComp]
  refine scG_core kv hc hN I hi ok hg ht he hs h fun D C s' m H' I' q hn f => ⟨m, hn, fun h'' sb => ?_⟩
  obtain ⟨f0, f1, f2, f3, f4, f5⟩ := f
  exact ⟨.ref D, H', I'.turned (t' := s'.toks) (fun b o hb e => (sb.2 b hb).trans e) f0 f1 f3 f4 f5, rfl, q⟩
end
theorem compTurnS2_out (elt t0 i0 t1 i1 : Expr) (ifs0 ifs1 : List Expr) (scope : Scope) (pos : Pos) (it acc : Value) (env : Env) :
    compTurn (.SetComp elt [⟨t0, i0, ifs0, 0⟩, ⟨t1, i1, ifs1, 0⟩] scope pos) 0 it acc env = (do
      standAt i0.pos
      match ← pyNext it with
      | none => pure (.done .next)
      | some v =>
        letOwnedTupleGo t0 it v
        assign t0 env v
        let mut ok := true
        for c in ifs0 do
          if ok then ok ← isTrue c env (eval c env)
        if ok then
          let x ← eval i1 env
          standAt i1.pos
          let x ← foldedSetIterable i1 env x
          let _ ← runOwn (.compStart (.SetComp elt [⟨t0, i0, ifs0, 0⟩, ⟨t1, i1, ifs1, 0⟩] scope pos) 1 (← holding [x] (pyIter x)) acc env) env
        again (.compLoop (.SetComp elt [⟨t0, i0, ifs0, 0⟩, ⟨t1, i1, ifs1, 0⟩] scope pos) 0 it acc env)) := by rfl
theorem compTurnS2_in (elt t0 i0 t1 i1 : Expr) (ifs0 ifs1 : List Expr) (scope : Scope) (pos : Pos) (it acc : Value) (env : Env) :
    compTurn (.SetComp elt [⟨t0, i0, ifs0, 0⟩, ⟨t1, i1, ifs1, 0⟩] scope pos) 1 it acc env = (do
      standAt i1.pos
      match ← pyNext it with
      | none => pure (.done .next)
      | some v =>
        letOwnedTupleGo t1 it v
        assign t1 env v
        let mut ok := true
        for c in ifs1 do
          if ok then ok ← isTrue c env (eval c env)
        if ok then
          (do let v ← eval elt env; standAt elt.pos; let _ ← call (.builtin "set.add") [acc, v])
        again (.compLoop (.SetComp elt [⟨t0, i0, ifs0, 0⟩, ⟨t1, i1, ifs1, 0⟩] scope pos) 1 it acc env)) := by rfl

section
variable {prog : Program} {w : World} {A : Around} {R : Result → Shared → Prop} {s : Shared} {elt t0 i0 t1 i1 : Expr} {ifs0 ifs1 : List Expr} {scope : Scope} {pos : Pos} {it acc : Value} {env : Env}
/-- the loop of the first clause -/
theorem compLoopS2_out (hs : ∀ x, foldedSetIterable i1 env x = pure x) (I : Nat → Shared → Prop)
    (turn : ∀ n s, I n s → wpAny (model prog w) A (pyNext it) (fun r s₁ => match r with
      | none => R (.ok .next) s₁
      | some v => wpAny (model prog w) A (letOwnedTupleGo t0 it v) (fun _ s₁' => wpAny (model prog w) A (assign t0 env v) (fun _ s₂ =>
          wpAny (model prog w) A (forIn ifs0 true fun c r => if r = true then do let ok ← isTrue c env (eval c env); pure (ForInStep.yield ok) else pure (ForInStep.yield r)) (fun ok s₃ =>
            if ok = true then wpAny (model prog w) A (eval i1 env) (fun x s₄ => wpAny (model prog w) A (pyIter x) (fun it1 s₅ =>
              codeAny (model prog w) A (.compStart (.SetComp elt [⟨t0, i0, ifs0, 0⟩, ⟨t1, i1, ifs1, 0⟩] scope pos) 1 it1 acc env) (fun r s' => match r with
                | .ok _ => ∃ m, m < n ∧ I m s'
                | .error _ => False) s₅) (notedBy (model prog w) A env fun e s' => R (.error e) s') s₄) (notedBy (model prog w) A env fun e s' => R (.error e) s') s₃
            else ∃ m, m < n ∧ I m s₃) (notedBy (model prog w) A env fun e s' => R (.error e) s') s₂) (notedBy (model prog w) A env fun e s' => R (.error e) s') s₁') (notedBy (model prog w) A env fun e s' => R (.error e) s') s₁) (notedBy (model prog w) A env fun e s' => R (.error e) s') s)
    (n : Nat) (h : I n s) :
    codeAny (model prog w) A (.compLoop (.SetComp elt [⟨t0, i0, ifs0, 0⟩, ⟨t1, i1, ifs1, 0⟩] scope pos) 0 it acc env) R s := by
  refine codeAny_loop rfl I (fun n s hI => ?_) n h
  show wpAny _ A ((compTurn (.SetComp elt [⟨t0, i0, ifs0, 0⟩, ⟨t1, i1, ifs1, 0⟩] scope pos) 0 it acc env).onRaise (fun x => do noteFrame x env; theTreesLotGoes x)) _ _ s
  refine wpAny_noted ?_
  rw [compTurnS2_out]
  refine wpAny_bind (wpAny_standAt (wpAny_bind (wpAny_mono (turn n s hI) (fun r s₁ h₁ => ?_) fun _ _ h' => h')))
  cases r with
  | none => exact wpAny_pure h₁
  | some v =>
    refine wpAny_bind (wpAny_mono h₁ (fun _ s₁' h₁' => ?_) fun _ _ h' => h')
    refine wpAny_bind (wpAny_mono h₁' (fun _ s₂ h₂ => wpAny_bind (wpAny_mono h₂ (fun ok s₃ h₃ => ?_) fun _ _ h' => h')) fun _ _ h' => h')
    cases ok with
    | false => exact wpAny_pure ⟨rfl, h₃⟩
    | true =>
      refine wpAny_bind (wpAny_mono h₃ (fun x s₄ h₄ => ?_) fun _ _ h' => h')
      refine wpAny_bind (wpAny_standAt (wpAny_bind (wpAny_of_eq (hs x) (wpAny_bind (wpAny_holding (wpAny_mono h₄ (fun it1 s₅ h₅ => ?_) fun _ _ h' => h'))))))
      refine wpAny_bind (wpAny_runOwn ?_)
      rw [Around.mark_none]
      refine codeAny_mono h₅ fun r s' hr => ?_
      cases r with
      | ok f =>
        first
          | exact wpAny_pure ⟨rfl, hr⟩
          | exact wpAny_bind (wpAny_pure (wpAny_pure ⟨rfl, hr⟩))
      | error e => exact hr.elim
/-- the loop of the second -/
theorem compLoopS2_in (I : Nat → Shared → Prop)
    (turn : ∀ n s, I n s → wpAny (model prog w) A (pyNext it) (fun r s₁ => match r with
      | none => R (.ok .next) s₁
      | some v => wpAny (model prog w) A (letOwnedTupleGo t1 it v) (fun _ s₁' => wpAny (model prog w) A (assign t1 env v) (fun _ s₂ =>
          wpAny (model prog w) A (forIn ifs1 true fun c r => if r = true then do let ok ← isTrue c env (eval c env); pure (ForInStep.yield ok) else pure (ForInStep.yield r)) (fun ok s₃ =>
            if ok = true then wpAny (model prog w) A (eval elt env) (fun x s₄ =>
              wpAny (model prog w) A (call (.builtin "set.add") [acc, x]) (fun _ s₅ => ∃ m, m < n ∧ I m s₅) (notedBy (model prog w) A env fun e s' => R (.error e) s') s₄) (notedBy (model prog w) A env fun e s' => R (.error e) s') s₃
            else ∃ m, m < n ∧ I m s₃) (notedBy (model prog w) A env fun e s' => R (.error e) s') s₂) (notedBy (model prog w) A env fun e s' => R (.error e) s') s₁') (notedBy (model prog w) A env fun e s' => R (.error e) s') s₁) (notedBy (model prog w) A env fun e s' => R (.error e) s') s)
    (n : Nat) (h : I n s) :
    codeAny (model prog w) A (.compLoop (.SetComp elt [⟨t0, i0, ifs0, 0⟩, ⟨t1, i1, ifs1, 0⟩] scope pos) 1 it acc env) R s := by
  refine codeAny_loop rfl I (fun n s hI => ?_) n h
  show wpAny _ A ((compTurn (.SetComp elt [⟨t0, i0, ifs0, 0⟩, ⟨t1, i1, ifs1, 0⟩] scope pos) 1 it acc env).onRaise (fun x => do noteFrame x env; theTreesLotGoes x)) _ _ s
  refine wpAny_noted ?_
  rw [compTurnS2_in]
  refine wpAny_bind (wpAny_standAt (wpAny_bind (wpAny_mono (turn n s hI) (fun r s₁ h₁ => ?_) fun _ _ h' => h')))
  cases r with
  | none => exact wpAny_pure h₁
  | some v =>
    refine wpAny_bind (wpAny_mono h₁ (fun _ s₁' h₁' => ?_) fun _ _ h' => h')
    refine wpAny_bind (wpAny_mono h₁' (fun _ s₂ h₂ => wpAny_bind (wpAny_mono h₂ (fun ok s₃ h₃ => ?_) fun _ _ h' => h')) fun _ _ h' => h')
    cases ok with
    | false => exact wpAny_pure ⟨rfl, h₃⟩
    | true =>
      exact wpAny_bind (wpAny_bind (wpAny_mono h₃ (fun x s₄ h₄ => wpAny_bind (wpAny_standAt (wpAny_bind (wpAny_mono h₄ (fun _ s₅ h₅ => wpAny_pure (wpAny_pure ⟨rfl, h₅⟩)) fun _ _ h' => h')))) fun _ _ h' => h'))
/-- the second clause's start -/
theorem compStartS1_ok (h0 : codeAny (model prog w) A (.compLoop (.SetComp elt [⟨t0, i0, ifs0, 0⟩, ⟨t1, i1, ifs1, 0⟩] scope pos) 1 it acc env) R s)
    (h : wpAny (model prog w) A (pyIter it) (fun it' s' => codeAny (model prog w) A (.compLoop (.SetComp elt [⟨t0, i0, ifs0, 0⟩, ⟨t1, i1, ifs1, 0⟩] scope pos) 1 it' acc env) R s')
      (notedBy (model prog w) A env fun x s' => R (.error x) s') s) :
    codeAny (model prog w) A (.compStart (.SetComp elt [⟨t0, i0, ifs0, 0⟩, ⟨t1, i1, ifs1, 0⟩] scope pos) 1 it acc env) R s := by
  refine codeAny_of_tree ?_
  show wpAny _ _ ((compStart (.SetComp elt [⟨t0, i0, ifs0, 0⟩, ⟨t1, i1, ifs1, 0⟩] scope pos) 1 it acc env).onRaise (fun x => do noteFrame x env; standAt theWindowsPlace)) _ _ s
  refine wpAny_notedAt ?_
  unfold compStart
  show wpAny _ _ (ask >>= _) _ _ s
  refine wpAny_bind (wpAny_askSetting (wpAny_ite ?_))
  split
  · first
      | exact wpAny_bind (wpAny_pure (wpAny_pure (And.intro rfl h0)))
      | exact wpAny_pure (And.intro rfl h0)
  · first
      | exact wpAny_bind (wpAny_rule (wpAny_bind (wpAny_standAt (wpAny_bind (wpAny_mono h (fun it' s' h' => wpAny_pure (And.intro rfl h')) fun _ _ x => x)))))
      | (refine wpAny_bind (wpAny_rule ?_); show wpAny _ _ (standAt i1.pos >>= _) _ _ s; exact wpAny_bind (wpAny_standAt (wpAny_bind (wpAny_mono h (fun it' s' h' => wpAny_pure (And.intro rfl h')) fun _ _ x => x))))
end

section
variable {X : Cx} {κ : Type} [DecidableEq κ] {kd : PySem.KeyKind X.prog X.w κ} {vk : κ → V}
/-- [elt for tg in iter if .. for tg1 in iter1 if ..]: behind the first clause's store and tests the second source's own loop, from which Nx is reached. vs: the block's names; vs1: those of the second target -/
def tScG2 (kd : PySem.KeyKind X.prog X.w κ) (vk : κ → V) (wi : TI) (g : TG) (tt : TT) (wi1 : TI) (g1 : TG) (tt1 : TT) (te : TE) (vs vs1 : List Nat) : TE := fun σ H Q => wi σ H fun J H1 => ∀ D, H1 D = none → ∃ W : Nat → Nat → Hp → Prop, (∃ m, W 0 m (upd H1 D (SetGO kd D []))) ∧ ∀ i m H, W i m H →
  (J.stop i H ∧ Q (.ref D) H) ∨ (J.go i H ∧ ∃ Nx : Hp → Prop, (∀ H', Nx H' → ∃ m', m' < m ∧ W (i + 1) m' H') ∧ ∀ x H', J.yld i H x H' → g x (wipe σ vs) H' fun σ2 H2 => wipe σ2 vs = wipe σ vs ∧ tt σ2 H2 fun b H3 =>
    if b = true then wi1 σ2 H3 fun J1 H4 => ∃ W1 : Nat → Nat → Hp → Prop, (∃ m, W1 0 m H4) ∧ ∀ j k H, W1 j k H →
      (J1.stop j H ∧ Nx H) ∨ (J1.go j H ∧ ∃ Nx1 : Hp → Prop, (∀ H', Nx1 H' → ∃ k', k' < k ∧ W1 (j + 1) k' H') ∧ ∀ x H', J1.yld j H x H' → g1 x (wipe σ2 vs1) H' fun σ3 H5 => wipe σ3 vs1 = wipe σ2 vs1 ∧ tt1 σ3 H5 fun b H6 =>
        if b = true then te σ3 H6 fun y H7 => ∃ (c : κ) (xs : List κ), y = vk c ∧ H7 D = some (SetGO kd D xs) ∧ xs.length + 1 < scanBound ∧ Nx1 (upd H7 D (SetGO kd D (insK c xs))) else Nx1 H6)
    else Nx H3)
theorem scG2_core (kv : KdV kd vk) {pins : List (Addr × Obj)} {s : Shared} {σ : L2.St} {H : Hp} {Q : VK} {elt tg iter tg1 iter1 : Expr} {ifs ifs1 : List Expr} {scope : Scope} {own : List (Str × Nat)} {vs1 : List Nat} {pos pos' : Pos} {wi wi1 : TI} {g g1 : TG} {tt tt1 : TT} {te : TE} {use : Option (Value → Sem Unit)} {Qf : Value → Shared → Prop}
    (hc : X.calm = true) (hN : X.N.Nodup) (I : Inv X pins σ H s) (hi : PI X tg iter wi) (ok : BlkOk X.N X.env.scope scope own) (hv : ∀ i ∈ vs1, i ∈ own.map (·.2))
    (hg : ∀ (s : Shared) (H : Hp) (C : Addr) (cl : List (Str × Addr)) (fp : List Addr), PG (X.blk s H scope (compEnvC scope cl C X.env) fp) tg g) (ht : ∀ (s : Shared) (H : Hp) (C : Addr) (cl : List (Str × Addr)) (fp : List Addr), PTs (X.blk s H scope (compEnvC scope cl C X.env) fp) ifs tt)
    (he : ∀ (s : Shared) (H : Hp) (C : Addr) (cl : List (Str × Addr)) (fp : List Addr), PE (X.blk s H scope (compEnvC scope cl C X.env) fp) elt te) (hs : ∀ x, foldedSetIterable iter X.env x = pure x)
    (hi1 : ∀ (s : Shared) (H : Hp) (C : Addr) (cl : List (Str × Addr)) (fp : List Addr), PI (X.blk s H scope (compEnvC scope cl C X.env) fp) tg1 iter1 wi1)
    (hg1 : ∀ (s : Shared) (H : Hp) (C : Addr) (cl : List (Str × Addr)) (fp : List Addr), PG (X.blk s H scope (compEnvC scope cl C X.env) fp) tg1 g1)
    (ht1 : ∀ (s : Shared) (H : Hp) (C : Addr) (cl : List (Str × Addr)) (fp : List Addr), PTs (X.blk s H scope (compEnvC scope cl C X.env) fp) ifs1 tt1)
    (hs1 : ∀ env x, foldedSetIterable iter1 env x = pure x)
    (h : tScG2 kd vk wi g tt wi1 g1 tt1 te (own.map (·.2)) vs1 σ H Q)
    (hRR : ∀ D C s' m H', Inv X pins σ H' s' → Q (.ref D) H' → s'.heap.Ns C m → FpOk X pins H' C → compPost (model X.prog X.w) X.A X.xe use Qf (.ref D) C (.ok .next) s') :
    wpAny (model X.prog X.w) X.A (comprehension (.SetComp elt [⟨tg, iter, ifs, 0⟩, ⟨tg1, iter1, ifs1, 0⟩] scope pos) scope X.env pos' (newSet (.type "set")) false (eval iter X.env) use) Qf X.xe s := by
  have hfree : ∀ y ∈ scope.names, y.2 = .free → ∃ c, X.env.cells.lookup y.1 = some c := fun y hy e => by
    rcases ok.free y hy e with k | k
    · exact I.ok.has _ (.inl k)
    · exact I.ok.has _ (.inr k)
  refine wpAny_comprehension_free (use := use) rfl hs (closure_ok hfree) ok.kind (fun y hy e => by rw [ok.uniq y hy, e])
    (thn (hi.run pins s σ H _ I h) fun xv s1 hx => thn hx fun itv s2 h2 => ?_)
  obtain ⟨it, fp, tn, J, H2, e, I2, T, st2, f2, q⟩ := h2
  subst e
  refine PpSet.newSet_ok (newEnv_comp ?_)
  generalize hD : s2.heap.objs.size = D
  have hDn : H2 D = none := I2.hok.fresh (Nat.le_of_eq hD)
  obtain ⟨W, ⟨m0, w0⟩, turn⟩ := q D hDn
  -- the new list
  generalize hs3 : ({ s2 with heap := s2.heap.push { cls := .type "set", dict := none, data := .set #[] 0 (.fresh 0 0 (!X.w.params.followText "set-order")) } } : Shared) = s3
  have I3 : Inv X pins σ (upd H2 D (SetGO kd D [])) s3 := by
    rw [← hs3]
    refine I2.laid (t' := s2.toks) (fun b o e => Heap.get?_push_of_some _ e) (Nat.le_of_eq hD) ?_
    rw [← hD]
    exact setGO_new (setG_fresh kd _)
  have h3 : s3.heap = s2.heap.push { cls := .type "set", dict := none, data := .set #[] 0 (.fresh 0 0 (!X.w.params.followText "set-order")) } := by rw [← hs3]
  have sz : ∀ b ∈ fp, b < s2.heap.objs.size := fun b hb => by
    obtain ⟨o, e, _⟩ := T.obj _ _ st2 b hb
    exact Heap.lt_size e
  have f3 : ∀ b ∈ fp, FpOk X pins (upd H2 D (SetGO kd D [])) b ∧ b < s3.heap.objs.size := fun b hb => by
    have hlt := sz b hb
    refine ⟨⟨?_, (f2 b hb).2⟩, by rw [h3, Heap.size_push]; exact Nat.lt_succ_of_lt hlt⟩
    rw [upd_ne (by rw [← hD]; exact Nat.ne_of_lt hlt)]
    exact (f2 b hb).1
  have st3 : tn 0 s3.heap := T.keep _ _ _ st2 fun b _ o e => by rw [h3]; exact Heap.get?_push_of_some _ e
  have I4 := block_start I3 ok hN f3
  have pg := hg s3 (upd H2 D (SetGO kd D [])) s3.heap.objs.size (cellsFrom (s3.heap.objs.size + 1) scope.names (cloFrom X.env.cells scope.names [])) fp
  have pt := ht s3 (upd H2 D (SetGO kd D [])) s3.heap.objs.size (cellsFrom (s3.heap.objs.size + 1) scope.names (cloFrom X.env.cells scope.names [])) fp
  have pe := he s3 (upd H2 D (SetGO kd D [])) s3.heap.objs.size (cellsFrom (s3.heap.objs.size + 1) scope.names (cloFrom X.env.cells scope.names [])) fp
  have pi1 := hi1 s3 (upd H2 D (SetGO kd D [])) s3.heap.objs.size (cellsFrom (s3.heap.objs.size + 1) scope.names (cloFrom X.env.cells scope.names [])) fp
  have pg1 := hg1 s3 (upd H2 D (SetGO kd D [])) s3.heap.objs.size (cellsFrom (s3.heap.objs.size + 1) scope.names (cloFrom X.env.cells scope.names [])) fp
  have pt1 := ht1 s3 (upd H2 D (SetGO kd D [])) s3.heap.objs.size (cellsFrom (s3.heap.objs.size + 1) scope.names (cloFrom X.env.cells scope.names [])) fp
  show codeAny _ _ (.compStart (.SetComp elt [⟨tg, iter, ifs, 0⟩, ⟨tg1, iter1, ifs1, 0⟩] scope pos) 0 (.ref it) (.ref D) (compEnvC scope (cellsFrom (s3.heap.objs.size + 1) scope.names (cloFrom X.env.cells scope.names [])) s3.heap.objs.size X.env)) (compPost (model X.prog X.w) X.A X.xe use Qf (.ref D) s3.heap.objs.size) { s3 with heap := pushCells (s3.heap.push { cls := .type "dict", data := .dict #[] }) scope.names }
  have nfp : ∀ b ∈ fp, (upd H2 D (SetGO kd D [])) b = none := fun b hb => (f3 b hb).1.1
  generalize hce : compEnvC scope (cellsFrom (s3.heap.objs.size + 1) scope.names (cloFrom X.env.cells scope.names [])) s3.heap.objs.size X.env = ce at I4 pg pt pe pi1 pg1 pt1 ⊢
  have cL : ce.locals = s3.heap.objs.size := by subst hce; rfl
  generalize hH3 : upd H2 D (SetGO kd D []) = H3 at I3 I4 pg pt pe pi1 pg1 pt1 w0 nfp f3
  generalize hs4 : ({ s3 with heap := pushCells (s3.heap.push { cls := .type "dict", data := .dict #[] }) scope.names } : Shared) = s4 at I4 ⊢
  have st4 : tn 0 s4.heap := T.keep _ _ _ st3 fun b _ o e => by rw [← hs4]; exact pushCells_keeps _ _ _ _ (Heap.get?_push_of_some _ e)
  have stat : ∀ {σ' : L2.St} {H' : Hp} {s' : Shared}, Inv (X.blk s3 H3 scope ce fp) [] σ' H' s' → (∀ b ∈ fp, H' b = none) → ∀ b ∈ fp, FpOk (X.blk s3 H3 scope ce fp) [] H' b := fun {σ' H' s'} I' hn b hb =>
    ⟨hn b hb, (I'.ok.exf b hb).1, I'.ok.exfs b hb, .inl hb, fun x c e => (I'.ok.exf b hb).2 x c e, fun p hp => absurd (show p ∈ ([] : List (Addr × Obj)) ++ [] from hp) (by simp)⟩
  have loop : codeAny (model X.prog X.w) X.A (.compLoop (.SetComp elt [⟨tg, iter, ifs, 0⟩, ⟨tg1, iter1, ifs1, 0⟩] scope pos) 0 (.ref it) (.ref D) ce) (compPost (model X.prog X.w) X.A X.xe use Qf (.ref D) s3.heap.objs.size) s4 := by
    refine compLoopS2_out (hs1 ce) (fun n s' => ∃ i H', Inv (X.blk s3 H3 scope ce fp) [] (wipe σ (own.map (·.2))) H' s' ∧ tn i s'.heap ∧ (∀ b ∈ fp, H' b = none) ∧ W i n H') ?_ m0 ⟨0, H3, I4, st4, nfp, w0⟩
    rintro n s5 ⟨i, H5, I5, st5, n5, w5⟩
    rcases turn i n H5 w5 with ⟨stop, qq⟩ | ⟨go, Nx, hNx, step⟩
    · have td := T.done (X.blk s3 H3 scope ce fp) rfl rfl rfl hc i [] s5 _ H5 (fun _ _ => False) I5 (stat I5 n5) st5 stop
      refine thnF td fun r s6 ⟨hr, I6⟩ => ?_
      subst hr
      -- back in the def's context
      have I7 : Inv X pins σ H5 s6 := I3.call' (ch := fp) I6.os I6.base I6.hok I6.bare fun b hb => ⟨(f3 b hb).1.2.2.2.1, (f3 b hb).1.2.1, (f3 b hb).1.2.2.2.2.1, (f3 b hb).1.2.2.2.2.2⟩
      have nC : H5 s3.heap.objs.size = none := by
        have z : H5 ce.locals = none := I6.free
        rw [cL] at z
        exact z
      obtain ⟨m, hn, _⟩ := I6.loc
      have hn : s6.heap.Ns ce.locals m := hn
      rw [cL] at hn
      exact hRR D s3.heap.objs.size s6 m H5 I7 qq hn (I3.fpOk (Nat.le_refl _) nC)
    · have ti := T.item (X.blk s3 H3 scope ce fp) rfl rfl rfl hc i [] s5 _ H5 (fun _ _ => False) I5 (stat I5 n5) st5 go
      refine thnF ti fun r s6 ⟨u, hr, h6⟩ => ?_
      subst hr
      refine thnF h6 fun _ s7 ⟨x, H7, I7, r7, y7, st7, n7⟩ => ?_
      have I7' := I7.pinned (stat I7 n7) (T.obj _ _ st7)
      refine thnF (pg.run _ s7 _ H7 x u _ I7' r7 (step x H7 y7)) fun _ s8 ⟨σ8, H8, I8, hw8, q8⟩ => ?_
      refine thnF (pt.run _ s8 σ8 H8 _ I8 q8) fun b s9 ⟨H9, I9, q9⟩ => ?_
      -- the turn's end, from any slots that know what the block knew at its start
      have fin : ∀ {σ9 : L2.St} {s' : Shared} {H' : Hp}, Inv (X.blk s3 H3 scope ce fp) ([] ++ pinsAt fp s7.heap) σ9 H' s' → (wipe σ (own.map (·.2))).length = σ9.length → (∀ (j : Nat) v, (wipe σ (own.map (·.2)))[j]? = some (some v) → σ9[j]? = some (some v)) → Nx H' →
          ∃ m, m < n ∧ ∃ i H', Inv (X.blk s3 H3 scope ce fp) [] (wipe σ (own.map (·.2))) H' s' ∧ tn i s'.heap ∧ (∀ b ∈ fp, H' b = none) ∧ W i m H' := fun {σ9 s' H'} I' hl hk nx => by
        obtain ⟨m', hm, w'⟩ := hNx H' nx
        have pin' : ∀ b ∈ fp, ∀ o, s7.heap.get? b = some o → s'.heap.get? b = some o ∧ H' b = none := fun b hb o e =>
          let z := I'.pin (b, o) (List.mem_append_right _ (List.mem_append_right _ (mem_pinsAt hb e)))
          ⟨z.1, z.2.1⟩
        refine ⟨m', hm, i + 1, H', (I'.unpinned (pins := [])).weak hl hk, T.keep _ _ _ st7 fun b hb o e => (pin' b hb o e).1, fun b hb => ?_, w'⟩
        obtain ⟨o, e, _⟩ := T.obj _ _ st7 b hb
        exact (pin' b hb o e).2
      have hl8 : (wipe σ (own.map (·.2))).length = σ8.length := by rw [← hw8, wipe_length]
      have hk8 : ∀ (j : Nat) v, (wipe σ (own.map (·.2)))[j]? = some (some v) → σ8[j]? = some (some v) := fun j v e => by
        rw [← hw8] at e
        exact (wipe_some e).1
      have hk9 : ∀ (j : Nat) v, (wipe σ (own.map (·.2)))[j]? = some (some v) → (wipe σ8 vs1)[j]? = some (some v) := fun j v e => by
        rw [← hw8] at e
        obtain ⟨e1, e2⟩ := wipe_some e
        rw [wipe_out fun z => e2 (hv j z)]
        exact e1
      cases b with
      | false =>
        simp only [Bool.false_eq_true, if_false] at q9 ⊢
        exact fin I9 hl8 hk8 q9
      | true =>
        simp only [if_true] at q9 ⊢
        refine thnF (pi1.run _ s9 σ8 H9 _ I9 q9) fun xv s10 hx => thnF hx fun itv s11 h11 => ?_
        obtain ⟨it1, fp1, tn1, J1, H11, e1, I11, T1, st11, f11, W1, ⟨m1, w1⟩, turn1⟩ := h11
        subst e1
        -- the inner loop
        have stat1 : ∀ {H' : Hp}, (∀ b ∈ fp1, H' b = none) → ∀ b ∈ fp1, FpOk (X.blk s3 H3 scope ce fp) ([] ++ pinsAt fp s7.heap) H' b := fun hn b hb => ⟨hn b hb, (f11 b hb).2⟩
        have loop1 : codeAny (model X.prog X.w) X.A (.compLoop (.SetComp elt [⟨tg, iter, ifs, 0⟩, ⟨tg1, iter1, ifs1, 0⟩] scope pos) 1 (.ref it1) (.ref D) ce)
            (fun r s' => match r with
              | .ok _ => ∃ m, m < n ∧ ∃ i H', Inv (X.blk s3 H3 scope ce fp) [] (wipe σ (own.map (·.2))) H' s' ∧ tn i s'.heap ∧ (∀ b ∈ fp, H' b = none) ∧ W i m H'
              | .error _ => False) s11 := by
          refine compLoopS2_in (fun k s' => ∃ j H', Inv (X.blk s3 H3 scope ce fp) ([] ++ pinsAt fp s7.heap) (wipe σ8 vs1) H' s' ∧ tn1 j s'.heap ∧ (∀ b ∈ fp1, H' b = none) ∧ W1 j k H') ?_ m1 ⟨0, H11, I11.weak (wipe_length _ _) (fun j v e => (wipe_some e).1), st11, fun b hb => (f11 b hb).1, w1⟩
          rintro k s12 ⟨j, H12, I12, st12, n12, w12⟩
          rcases turn1 j k H12 w12 with ⟨stop1, nx1⟩ | ⟨go1, Nx1, hNx1, step1⟩
          · refine thnF (T1.done (X.blk s3 H3 scope ce fp) rfl rfl rfl hc j _ s12 (wipe σ8 vs1) H12 (fun _ _ => False) I12 (stat1 n12) st12 stop1) fun r s13 ⟨hr, I13⟩ => ?_
            subst hr
            exact fin I13 (hl8.trans (wipe_length σ8 vs1).symm) hk9 nx1
          · refine thnF (T1.item (X.blk s3 H3 scope ce fp) rfl rfl rfl hc j _ s12 (wipe σ8 vs1) H12 (fun _ _ => False) I12 (stat1 n12) st12 go1) fun r s13 ⟨u1, hr, h13⟩ => ?_
            subst hr
            refine thnF h13 fun _ s14 ⟨x1, H14, I14, r14, y14, st14, n14⟩ => ?_
            have I14' := I14.pinned (stat1 n14) (T1.obj _ _ st14)
            refine thnF (pg1.run _ s14 (wipe σ8 vs1) H14 x1 u1 _ I14' r14 (step1 x1 H14 y14)) fun _ s15 ⟨σ15, H15, I15, hw15, q15⟩ => ?_
            refine thnF (pt1.run _ s15 σ15 H15 _ I15 q15) fun b1 s16 ⟨H16, I16, q16⟩ => ?_
            have fin1 : ∀ {s' : Shared} {H' : Hp}, Inv (X.blk s3 H3 scope ce fp) (([] ++ pinsAt fp s7.heap) ++ pinsAt fp1 s14.heap) σ15 H' s' → Nx1 H' → ∃ m, m < k ∧ ∃ j H', Inv (X.blk s3 H3 scope ce fp) ([] ++ pinsAt fp s7.heap) (wipe σ8 vs1) H' s' ∧ tn1 j s'.heap ∧ (∀ b ∈ fp1, H' b = none) ∧ W1 j m H' := fun {s' H'} I' nx => by
              obtain ⟨m', hm, w'⟩ := hNx1 H' nx
              have pin' : ∀ b ∈ fp1, ∀ o, s14.heap.get? b = some o → s'.heap.get? b = some o ∧ H' b = none := fun b hb o e =>
                let z := I'.pin (b, o) (List.mem_append_right _ (List.mem_append_right _ (mem_pinsAt hb e)))
                ⟨z.1, z.2.1⟩
              refine ⟨m', hm, j + 1, H', I'.unpinned.weak (by rw [← hw15, wipe_length]) (fun j v e => by rw [← hw15] at e; exact (wipe_some e).1), T1.keep _ _ _ st14 fun b hb o e => (pin' b hb o e).1, fun b hb => ?_, w'⟩
              obtain ⟨o, e, _⟩ := T1.obj _ _ st14 b hb
              exact (pin' b hb o e).2
            cases b1 with
            | false =>
              simp only [Bool.false_eq_true, if_false] at q16 ⊢
              exact fin1 I16 q16
            | true =>
              simp only [if_true] at q16 ⊢
              refine thnF (pe.run _ s16 σ15 H16 _ I16 q16) fun z s17 ⟨yv, H17, I17, r17, cb, S0, ey, hD17, hz17, nx⟩ => ?_
              subst ey
              exact addG_ok (X := X.blk s3 H3 scope ce fp) (kd := kd) kv I17 hD17 hz17 r17 fun s18 I18 => fin1 I18 nx
        exact compStartS1_ok loop1 (T1.self X.A 0 _ _ _ st11 loop1)
  exact PpSet.codeAny_compStart_set loop (T.self X.A 0 _ _ _ st4 loop)
/-- as a value -/
theorem pe_scG2 (kv : KdV kd vk) {elt tg iter tg1 iter1 : Expr} {ifs ifs1 : List Expr} {scope : Scope} {own : List (Str × Nat)} {vs1 : List Nat} {pos : Pos} {wi wi1 : TI} {g g1 : TG} {tt tt1 : TT} {te : TE} (hc : X.calm = true) (hN : X.N.Nodup) (hi : PI X tg iter wi) (ok : BlkOk X.N X.env.scope scope own) (hv : ∀ i ∈ vs1, i ∈ own.map (·.2))
    (hg : ∀ (s : Shared) (H : Hp) (C : Addr) (cl : List (Str × Addr)) (fp : List Addr), PG (X.blk s H scope (compEnvC scope cl C X.env) fp) tg g) (ht : ∀ (s : Shared) (H : Hp) (C : Addr) (cl : List (Str × Addr)) (fp : List Addr), PTs (X.blk s H scope (compEnvC scope cl C X.env) fp) ifs tt)
    (hi1 : ∀ (s : Shared) (H : Hp) (C : Addr) (cl : List (Str × Addr)) (fp : List Addr), PI (X.blk s H scope (compEnvC scope cl C X.env) fp) tg1 iter1 wi1)
    (hg1 : ∀ (s : Shared) (H : Hp) (C : Addr) (cl : List (Str × Addr)) (fp : List Addr), PG (X.blk s H scope (compEnvC scope cl C X.env) fp) tg1 g1) (ht1 : ∀ (s : Shared) (H : Hp) (C : Addr) (cl : List (Str × Addr)) (fp : List Addr), PTs (X.blk s H scope (compEnvC scope cl C X.env) fp) ifs1 tt1)
    (he : ∀ (s : Shared) (H : Hp) (C : Addr) (cl : List (Str × Addr)) (fp : List Addr), PE (X.blk s H scope (compEnvC scope cl C X.env) fp) elt te) (hs : ∀ x, foldedSetIterable iter X.env x = pure x := by intro _; rfl) (hs1 : ∀ env x, foldedSetIterable iter1 env x = pure x := by intro _ _; rfl) :
    PE X (.SetComp elt [⟨tg, iter, ifs, 0⟩, ⟨tg1, iter1, ifs1, 0⟩] scope pos) (tScG2 kd vk wi g tt wi1 g1 tt1 te (own.map (·.2)) vs1) := by
  refine ⟨fun pins s σ H Q I h => ?_⟩
  rw [PpSet.eval_SetComp]
  refine scG2_core kv hc hN I hi ok hv hg ht he hs hi1 hg1 ht1 hs1 h fun D C s' m H' I' q hn f => ⟨m, hn, fun h'' sb => ?_⟩
  obtain ⟨f0, f1, f2, f3, f4, f5⟩ := f
  exact ⟨.ref D, H', I'.turned (t' := s'.toks) (fun b o hb e => (sb.2 b hb).trans e) f0 f1 f3 f4 f5, rfl, q⟩
end
end Wm
/-! W12 -/
/-! own __eq__ with both answers, the != that follows from it, own __len__, own __getitem__, tuples of own things -/
namespace Wm
open PySem PySem.Spec PyProof.Rows L2
section
variable {X : Cx} {CX : CXT} {C g : Addr} {n : Nat} {sp : Sp} {E : XK}
/-- x == y, x an instance of the class at C; y of any type t not below C -/
def rEqI (K : PySem.W.Frag) (C : Addr) (sp : Sp) (E : XK) : R2 := fun x y H Q => ∃ a dx fs t, x = .ref a ∧ H a = some (.ins C dx fs) ∧ TyX K H y t ∧ PySem.W.notFirst K C t = true ∧ sp [x, y] H Q E
theorem op_eqI (hs : PySem.W.findIn X.K (.ref C) "__eq__" = some (some (.ref g))) (hf : PySem.W.isFn X.K (.ref g) = true) (F : FnR X.prog X.w X.K X.mg X.base CX n g sp) (hr : Room n X.A) (hx : Passes CX X E) : OpR X (compareOp .Eq) (rEqI X.K C sp E) := by
  intro pins s σ H x y v u Q I rx ry h
  obtain ⟨a, dx, fs, t, rfl, ha, ty, hn, q⟩ := h
  cases (show v = Value.ref a from rx)
  obtain ⟨mA, O, _⟩ := ins_get I.hok ha
  obtain ⟨od, J, _⟩ := O.look
  obtain ⟨m, hF⟩ := I.fr
  obtain ⟨P, Z, hP, _⟩ := kit_of I ry ty
  show wpAny _ _ (richCompare .Eq _ _) _ _ _
  refine PySem.W.cmp_K (op := .Eq) (tb := t) hr.units0 hF I.ok.mod.kin J (Z.ty _ _ I.kIn hP) hn hs hf ?_
  refine wpAny_mono (wpAny_call (run_fnR (us := [.ref a, u]) (vs := [.ref a, y]) F hr hx I (.cons rfl (.cons ry .nil)) q)) (fun w s' z => ?_) fun _ _ x => x
  obtain ⟨z', H', I', rz, qz⟩ := z
  exact SlX.cmpback rz ⟨z', H', I', rz, qz⟩
/-- x != y, both of the class at C, which has an own __eq__ alone -/
def rNeI (C : Addr) (sp : Sp) (E : XK) : R2 := fun x y H Q => ∃ a dx fs b dy gs, x = .ref a ∧ y = .ref b ∧ H a = some (.ins C dx fs) ∧ H b = some (.ins C dy gs) ∧ sp [x, y] H (fun v H' => ∃ k, v = .bl k ∧ Q (.bl (!k)) H') E
theorem op_neI (hs : PySem.W.findIn X.K (.ref C) "__eq__" = some (some (.ref g))) (hf : PySem.W.isFn X.K (.ref g) = true) (hne : PySem.W.findIn X.K (.ref C) "__ne__" = some (some (.builtin "object.__ne__"))) (hm : PySem.W.mroIn X.K C (.type "object") = some true)
    (F : FnR X.prog X.w X.K X.mg X.base CX n g sp) (hr : Room (n + 1) X.A) (hx : Passes CX X E) : OpR X (compareOp .NotEq) (rNeI C sp E) := by
  intro pins s σ H x y v u Q I rx ry h
  obtain ⟨a, dx, fs, b, dy, gs, rfl, rfl, ha, hb, q⟩ := h
  cases (show v = Value.ref a from rx)
  cases (show u = Value.ref b from ry)
  obtain ⟨mA, O, _⟩ := ins_get I.hok ha
  obtain ⟨od, J, _⟩ := O.look
  obtain ⟨mB, O', _⟩ := ins_get I.hok hb
  obtain ⟨od', J', _⟩ := O'.look
  have kin := I.kIn
  have hu1 : X.A.in1.units < cLine := hr.in1.units0
  have one : wpAny (model X.prog X.w) X.A (tryCompare (.ref a) "__ne__" (.ref b)) (fun r s' => ∃ v, r = some v ∧ EP X pins σ Q v s') X.xe s := by
    have body : wpAny (model X.prog X.w) X.A (call (.builtin "object.__ne__") [.ref a, .ref b]) (fun v s' => ∃ k, v = .bool k ∧ EP X pins σ Q (.bool k) s') X.xe s := by
      refine wpAny_call (codeAny_call_builtin PySem.F.cmp_object.ne.plain PySem.F.cmpEntry_ne (PySem.W.check_slot PySem.F.cmpKind_ne PySem.F.cmpSplit_ne (J.type.andThen (PySem.W.looks_mroIn kin hm)) (PySem.F.cmpArgs_ne _ _) ?_))
      have inner : wpAny (model X.prog X.w) X.A.in1 (callSpecialIfBound? (.ref a) (Str.ofString "__eq__") [.ref b]) (fun r s' => ∃ k, r = some (.bool k) ∧ EP X pins σ Q (.bool (!k)) s') X.xe s := by
        refine PySem.W.ifBound_K kin J hs hf (wpAny_mono (wpAny_call (SlX.run_at (us := [.ref a, .ref b]) (ws := [.ref a, .ref b]) F hr.in1 I.env0.in1 hx I (.cons rfl (.cons rfl .nil)) q)) (fun r s' hr => ?_) fun _ _ e => e)
        obtain ⟨z, H', I', rz, k, ez, qz⟩ := hr
        subst ez
        cases rz
        exact ⟨k, rfl, .bl (!k), H', I', rfl, qz⟩
      unfold Builtin.«object.__ne__»
      refine wpAny_bind (m := slotArgs "__ne__" 1 _) (wpAny_pure ?_)
      refine wpAny_bind (wpAny_cRoomFor hu1 ?_)
      refine wpAny_bind (wpAny_mono inner (fun r s' z => ?_) fun _ _ e => e)
      obtain ⟨k, rfl, z⟩ := z
      dsimp only
      refine wpAny_bind (m := truthy (.bool k)) (wpAny_truthy_bool ?_)
      exact wpAny_pure ⟨_, rfl, z⟩
    have fin : wpAny (model X.prog X.w) X.A (callSpecialIfBound? (.ref a) "__ne__" [.ref b]) (fun r s' => ∃ k, r = some (.bool k) ∧ EP X pins σ Q (.bool k) s') X.xe s := by
      simp only [callSpecialIfBound?, bindSpecialIfBound?]
      refine wpAny_holding (wpAny_bind (wpAny_bind (wpAny_bind (J.type.here ((PySem.W.looks_findIn kin hne).here ?_)))))
      refine wpAny_bind (wpAny_askSetting (wpAny_ite ?_))
      have fin : wpAny (model X.prog X.w) X.A (call (.builtin "object.__ne__") ([.ref a] ++ [.ref b]) >>= fun v => pure (some v)) (fun r s' => ∃ k, r = some (.bool k) ∧ EP X pins σ Q (.bool k) s') X.xe s :=
        wpAny_bind (wpAny_mono body (fun v s' h' => wpAny_pure (by obtain ⟨k, rfl, h⟩ := h'; exact ⟨k, rfl, h⟩)) fun _ _ h' => h')
      split
      · exact wpAny_bind (wpAny_of_eq (PySem.F.cmp_object.ne.bind _) (wpAny_pure (by exact fin)))
      · exact wpAny_tryCatch (wpAny_bind (wpAny_of_eq (PySem.F.cmp_object.ne.bind _) (wpAny_pure (by exact fin))))
    unfold tryCompare
    refine wpAny_bind (wpAny_mono fin (fun r s' z => ?_) fun _ _ e => e)
    obtain ⟨k, rfl, z⟩ := z
    exact wpAny_pure ⟨_, rfl, z⟩
  show wpAny _ _ (richCompare .NotEq _ _) _ _ _
  unfold richCompare
  simp only [oneThing_ref]
  refine wpAny_holding (wpAny_bind (wpAny_cRoomFor hr.units0 ?_))
  refine wpAny_bind (J.type.here (wpAny_bind (J'.type.here ?_)))
  rw [show (Value.ref C != Value.ref C) = false from by simp]
  simp only [Bool.false_eq_true, if_false]
  refine wpAny_bind (wpAny_pure ?_)
  simp only [Bool.false_eq_true, if_false]
  refine wpAny_bind (wpAny_mono one (fun r s' z => ?_) fun _ _ e => e)
  obtain ⟨v, rfl, hq⟩ := z
  exact wpAny_pure hq
/-- len(x) by an own __len__ -/
def rLenI (C : Addr) (sp : Sp) (E : XK) : List V → Hp → VK → Prop := fun xs H Q => ∃ a dx fs, xs = [V.ref a] ∧ H a = some (.ins C dx fs) ∧ sp [.ref a] H (fun v H' => ∃ i : Int, v = .int i ∧ 0 ≤ i ∧ i < 2 ^ 63 ∧ Q (.int i) H') E
theorem call_lenI (hs : PySem.W.findIn X.K (.ref C) "__len__" = some (some (.ref g))) (hf : PySem.W.isFn X.K (.ref g) = true) (F : FnR X.prog X.w X.K X.mg X.base CX n g sp) (hr : Room (n + 1) X.A) (hx : Passes CX X E) : CallR X (.builtin "len") (rLenI C sp E) := by
  intro pins s σ H xs us Q I r h
  obtain ⟨a, dx, fs, rfl, ha, q⟩ := h
  obtain ⟨u, rfl, ru⟩ := r.one
  cases (show u = Value.ref a from ru)
  obtain ⟨mA, O, _⟩ := ins_get I.hok ha
  obtain ⟨od, J, _⟩ := O.look
  obtain ⟨m, hF⟩ := I.fr
  refine PySem.W.len_K hF I.ok.mod.kin J hs hf (wpAny_mono (wpAny_call (SlX.run_at (us := [.ref a]) (ws := [.ref a]) F hr.in1 I.env0.in1 hx I (.cons rfl .nil) q)) (fun w s' z => ?_) fun _ _ x => x)
  obtain ⟨z', H', I', rz, i, ei, h0, h1, qz⟩ := z
  subst ei
  obtain ⟨t, e⟩ := (show ∃ t, w = Value.int i t from rz)
  cases e
  exact ⟨⟨h0, h1⟩, .int i, H', I'.tok _, ⟨_, rfl⟩, qz⟩
/-- x[i] by an own __getitem__ -/
def tItI (C : Addr) (sp : Sp) (E : XK) (ta tb : TE) : TE := fun σ H Q => ta σ H fun x H1 => tb σ H1 fun y H2 => ∃ a dx fs, x = V.ref a ∧ H2 a = some (.ins C dx fs) ∧ sp [x, y] H2 Q E
theorem pe_itI {a b : Expr} {ta tb : TE} {pos : Pos} (hs : PySem.W.findIn X.K (.ref C) "__getitem__" = some (some (.ref g))) (hk : PySem.W.fnIn X.K g = true) (hf : PySem.W.isFn X.K (.ref g) = true) (F : FnR X.prog X.w X.K X.mg X.base CX n g sp) (hr : Room (n + 1) X.A) (hx : Passes CX X E)
    (ha : PE X a ta) (hb : PE X b tb) (hsl : ∀ (x : Addr) (i : Value), subscripted b true (.ref x) i = runValue (.builtin "lifetime.subscript" ⟨[.ref x, i], []⟩) := by intro _ _; with_unfolding_all rfl) : PE X (.Subscript a b pos) (tItI C sp E ta tb) := by
  refine ⟨fun pins s σ H Q I h => ?_⟩
  refine Subscript_ (binT ha hb I (R := fun x y H2 => ∃ a dx fs, x = V.ref a ∧ H2 a = some (.ins C dx fs) ∧ sp [x, y] H2 Q E) h fun v u s2 x y H2 I2 rx ry q => ?_)
  obtain ⟨a, dx, fs, rfl, ha, q⟩ := q
  cases (show v = Value.ref a from rx)
  obtain ⟨mA, O, _⟩ := ins_get I2.hok ha
  obtain ⟨od, J, _⟩ := O.look
  obtain ⟨m, hF⟩ := I2.fr
  refine PySem.W.sub_K hF I2.ok.mod.kin J hs hk hf (wpAny_call (SlX.run_at (us := [.ref a, u]) (ws := [.ref a, y]) F hr.in1 I2.env0.in1 hx I2 (.cons rfl (.cons ry .nil)) q)) (hsl _ _)
end
end Wm
/-! W13 -/
namespace Wm
open PySem PySem.Spec PyProof.Rows L2
open AutoSeq1 (wpAny_loadPart')
open MeetsSeq MeetsSeq2 MeetsSeq3 SeqRoads2
section
variable {prog : Program} {w : World} {A : Around} {R : Result → Shared → Prop}
/-- tuple == tuple, the right one of one item, the left one of n + 1: the first pair is asked -/
theorem tuple_eq1 (l b : Addr) (x y : Value) (r : List Value) (n n2 : Nat) (dd dd2 : Option Addr) (sl sl2 : Array (Option Value)) {s : Shared}
    (hl1 : s.heap.get? l = some { cls := .type "tuple", dict := dd, data := .seq (x :: r).toArray n, slots := sl }) (hb1 : s.heap.get? b = some { cls := .type "tuple", dict := dd2, data := .seq [y].toArray n2, slots := sl2 })
    (h : wpAny (model prog w) A.in1 (eqBool x y) (fun k s' => R (.ok (.ret (.bool (k && r.isEmpty)))) s') (fun e s' => R (.error e) s') s) :
    wpAny (model prog w) A.in1 (Builtin.«tuple.__eq__» ⟨[.ref l, .ref b], []⟩) (GQ.FinOf prog w A R) (fun e s' => R (.error e) s') s := by
  have f2 := AutoSeq1.sub_tuple_tuple
  have hz : ((x :: r).toArray.toList.zip [y].toArray.toList) = [(x, y)] := by simp
  obtain ⟨hp, g, d, tk, os⟩ := s
  wp_walk using wpAny_loadPart' hl1, wpAny_loadPart' hb1, wpAny_forIn_list _ (fun rest b s' => b.1 = none ∧ ((rest = [(x, y)] ∧ s' = ⟨hp, g, d, tk, os⟩) ∨ (rest = [] ∧ R (.ok (.ret (.bool r.isEmpty))) s'))) _
  case turn =>
    rintro ⟨y', x'⟩ rest b s' ⟨hb', q⟩
    rcases q with ⟨e, rfl⟩ | ⟨e, _⟩
    · cases e
      refine wpAny_bind (wpAny_mono h (fun k s2 q2 => ?_) fun _ _ x => x)
      cases k with
      | false =>
        wp_walk
        exact q2
      | true =>
        wp_walk
        exact ⟨rfl, .inr ⟨rfl, q2⟩⟩
    · cases e
  case fin =>
    rintro ⟨b1, b2⟩ s' ⟨hb', q⟩
    simp only at hb'
    subst hb'
    rcases q with ⟨e, _⟩ | ⟨_, q⟩
    · cases e
    · wp_walk
      have e : Builtin.Tuple.tupleCompareSizes CmpOp.Eq (x :: r).toArray.size #[y].size = .bool r.isEmpty := by
        cases r with
        | nil => rfl
        | cons a r => simp [Builtin.Tuple.tupleCompareSizes]
      first
        | (rw [e]; exact q)
        | simpa [Builtin.Tuple.tupleCompareSizes] using q
  case h =>
    exact ⟨rfl, .inl ⟨hz, rfl⟩⟩
end
section
variable {X : Cx} {CX : CXT} {C g : Addr} {n : Nat} {sp : Sp} {E : XK}
/-- the first items: the same thing, or two of the class at C by its __eq__ -/
def tHead (C : Addr) (sp : Sp) (E : XK) (x y : V) (H : Hp) (Q : Bool → Hp → Prop) : Prop :=
  ∃ a b, x = .ref a ∧ y = .ref b ∧ ((a = b ∧ Q true H) ∨ (a ≠ b ∧ ∃ dx fs dy gs, H a = some (.ins C dx fs) ∧ H b = some (.ins C dy gs) ∧ sp [x, y] H (fun v H' => ∃ k, v = .bl k ∧ Q k H') E))
/-- t == u, u of one item -/
def rEqT1 (K : PySem.W.Frag) (C : Addr) (sp : Sp) (E : XK) : R2 := fun x y H Q => ∃ a b u v r, x = .ref a ∧ y = .ref b ∧ SqT K H a (u :: r) ∧ SqT K H b [v] ∧ tHead C sp E u v H (fun k H' => Q (.bl (k && r.isEmpty)) H')
theorem op_eqT1 (hs : PySem.W.findIn X.K (.ref C) "__eq__" = some (some (.ref g))) (hf : PySem.W.isFn X.K (.ref g) = true) (F : FnR X.prog X.w X.K X.mg X.base CX n g sp) (hr : Room (n + 1) X.A) (hx : Passes CX X E) : OpR X (compareOp .Eq) (rEqT1 X.K C sp E) := by
  intro pins s σ H x y v u Q I rx ry h
  obtain ⟨a, b, p, q, r, rfl, rfl, ha, hb, hd⟩ := h
  cases (show v = Value.ref a from rx)
  cases (show u = Value.ref b from ry)
  obtain ⟨its, rv, pl, _⟩ := I.tuple ha
  obtain ⟨its2, rv2, pl2, _⟩ := I.tuple hb
  obtain ⟨⟨cls, dd, data, sl⟩, ho, hc, n1, hdt⟩ := pl
  obtain ⟨⟨cls2, dd2, data2, sl2⟩, ho2, hc2, n2, hdt2⟩ := pl2
  simp only at hc hdt hc2 hdt2
  subst hc hdt hc2 hdt2
  cases rv with
  | cons rp rr =>
    rename_i pv rvs
    cases rv2 with
    | cons rq rn =>
      rename_i qv rns
      cases rn
      show wpAny _ _ (richCompare .Eq _ _) _ _ _
      refine wpAny_richCompare_same_room (op := .Eq) ⟨_, ho, rfl⟩ ⟨_, ho2, rfl⟩ PySem.F.slot_tuple_eq (GQ.call_here PySem.F.slot_tuple_eq ⟨_, ho, rfl⟩ PySem.F.entry_tuple_eq (PySem.F.args_tuple_eq_2 _ _) ?_) hr.units0
      refine tuple_eq1 (R := wants (fun v s' => v ≠ .notImplemented ∧ EP X pins σ Q v s') X.xe) a b pv qv rvs n1 n2 dd dd2 sl sl2 ho ho2 ?_
      have hl : rvs.isEmpty = r.isEmpty := by
        cases rr with
        | nil => rfl
        | cons _ _ => rfl
      obtain ⟨a1, b1, rfl, rfl, hh⟩ := hd
      cases (show pv = Value.ref a1 from rp)
      cases (show qv = Value.ref b1 from rq)
      rcases hh with ⟨rfl, hq⟩ | ⟨hne, dx, fs, dy, gs, h1, h2, hsp⟩
      · exact SeqAt.EqAt.same (A := X.A.in1) (s := s) (.ref a1) X.prog X.w _ _ ⟨(fun z => nomatch z), .bl _, H, I, by rw [hl] <;> rfl, hq⟩
      · obtain ⟨mA, J, _⟩ := ins_get I.hok h1
        obtain ⟨mB, J', _⟩ := ins_get I.hok h2
        obtain ⟨od, J, _⟩ := J.look
        obtain ⟨od', J', _⟩ := J'.look
        obtain ⟨m, hF⟩ := I.fr
        refine GQ.eqBool_refG hne (PySem.W.cmp_K (op := .Eq) (tb := .ref C) hr.in1.units0 hF I.ok.mod.kin J J'.type (by simp [PySem.W.notFirst]) hs hf ?_)
        refine wpAny_mono (wpAny_call (SlX.run_at (us := [.ref a1, .ref b1]) (ws := [.ref a1, .ref b1]) F hr.in1 I.env0.in1 hx I (.cons rfl (.cons rfl .nil)) hsp)) (fun w s' z => ?_) fun _ _ x => x
        obtain ⟨z', H', I', rz, k, ez, qz⟩ := z
        subst ez
        cases rz
        exact ⟨k, rfl, (fun z => nomatch z), .bl _, H', I', by rw [hl] <;> rfl, qz⟩
end
end Wm
/-! W14 -/
/-! enumerate over a tuple; a tuple's sorted, empty; an expression that is never reached -/
namespace Wm
open PySem PySem.Spec PyProof.Rows L2
open AutoSeq1 (wpAny_loadPart')
theorem meets_enumT (l : Addr) (items : Array Value) (n : Nat) (dct : Option Addr) (sl : Array (Option Value)) :
    Meets (Builtin.«enumerate.__new__» ⟨[.type "enumerate", .ref l], []⟩) (fun _ R s => s.heap.get? l = some { cls := .type "tuple", dict := dct, data := .seq items n, slots := sl } ∧
      R (.ok (.ret (.ref (s.heap.push { cls := .type "tuple_iterator", data := .fields #[.ref l, .int 0 0] }).objs.size)))
        { s with heap := (s.heap.push { cls := .type "tuple_iterator", data := .fields #[.ref l, .int 0 0] }).push { cls := .type "enumerate", data := .fields #[.none, .bool false, .ref s.heap.objs.size, rawInt 0, .none, .none] } }) :=
  .of_wp fun prog w A R s h => by
    obtain ⟨hp, g, d, tk, os⟩ := s; obtain ⟨hl, h⟩ := h
    have hsub := PySem.sub_enumerate
    have hL : Heap.IsTuple (Shared.heap ⟨hp, g, d, tk, os⟩) l items := ⟨_, hl, rfl, n, rfl⟩
    wp_walk using wpAny_loadPart' hl
    refine wpAny_stack_any fun st => wpAny_pure ?_
    split
    · rename_i c _ _ _ _ _
      cases (c == Value.type "enumerate")
      · wp_walk using wpAny_loadPart' hl, wpAny_pyIter_tuple hL
        exact ⟨_, rfl, h⟩
      · wp_walk using wpAny_loadPart' hl, wpAny_pyIter_tuple hL
        exact ⟨_, rfl, h⟩
    · wp_walk using wpAny_loadPart' hl, wpAny_pyIter_tuple hL
      exact ⟨_, rfl, h⟩
section
variable {prog : Program} {w : World} {A : Around} {E : Value → Shared → Prop} {s : Shared}
theorem call_enumT {l : Addr} {items : Array Value} {Q : Value → Shared → Prop} (hL : s.heap.IsTuple l items)
    (h : ∀ h', IsEnum h' (s.heap.objs.size + 1) s.heap.objs.size 0 .none → h'.IsTupleIter s.heap.objs.size l 0 → h'.objs.size = s.heap.objs.size + 2 →
      (∀ b o, s.heap.get? b = some o → h'.get? b = some o) → Q (.ref (s.heap.objs.size + 1)) { s with heap := h' }) :
    wpAny (model prog w) A (call (.type "enumerate") [.ref l]) Q E s := by
  obtain ⟨⟨c, dct, dt, sl⟩, hl, hc, n, hd⟩ := hL
  replace hc : c = .type "tuple" := hc
  replace hd : dt = .seq items n := hd
  subst hc hd
  refine callType_new PySem.F.called_enumerate (by decide) (PySem.F.typeCall_enumerate_1 _) (PySem.F.newCall_enumerate_1 _) (fun obj => PySem.F.args_object_init_2 obj _) PySem.F.entry_enumerate_new
    (meets_enumT l items n dct sl) ⟨hl, ?_⟩
  have hz : (s.heap.push { cls := .type "tuple_iterator", data := .fields #[.ref l, .int 0 0] }).objs.size = s.heap.objs.size + 1 := Heap.size_push ..
  show _ ∧ _
  rw [hz]
  have he : IsEnum ((s.heap.push { cls := .type "tuple_iterator", data := .fields #[.ref l, .int 0 0] }).push
      { cls := .type "enumerate", data := .fields #[.none, .bool false, .ref s.heap.objs.size, rawInt 0, .none, .none] }) (s.heap.objs.size + 1) s.heap.objs.size 0 .none := by
    have := Heap.get?_push_size (s.heap.push { cls := .type "tuple_iterator", data := .fields #[.ref l, .int 0 0] })
      (o := { cls := .type "enumerate", data := .fields #[.none, .bool false, .ref s.heap.objs.size, rawInt 0, .none, .none] }) rfl
    rw [hz] at this; exact this
  refine ⟨⟨_, he, rfl⟩, h _ he ⟨_, Heap.get?_push_of_some _ (Heap.get?_push_size _ rfl), rfl, rfl⟩ (by rw [Heap.size_push, hz]) fun b o x => Heap.get?_push_of_some _ (Heap.get?_push_of_some _ x)⟩
end
/-- the tuple at a as it stands at each turn, each item in a new pair -/
def ItE (K : PySem.W.Frag) (a : Addr) : It :=
  ⟨fun i H => ∃ (xs : List V) (x : V), SqT K H a xs ∧ xs[i]? = some x, fun i H v H' => ∃ T x, v = .ref T ∧ H T = none ∧ H' = upd H T (.tup [.int (i : Nat), x]) ∧ ∀ xs, SqT K H a xs → xs[i]? = some x, fun i H => ∃ xs : List V, SqT K H a xs ∧ xs.length ≤ i⟩
theorem turn_enumT {P : Program} {w : World} {K : PySem.W.Frag} {elts : List Expr} {kk : Nat} {tpos : Pos} (a e it : Addr) :
    Turn P w K (.Tuple elts kk tpos) (ItE K a) [e, it] e (fun i h => (∃ old, IsEnum h e it ((i : Nat) : Int) old) ∧ h.IsTupleIter it a i ∧ e ≠ it ∧ a ≠ it ∧ a ≠ e) where
  mem := by simp
  obj := fun i h st b hb => by
    obtain ⟨⟨old, he⟩, ⟨o, ho, hc, hd⟩, _⟩ := st
    have e' : b = e ∨ b = it := by simpa using hb
    rcases e' with z | z
    · rw [z]; exact ⟨_, he, fun v q => nomatch q⟩
    · rw [z]; exact ⟨o, ho, fun v q => by rw [hd] at q; cases q⟩
  keep := fun i h h' st k => let ⟨⟨old, he⟩, hi, hne⟩ := st; ⟨⟨old, k e (by simp) _ he⟩, hi.at fun o q => k it (by simp) o q, hne⟩
  item := by
    intro X hP hw hK hc i pins s σ H E I hf st hg
    subst hP hw hK
    obtain ⟨⟨old, he⟩, hit, hne, hai, hae⟩ := st
    obtain ⟨xs, x, hq, hx⟩ := hg
    obtain ⟨its, rv, p, hz⟩ := I.tuple hq
    obtain ⟨u, hu, ru⟩ := rv.get hx
    have hel : e < s.heap.objs.size := Heap.lt_size he
    have hil : it < s.heap.objs.size := by obtain ⟨_, q, _⟩ := hit; exact Heap.lt_size q
    have D := Draws.tuple (prog := X.prog) (w := X.w) (A := X.A.in1) (I.ok.hd hc) it a hai its.toArray
    refine wpAny_pyNext_enum_itemD D he ⟨hit, p⟩ (by have := rv.length; have := (List.getElem?_eq_some_iff.mp hx).1; simp; omega) hne (by simp [hne, Ne.symm hae]) fun x' h' tk hP ho hst hT hsz hk => ?_
    have ex : x' = u := by
      have e1 : its.toArray[i]? = some x' := hP
      have e2 : its.toArray[i]? = some u := by simpa using hu
      exact Option.some.inj (e1.symm.trans e2)
    subst ex
    refine ⟨_, rfl, wpAny_letOwnedTupleGo_enum (s := { s with heap := h', toks := tk + 1 }) ho fun h'' he' sb => ?_⟩
    have hT2 : h''.get? s.heap.objs.size = some { cls := .type "tuple", data := .seq #[.int i tk, x'] } := (sb.2 _ (Nat.ne_of_gt hel)).trans hT
    have new : ObjOk X.prog X.w (upd H s.heap.objs.size (.tup [.int (i : Nat), x])) h'' s.heap.objs.size (.tup [.int (i : Nat), x]) :=
      ⟨by show 2 ≤ sizeLine; decide, [.int i tk, x'], .cons ⟨_, rfl⟩ (.cons ru .nil), ⟨_, hT2, rfl, _, rfl⟩⟩
    have I1 : Inv X pins σ (upd H s.heap.objs.size (.tup [.int (i : Nat), x])) { s with heap := h'', toks := tk + 1 } :=
      I.turnedNew (ch := [e, it]) (fun b ob hb q => (sb.2 b (fun z => hb (by simp [z]))).trans (hk b ob (fun z => hb (by simp [z])) (fun z => hb (by simp [z])) q)) hf (Nat.le_refl _) new
    refine ⟨.ref s.heap.objs.size, _, I1, rfl, ⟨_, x, rfl, I.hok.fresh (Nat.le_refl _), rfl, fun ys hy => by rw [I.tuple_inj hy hq]; exact hx⟩, ⟨⟨x', ?_⟩, hst.1.at fun o q => (sb.2 it (Ne.symm hne)).trans q, hne, hai, hae⟩, fun b hb => ?_⟩
    · have e1 : ((i + 1 : Nat) : Int) = (i : Int) + 1 := by omega
      rw [e1]; exact he'
    · have hb' : b < s.heap.objs.size := by
        have e' : b = e ∨ b = it := by simpa using hb
        rcases e' with z | z
        · rw [z]; exact hel
        · rw [z]; exact hil
      rw [upd_ne (Nat.ne_of_lt hb')]
      exact (hf b hb).1
  done := by
    intro X hP hw hK hc i pins s σ H E I hf st hg
    subst hP hw hK
    obtain ⟨⟨old, he⟩, hit, hne, hai, hae⟩ := st
    obtain ⟨xs, hq, hx⟩ := hg
    obtain ⟨its, rv, p, hz⟩ := I.tuple hq
    obtain ⟨f0, f1, f2, f3, f4, f5⟩ := hf it (by simp)
    have hl := rv.length
    have hT : s.TypeIs (.ref e) "enumerate" := ⟨_, he, rfl⟩
    unfold pyNext
    refine wpAny_bind (wpAny_attempt (wpAny_callSpecial?_slot (name := Str.ofString "__next__") hT PySem.F.slot_enumerate_next
      (wpAny_call_entry PySem.F.slot_enumerate_next hT PySem.F.entry_enumerate_next ?_ (PySem.F.args_enumerate_next_1 _))))
    show wpAny _ _ (field (.ref e) 2 >>= _) _ _ _
    refine wpAny_bind (wpAny_field he rfl (x := .ref it) rfl ?_)
    refine wpAny_bind (wpAny_nextOf_tuple_end (I.ok.hd hc) hit p (i := i) (by simp; omega) fun h' x he' hx' => ?_)
    obtain ⟨o, ho, hc'⟩ := hx'
    refine wpAny_bind (wpAny_isInstance (T := "StopIteration") (b := true) ⟨o, ho, hc'⟩ isSubtype_stop ?_)
    exact wpAny_pure ⟨rfl, I.turned (t' := s.toks) (fun b o hb q => he' b o hb q) f0 f1 f3 f4 f5⟩
  self := fun A i s Q E st h => let ⟨⟨_, he⟩, _⟩ := st; wpAny_pyIter_enum he h
def iEnumT (K : PySem.W.Frag) (ta : TA) : TI := fun σ H R => ta σ H fun vs H1 => ∃ a xs, vs = [.ref a] ∧ SqT K H1 a xs ∧ R (ItE K a) H1
theorem pi_enumT {X : Cx} {e : Expr} {ta : TA} {p pos tpos : Pos} {elts : List Expr} {kk : Nat} (hg : Gl X "enumerate") (hm : X.mg "enumerate" = none) (ha : PA X [e] ta) (hs : starEach [e] X.env = [(false, eval e X.env)] := by rfl) :
    PI X (.Tuple elts kk tpos) (.Call (.Name "enumerate" p) [e] [] pos) (iEnumT X.K ta) := by
  refine ⟨fun pins s σ H R I h => ?_⟩
  refine Call_ (ld_blt I hg hm PyProof.Rows.boot_enumerate (PyProof.Rows.callWith_type1 (thn (ha.run pos pins s σ H _ I h) fun us s1 ⟨vs, H1, I1, r1, q1⟩ => ?_) hs rfl))
  obtain ⟨a, xs, ex, hq, q⟩ := q1
  subst ex
  cases r1 with
  | cons r rr =>
    cases rr
    cases r
    obtain ⟨its, rv, p', hz⟩ := I1.tuple hq
    have hla : a < s1.heap.objs.size := by obtain ⟨_, q, _⟩ := p'; exact Heap.lt_size q
    refine call_enumT p' fun h' he hit hsz hk => wpAny_pyIter_enum he ?_
    have I2 : Inv X pins σ H1 { s1 with heap := h' } := I1.kept (t' := s1.toks) hk
    refine ⟨s1.heap.objs.size + 1, [s1.heap.objs.size + 1, s1.heap.objs.size], _, _, H1, rfl, I2, turn_enumT a (s1.heap.objs.size + 1) s1.heap.objs.size, ⟨⟨.none, he⟩, hit, Nat.succ_ne_self _, Nat.ne_of_lt hla, Nat.ne_of_lt (Nat.lt_succ_of_lt hla)⟩, fun b hb => ?_, q⟩
    have e' : b = s1.heap.objs.size + 1 ∨ b = s1.heap.objs.size := by simpa using hb
    have hle : s1.heap.objs.size ≤ b := by
      rcases e' with z | z
      · rw [z]; exact Nat.le_add_right _ _
      · rw [z]; exact Nat.le_refl _
    exact I1.fpOk hle (I1.hok.fresh hle)
theorem walk_enumT {K : PySem.W.Frag} {a : Addr} {xs : List V} : Walk (ItE K a) xs.length (fun H => SqT K H a xs) (YPair (fun i => some (.int (i : Nat))) (fun i => xs[i]?)) := by
  refine ⟨fun i _ hi q => ⟨xs, xs[i], q, by simp [hi]⟩, fun _ q => ⟨xs, q, Nat.le_refl _⟩, fun i H v H' _ q y => ?_⟩
  obtain ⟨T, x, h1, h2, h3, h4⟩ := y
  exact ⟨T, .int (i : Nat), x, h1, h2, h3, rfl, h4 xs q⟩
/-- an expression that is never reached -/
def tFalse : TE := fun _ _ _ => False
theorem pe_never {X : Cx} {e : Expr} : PE X e tFalse := ⟨fun _ _ _ _ _ _ h => h.elim⟩
end Wm
/-! W15 -/
namespace Wm
open PySem PySem.Spec PyProof.Rows L2
section
variable {prog : Program} {w : World} {A : Around} {E : Value → Shared → Prop} {s : Shared}
theorem collect_tupl {l : Addr} {vs : List Value} {Q : List Value → Shared → Prop} (hl : s.heap.IsTuple l vs.toArray)
    (h : Q vs { s with heap := (s.heap.push (seqObj "list" #[] 0)).update s.heap.objs.size (Obj.mapSeq (· ++ vs.toArray)) }) (hsz : vs.length ≤ sizeLine) :
    wpAny (model prog w) A (collect (.ref l)) Q E s := by
  obtain ⟨o, ho, hc, n, hd⟩ := id hl
  unfold collect
  refine wpAny_bind (wpAny_runValue (codeAny_builtin entry_proto_collect' ?_))
  show wpAny _ _ (do again (.builtin "list.__iadd__" ⟨[← newList [], .ref l], []⟩)) _ _ s
  refine wpAny_bind (wpAny_newList (wpAny_pure ⟨Code.quiet_builtin _ (by decide +kernel), codeAny_builtin entry_list_iadd' ?_⟩))
  show wpAny _ _ (Builtin.List.listExtendWith (.ref s.heap.objs.size) (.ref l) (.ref s.heap.objs.size)) _ _ { s with heap := s.heap.push (seqObj "list" #[] 0) }
  unfold Builtin.List.listExtendWith
  have ho' : (s.heap.push (seqObj "list" #[] 0)).get? l = some o := Heap.get?_push_of_some _ ho
  refine wpAny_bind (wpAny_typeOf (T := "tuple") ⟨o, ho', hc⟩ ?_)
  have ht : (Value.type "tuple" == Value.type "tuple") = true := by rfl
  rw [if_pos (by rw [ht]; simp)]
  refine wpAny_bind (listItems_at ho' hd ?_)
  refine wpAny_bind (listItems_at (xs := #[]) (n := 0) (Heap.get?_push_size _ rfl) rfl ?_)
  rw [if_neg (by simp)]
  refine wpAny_bind (listUpdate_at (xs := #[]) (n := 0) (Heap.get?_push_size _ rfl) rfl ?_ (Nat.zero_le _) (by show (#[] ++ vs.toArray).size ≤ sizeLine + 1; simp only [Array.size_append, List.size_toArray, List.length_nil]; omega))
  refine wpAny_pure ?_
  show wpAny (model prog w) A (do
      let o ← load s.heap.objs.size
      match o.data with
      | .seq xs _ => pure xs.toList
      | _ => unsupported "internal:collect") Q E { s with heap := (s.heap.push (seqObj "list" #[] 0)).update s.heap.objs.size (Obj.mapSeq (· ++ vs.toArray)) }
  refine wpAny_bind (wpAny_load (get?_update_seq (Heap.get?_push_size _ rfl) _) ?_)
  show wpAny _ _ (pure ((#[] : Array Value) ++ vs.toArray).toList) Q E _
  rw [show ((#[] : Array Value) ++ vs.toArray).toList = vs by simp]
  exact wpAny_pure h
theorem sorted_intsT {l : Addr} {vs : List Value} {ns : List Int} {Q : Value → Shared → Prop} (hl : s.heap.IsTuple l vs.toArray) (hI : IntsAre vs ns) (h64 : vs.length < 64)
    (h : ∀ (out : Array Value) (ns' : List Int), IntsAre out.toList ns' → ns'.Perm ns → ns'.Pairwise (· ≤ ·) → Q (.ref (s.heap.objs.size + 1)) { s with heap := sortedAll s.heap vs out }) :
    wpAny (model prog w) A (call (.builtin "sorted") [.ref l]) Q E s := by
  refine Calls.call_function_entry kind_sorted plain_sorted entry_sorted (args_sorted1 _) ?_
  unfold Builtin.«sorted»
  refine wpAny_bind (m := checkCount "sorted" 1 1 _) (wpAny_pure ?_)
  refine wpAny_bind (collect_tupl hl ?_ (by rw [sizeLine_eq]; omega))
  refine wpAny_bind (wpAny_newList ?_)
  have hsz : ((s.heap.push (seqObj "list" #[] 0)).update s.heap.objs.size (Obj.mapSeq (· ++ vs.toArray))).objs.size = s.heap.objs.size + 1 := by
    rw [Heap.size_update, size_push']
  have hoL : (((s.heap.push (seqObj "list" #[] 0)).update s.heap.objs.size (Obj.mapSeq (· ++ vs.toArray))).push (seqObj "list" vs.toArray 0)).get? (s.heap.objs.size + 1) = some (seqObj "list" vs.toArray 0) := by
    rw [← hsz]; exact Heap.get?_push_size _ rfl
  show wpAny _ _ _ _ _ { s with heap := ((s.heap.push (seqObj "list" #[] 0)).update s.heap.objs.size (Obj.mapSeq (· ++ vs.toArray))).push (seqObj "list" vs.toArray 0) }
  rw [hsz]
  refine wpAny_bind (wpAny_holding (wpAny_call_entry slot_list_sort ⟨_, hoL, rfl⟩ entry_list_sort (list_sort_tree hoL hI h64 fun out ns' a1 a2 a3 => ⟨_, rfl, ?_⟩) (args_list_sort _)))
  exact wpAny_pure ⟨_, rfl, h out ns' a1 a2 a3⟩
end
section
variable {X : Cx}
/-- sorted(()) -/
def rSort0 (K : PySem.W.Frag) : List V → Hp → VK → Prop := fun vs H Q => ∃ a : Addr, vs = [V.ref a] ∧ SqT K H a [] ∧ ∀ p, H p = none → Q (.ref p) (upd H p (.lst []))
theorem cr_sort0 : CallR X (.builtin "sorted") (rSort0 X.K) := by
  intro pins s σ H vs us Q I r h
  obtain ⟨a, rfl, hs, q⟩ := h
  obtain ⟨its, rv, hl, _⟩ := I.tuple hs
  rw [Vals.ref1 r]
  cases rv
  refine sorted_intsT (ns := []) hl .nil (by decide) fun out ns' h1 h2 h3 => ?_
  obtain ⟨ep, he'⟩ := PyProof.Rows.sortedAll_at s.heap [] out
  have e : ns' = [] := List.Perm.eq_nil h2
  subst e
  have eo : out.toList = [] := by cases h : out.toList with | nil => rfl | cons a b => rw [h] at h1; cases h1
  exact ⟨.ref _, upd H (s.heap.objs.size + 1) (.lst []), I.laid (t' := s.toks) (fun _ _ => PyProof.Rows.sortedAll_old) (Nat.le_succ _) ⟨Nat.zero_le _, out.toList, ep, by rw [eo]; exact .nil, he'⟩, rfl, q _ (I.hok.fresh (Nat.le_succ _))⟩
end
end Wm
/-! W16 -/
/-! calls in an except suite: a def, a method without arguments, a property, an own __len__; nothing is raised -/
namespace Wm
open PySem PySem.Spec PyProof.Rows L2 L2H
def HotS (X : Cx) : Prop := ∃ p : Addr × Obj, p ∈ X.pn
section
variable {X : Cx} {k : Nat} {f C g : Addr} {fd : FuncData} {ps : List Str} {sp : Sp} {x m : Str} {q pos apos : Pos} {e o : Expr} {es : List Expr} {ta : TE} {t : TA}
theorem run_fnS {A : Around} {xe : Value → Shared → Prop} {pins : List (Addr × Obj)} {σ : L2.St} {H : Hp} {s : Shared} {Q : VK} {us : List Value} {vs : List V} (F : FnS X.prog X.w X.K X.mg X.base k f fd ps sp) (hr : RoomH k A) (e0 : Env0 X.prog X.w X.K X.mg X.base A X.stack s H) (hc : HotS X) (hb : Binds X.K fd ps [])
    (I : Inv X pins σ H s) (r : Vals vs us) (h : sp vs H Q E0) : wpAny (model X.prog X.w) A (call (.ref f) us) (EP X pins σ Q) xe s := by
  obtain ⟨p, hp⟩ := hc
  have hl : us.length = ps.length := by rw [← r.length]; exact F.len _ _ _ _ h
  have b := hb s us I.kIn (by rw [List.append_nil]; exact hl)
  rw [List.append_nil] at b
  have P1 := I.pin p (List.mem_append_left _ hp)
  have hpin : PinOk X.stack H s p := ⟨P1.1, P1.2.1, fun hm => (List.mem_cons.mp (I.stkSub p.1 hm)).elim P1.2.2.1 P1.2.2.2.1, P1.2.2.2.2⟩
  refine wpAny_call (codeAny_mono (F.run A X.stack s H ⟨us, []⟩ us vs Q p hr hpin e0 b r h) fun r s' hq => ?_)
  cases r with
  | error e => exact False.elim hq
  | ok fl =>
    cases fl with
    | ret u => exact I.after hq
    | next => exact False.elim hq
    | brk => exact False.elim hq
    | cont => exact False.elim hq
def tCallH (sp : Sp) (t : TA) : TE := fun σ H Q => t σ H fun vs H1 => sp vs H1 Q E0
theorem pe_callHS (F : FnS X.prog X.w X.K X.mg X.base k f fd ps sp) (hr : RoomH k X.A) (hc : HotS X) (hg : Gl X x) (hm : X.mg x = some (.ref f)) (hk : PySem.W.keepIn X.K (.ref f) = true) (hb : Binds X.K fd ps [])
    (ha : PA X (e :: es) t) (hdb : (x == ("__debug__" : Str)) = false := by decide) (he : starEach (e :: es) X.env = (false, eval e X.env) :: starEach es X.env := by rfl) (hpl : (backTo pos (starEach es X.env)).any (·.1) = false := by rfl) :
    PE X (.Call (.Name x q) (e :: es) [] pos) (tCallH sp t) := by
  refine ⟨fun pins s σ H Q I h => ?_⟩
  refine wpAny_Call_Name_kw (ld_glob I hg hm ?_ hdb)
  refine PySem.W.callWith_K (h₀ := X.base) I.ok.mod.kin hk (thn (ha.run pos pins s σ H _ I h) fun us s1 ⟨vs, H1, I1, r, q⟩ => ⟨I1.kIn, ?_⟩) he hpl
  exact run_fnS F hr I1.env0 hc hb I1 r q
def tMethHS (C : Addr) (m : Str) (sp : Sp) (ta : TE) : TE := fun σ H Q => ta σ H fun x H1 => ∃ a dx fs, x = .ref a ∧ H1 a = some (.ins C dx fs) ∧ fs.lookup m = none ∧ sp [.ref a] H1 Q E0
theorem pe_methHS {pl : Sem Bool} (he : PE X o ta) (c : Cls X.K C) (hm : Meth X.K C m f) (F : FnS X.prog X.w X.K X.mg X.base k f fd ps sp) (hr : RoomH k X.A) (hc : HotS X) (hb : Binds X.K fd ps [])
    (ht : eval (.Call (.Attribute o m apos) [] [] pos) X.env = (do
      let ov ← eval o X.env
      standAt apos.atName
      let (f, first) ← holding [ov] (getMethod ov m pl)
      callWith pos f first (backTo pos (starEach [] X.env)) (backToKw pos (keywordEach [] X.env))) := by rfl) :
    PE X (.Call (.Attribute o m apos) [] [] pos) (tMethHS C m sp ta) := by
  refine ⟨fun pins s σ H Q I h => ?_⟩
  refine PySem.W.methodCall_KW (pl := pl) (thn (he.run pins s σ H _ I h) fun u s1 ⟨x, H1, I1, rx, a, dx, fs, ex, ea, l, q⟩ => ?_) ht
  subst ex
  obtain rfl : u = Value.ref a := rx
  refine getmeth_ok I1 ea c hm l ?_
  exact PySem.W.callWith_K0 (first := [.ref a]) I1.kIn hm.kp (run_fnS (us := [.ref a]) (vs := [.ref a]) F hr I1.env0 hc hb I1 (.cons rfl .nil) q)
theorem roomH_in1 {k : Nat} {A : Around} (r : RoomH (k + 1) A) : RoomH k A.in1 :=
  ⟨by have := r.dp; show A.depth + 3 * k + 5 < _; omega, by have := r.un; show A.units + 1 + 16 * k + 200 < _; omega⟩
def tPropHS (C : Addr) (sp : Sp) (ta : TE) : TE := fun σ H Q => ta σ H fun x H1 => ∃ a dx fs, x = .ref a ∧ H1 a = some (.ins C dx fs) ∧ sp [.ref a] H1 Q E0
theorem pe_propHS {p : Addr} (he : PE X e ta) (c : Cls X.K C) (hp : PropOf X.K C m p g) (F : FnS X.prog X.w X.K X.mg X.base k g fd ps sp) (hr : RoomH (k + 1) X.A) (hc0 : HotS X) (hb : Binds X.K fd ps [])
    (hab : attributeBase e m X.env (eval e X.env) = eval e X.env) : PE X (.Attribute e m pos) (tPropHS C sp ta) := by
  refine ⟨fun pins s σ H Q I h => ?_⟩
  refine attr_of hab (thn (he.run pins s σ H _ I h) fun u s0 ⟨x, H1, I0, rx, a, dx, fs, ex, ea, q⟩ => ?_)
  subst ex
  obtain rfl : u = Value.ref a := rx
  obtain ⟨mA, O, _, _, _, _⟩ := ins_get I0.hok ea
  obtain ⟨od, J, _⟩ := O.look
  obtain ⟨rest, hrec⟩ := hp.rec_
  have I1 := I0.tok (s0.toks + 1)
  have hc : (PySem.W.clsIn X.K C).isSome = true := by
    obtain ⟨cd, hc, _⟩ := PySem.W.any_some c.hd
    rw [hc]
    rfl
  refine PySem.W.get_bind I0.kIn J (PySem.W.plainGet_of (c.get m)).1 (PySem.W.findObj_data hc hp.at_ hp.get hp.tak) (PySem.W.plainGet_of (c.get m)).2 (wpAny_call (PySem.W.prop_get (s := { s0 with toks := s0.toks + 1 }) I0.kIn hrec ?_))
  obtain ⟨p1, hp1⟩ := hc0
  have P1 := I1.pin p1 (List.mem_append_left _ hp1)
  have hpin : PinOk X.stack H1 { s0 with toks := s0.toks + 1 } p1 := ⟨P1.1, P1.2.1, fun hm => (List.mem_cons.mp (I1.stkSub p1.1 hm)).elim P1.2.2.1 P1.2.2.2.1, P1.2.2.2.2⟩
  have b := hb { s0 with toks := s0.toks + 1 } [.ref a] I1.kIn (by rw [List.append_nil]; exact F.len _ _ _ _ q)
  rw [List.append_nil] at b
  refine codeAny_mono (F.run X.A.in1 X.stack { s0 with toks := s0.toks + 1 } H1 ⟨[.ref a], []⟩ [.ref a] [.ref a] Q p1 (roomH_in1 hr) hpin I1.env0.in1 b (.cons rfl .nil) q) fun r s' hq => ?_
  cases r with
  | error er => exact False.elim hq
  | ok fl =>
    cases fl with
    | ret u =>
      obtain ⟨v, H', I3, rv, q3⟩ := I1.after hq
      show wpAny _ _ (handedOut u) _ _ _
      rw [PySem.W.handedOut_of (handed_of rv)]
      exact wpAny_pure ⟨v, H', I3, rv, q3⟩
    | next => exact False.elim hq
    | brk => exact False.elim hq
    | cont => exact False.elim hq
def rLenHS (C : Addr) (sp : Sp) : List V → Hp → VK → Prop := rLenI C sp E0
theorem call_lenHS (hs : PySem.W.findIn X.K (.ref C) "__len__" = some (some (.ref g))) (hf : PySem.W.isFn X.K (.ref g) = true) (F : FnS X.prog X.w X.K X.mg X.base k g fd ps sp) (hr : RoomH (k + 1) X.A) (hc : HotS X) (hb : Binds X.K fd ps []) : CallR X (.builtin "len") (rLenHS C sp) := by
  intro pins s σ H xs us Q I r h
  obtain ⟨a, dx, fs, rfl, ha, q⟩ := h
  obtain ⟨u, rfl, ru⟩ := r.one
  cases (show u = Value.ref a from ru)
  obtain ⟨mA, O, _⟩ := ins_get I.hok ha
  obtain ⟨od, J, _⟩ := O.look
  obtain ⟨m, hF⟩ := I.fr
  refine PySem.W.len_K hF I.ok.mod.kin J hs hf (wpAny_mono (run_fnS (us := [.ref a]) (vs := [.ref a]) F (roomH_in1 hr) I.env0.in1 hc hb I (.cons rfl .nil) q) (fun w s' z => ?_) fun _ _ x => x)
  obtain ⟨z', H', I', rz, i, ei, h0, h1, qz⟩ := z
  subst ei
  obtain ⟨t, e⟩ := (show ∃ t, w = Value.int i t from rz)
  cases e
  exact ⟨⟨h0, h1⟩, .int i, H', I'.tok _, ⟨_, rfl⟩, qz⟩
end
end Wm
/-! W17 -/
/-! a letter eight times; three plain names stored on one line -/
namespace Wm
open PySem PySem.Spec PyProof.Rows L2
section
variable {X : Cx}
theorem op_mulS8 : OpR X (binaryOp .Mult) (fun x y H Q => ∃ c : Nat, x = .str ⟨#[c]⟩ ∧ y = .int 8 ∧ Q (.str ⟨#[c, c, c, c, c, c, c, c]⟩) H) := by
  intro pins s σ H x y v u Q I rx ry h
  obtain ⟨c, rfl, rfl, q⟩ := h
  obtain ⟨t, rfl⟩ := rx
  obtain ⟨t', rfl⟩ := ry
  refine PySem.P.mul_str (by decide) (fun _ _ => by show ¬ ((1 : Int) > (2 ^ 63 - 1) / 8); decide) (fun _ _ => by show Builtin.Str.tooLong (1 * 8) = false; decide) ?_
  rw [if_neg (by decide), if_neg (by show ¬ ((8 == (1 : Int)) || (1 == 0)) = true; decide)]
  refine ⟨?_, .str ⟨#[c, c, c, c, c, c, c, c]⟩, H, I.tok _, ⟨_, rfl⟩, q⟩
  show 8 ≤ sizeLine
  decide
end
section
variable {X : Cx} {pos : Pos}
/-- a, b, c = x, y, z with plain local names: stored from the right -/
def tPar3 (i j l : Nat) (ta : TA) : TS := fun D σ H => ta σ H fun vs H1 => ∃ u v w, vs = [u, v, w] ∧ D.nx (((σ.set l (some w)).set j (some v)).set i (some u)) H1
theorem ps_par3 {i j l : Nat} {x y z : Str} {a b c : Expr} {ta : TA} {px py pz pt : Pos} {kt k2 pt2} (hc : X.calm = true) (hN : X.N.Nodup) (hi : X.N[i]? = some x) (hj : X.N[j]? = some y) (hl : X.N[l]? = some z)
    (hx : X.env.scope.names.lookup x = some .local) (hy : X.env.scope.names.lookup y = some .local) (hz : X.env.scope.names.lookup z = some .local) (ha : PA X [a, b, c] ta)
    (hw : swappedStores [.Tuple [.Name x px, .Name y py, .Name z pz] kt pt] (.Tuple [a, b, c] k2 pt2) X.env = pure (some [x, y, z]))
    (hs : swapsWithSole [.Tuple [.Name x px, .Name y py, .Name z pz] kt pt] (.Tuple [a, b, c] k2 pt2) pos.line X.env = pure false := by rfl) :
    PS X (.Assign [.Tuple [.Name x px, .Name y py, .Name z pz] kt pt] (.Tuple [a, b, c] k2 pt2) pos) (tPar3 i j l ta) := by
  refine ⟨fun pins s σ H D I h => ?_⟩
  rw [exec_Assign_arm]
  refine wpAny_bind (wpAny_standAt ?_)
  rw [hs]
  refine wpAny_bind (wpAny_pure ?_)
  rw [if_neg (by decide)]
  refine wpAny_bind (Tuple_ (thn (ha.run _ pins s σ H _ I h) fun us s1 ⟨vs, H1, I1, r1, q1⟩ => ?_))
  obtain ⟨v1, v2, v3, e1, q1⟩ := q1
  subst e1
  obtain ⟨u1, u2, u3, rfl, r1, r2, r3⟩ : ∃ u1 u2 u3, us = [u1, u2, u3] ∧ RelV v1 u1 ∧ RelV v2 u2 ∧ RelV v3 u3 := by
    cases r1 with
    | cons p q =>
      cases q with
      | cons p' q' =>
        cases q' with
        | cons p'' q'' =>
          cases q''
          exact ⟨_, _, _, rfl, p, p', p''⟩
  refine wpAny_newObj_type ?_ (by show 3 ≤ sizeLine; decide)
  have I2 : Inv X pins σ H1 { s1 with heap := s1.heap.push { cls := .type "tuple", data := .seq [u1, u2, u3].toArray } } := I1.kept (t' := s1.toks) fun b o e => Heap.get?_push_of_some _ e
  rw [hw]
  refine wpAny_bind (wpAny_pure ?_)
  show wpAny (model X.prog X.w) X.A (do rule "assign.swapped-stores"; let items ← unpackItems (.ref s1.heap.objs.size) 3 none; assignInOrder [fun v => bindName X.env z v, fun v => bindName X.env y v, fun v => bindName X.env x v] items.reverse; pure Flow.next) _ _ _
  refine wpAny_bind (wpAny_rule (wpAny_bind (unpackItems_tuple (items := #[u1, u2, u3]) (I.ok.hd hc) (IsTup.new s1.heap _) fun h' hx' => ?_)))
  have I3 := I2.kept (h' := h') (t' := s1.toks) fun b o e => hx' b o (Nat.ne_of_lt (Heap.lt_size e)) e
  show wpAny _ _ (assignInOrder [fun v => bindName X.env z v, fun v => bindName X.env y v, fun v => bindName X.env x v] [u3, u2, u1] >>= fun _ => pure Flow.next) _ _ _
  refine wpAny_bind (assignInOrder_cons (wpAny_bindName (store_ok I3 hN hl (.inl hz) r3 (fun s2 I4 => ?_) (.inr hz))))
  refine assignInOrder_cons (wpAny_bindName (store_ok I4 hN hj (.inl hy) r2 (fun s3 I5 => ?_) (.inr hy)))
  refine assignInOrder_cons (wpAny_bindName (store_ok I5 hN hi (.inl hx) r1 (fun s4 I6 => assignInOrder_nil (wpAny_pure ?_)) (.inr hx)))
  exact ⟨_, H1, I6, q1⟩
end
end Wm
/-! T1 -/
/-! the text by places; the scopes; what the walk asks of the top -/
namespace Wm
open PySem PySem.Spec PyProof.Rows L2
def top (i : Nat) : Stmt := PySem.Challenge.pw_whomaysign_k47_whole_desks_tried.main.body.getD i (.Pass ⟨0, 0, 0, 0⟩)
abbrev sIsWord : Stmt := top 13
abbrev sIsNumber : Stmt := top 14
abbrev sIsFrom : Stmt := top 15
abbrev sIsAmong : Stmt := top 16
abbrev sAreRising : Stmt := top 17
abbrev sAreWords : Stmt := top 18
abbrev sNeedPeople : Stmt := top 19
abbrev sIsLot : Stmt := top 20
abbrev sNeedLot : Stmt := top 21
abbrev sLentOn : Stmt := top 24
abbrev sWhoMay : Stmt := top 25
abbrev sFillInit : Stmt := inClass (top 26) 0
abbrev sFillPut : Stmt := inClass (top 26) 1
abbrev sFillFailing : Stmt := inClass (top 26) 2
abbrev sFillInOrder : Stmt := inClass (top 26) 3
abbrev sTriedOut : Stmt := top 27
abbrev sDoesSign : Stmt := top 28
abbrev sIsPayment : Stmt := top 30
abbrev sIsRow : Stmt := top 31
abbrev sPaidWithin : Stmt := top 32
abbrev sHoldsBy : Stmt := top 33
abbrev sKeeps : Stmt := top 34
abbrev sDeskInit : Stmt := inClass (top 37) 0
abbrev sDeskRow : Stmt := inClass (top 37) 1
abbrev sDeskLen : Stmt := inClass (top 37) 2
abbrev sDeskEq : Stmt := inClass (top 37) 4
abbrev sDeskDay : Stmt := inClass (top 37) 5
abbrev sDeskPay : Stmt := inClass (top 37) 8
abbrev sDeskUndo : Stmt := inClass (top 37) 9
abbrev sDeskTrial : Stmt := inClass (top 37) 10
abbrev sTrialInit : Stmt := inClass (top 38) 0
abbrev sTrialEnter : Stmt := inClass (top 38) 1
abbrev sTrialExit : Stmt := inClass (top 38) 2
abbrev sTried : Stmt := top 39
abbrev sAreSlots : Stmt := top 44
abbrev sIsSum : Stmt := top 45
abbrev sAreSums : Stmt := top 46
abbrev sClauseInit : Stmt := inClass (top 47) 0
abbrev sClauseFields : Stmt := inClass (top 47) 1
abbrev sClauseEq : Stmt := inClass (top 47) 2
abbrev sIsClause : Stmt := top 50
abbrev sAreLent : Stmt := top 52
abbrev sBookInit : Stmt := inClass (top 53) 0
abbrev sBookLen : Stmt := inClass (top 53) 1
abbrev sBookGet : Stmt := inClass (top 53) 2
abbrev sBookEq : Stmt := inClass (top 53) 4
abbrev sBookAdding : Stmt := inClass (top 53) 5
abbrev sBegun : Stmt := top 55
abbrev sNext : Stmt := top 56
abbrev sNames : Stmt := top 57
abbrev sFolk : Stmt := top 58
abbrev sShown : Stmt := top 59
abbrev sLed : Stmt := top 60
abbrev sFails : Stmt := top 61
abbrev sBreaks : Stmt := top 62
abbrev sEndsRight : Stmt := top 63
abbrev sTrialRight : Stmt := top 64
abbrev sLaw : Stmt := top 65
theorem scIsWord : FnScope ["thing", "letter"] ["thing"] (defScope sIsWord) := ⟨rfl, rfl, rfl, by decide +kernel, rfl, by decide +kernel, by decide +kernel⟩
theorem scIsNumber : FnScope ["thing"] ["thing"] (defScope sIsNumber) := ⟨rfl, rfl, rfl, by decide +kernel, rfl, by decide +kernel, by decide +kernel⟩
theorem scIsFrom : FnScope ["thing", "least"] ["thing", "least"] (defScope sIsFrom) := ⟨rfl, rfl, rfl, by decide +kernel, rfl, by decide +kernel, by decide +kernel⟩
theorem scIsAmong : FnScope ["thing", "least", "most"] ["thing", "least", "most"] (defScope sIsAmong) := ⟨rfl, rfl, rfl, by decide +kernel, rfl, by decide +kernel, by decide +kernel⟩
theorem scAreRising : FnScope ["items", "one", "other"] ["items"] (defScope sAreRising) := ⟨rfl, rfl, rfl, by decide +kernel, rfl, by decide +kernel, by decide +kernel⟩
theorem scAreWords : FnScope ["thing", "one"] ["thing"] (defScope sAreWords) := ⟨rfl, rfl, rfl, by decide +kernel, rfl, by decide +kernel, by decide +kernel⟩
theorem scNeedPeople : FnScope ["thing"] ["thing"] (defScope sNeedPeople) := ⟨rfl, rfl, rfl, by decide +kernel, rfl, by decide +kernel, by decide +kernel⟩
theorem scIsLot : FnScope ["people", "thing", "one"] ["people", "thing"] (defScope sIsLot) := ⟨rfl, rfl, rfl, by decide +kernel, rfl, by decide +kernel, by decide +kernel⟩
theorem scNeedLot : FnScope ["people", "thing"] ["people", "thing"] (defScope sNeedLot) := ⟨rfl, rfl, rfl, by decide +kernel, rfl, by decide +kernel, by decide +kernel⟩
theorem scLentOn : FnScope ["book", "person", "found", "grown", "one", "other"] ["book", "person"] (defScope sLentOn) := ⟨rfl, rfl, rfl, by decide +kernel, rfl, by decide +kernel, by decide +kernel⟩
theorem scWhoMay : FnScope ["book", "number", "rows", "slot", "person", "other"] ["book", "number"] (defScope sWhoMay) := ⟨rfl, rfl, rfl, by decide +kernel, rfl, by decide +kernel, by decide +kernel⟩
theorem scFillInit : FnScope ["self", "book", "lot", "number", "person", "who"] ["self", "book", "lot", "number"] (defScope sFillInit) := ⟨rfl, rfl, rfl, by decide +kernel, rfl, by decide +kernel, by decide +kernel⟩
theorem scFillPut : FnScope ["self", "slot", "tried", "person"] ["self", "slot", "tried"] (defScope sFillPut) := ⟨rfl, rfl, rfl, by decide +kernel, rfl, by decide +kernel, by decide +kernel⟩
theorem scFillFailing : FnScope ["self", "slot", "tried", "person"] ["self"] (defScope sFillFailing) := ⟨rfl, rfl, rfl, by decide +kernel, rfl, by decide +kernel, by decide +kernel⟩
theorem scFillInOrder : FnScope ["self", "rows", "person", "slot"] ["self"] (defScope sFillInOrder) := ⟨rfl, rfl, rfl, by decide +kernel, rfl, by decide +kernel, by decide +kernel⟩
theorem scTriedOut : FnScope ["book", "lot", "number", "filling_so", "found"] ["book", "lot", "number"] (defScope sTriedOut) := ⟨rfl, rfl, rfl, by decide +kernel, rfl, by decide +kernel, by decide +kernel⟩
theorem scDoesSign : FnScope ["book", "lot", "number"] ["book", "lot", "number"] (defScope sDoesSign) := ⟨rfl, rfl, rfl, by decide +kernel, rfl, by decide +kernel, by decide +kernel⟩
theorem scIsPayment : FnScope ["book", "thing"] ["book", "thing"] (defScope sIsPayment) := ⟨rfl, rfl, rfl, by decide +kernel, rfl, by decide +kernel, by decide +kernel⟩
theorem scIsRow : FnScope ["book", "thing", "one", "other"] ["book", "thing"] (defScope sIsRow) := ⟨rfl, rfl, rfl, by decide +kernel, rfl, by decide +kernel, by decide +kernel⟩
theorem scPaidWithin : FnScope ["row", "number", "start", "size", "day", "far", "amount"] ["row", "number", "start", "size"] (defScope sPaidWithin) := ⟨rfl, rfl, rfl, by decide +kernel, rfl, by decide +kernel, by decide +kernel⟩
theorem scHoldsBy : FnScope ["book", "row", "number", "clause", "days", "size", "price", "day", "far", "amount"] ["book", "row", "number"] (defScope sHoldsBy) := ⟨rfl, rfl, rfl, by decide +kernel, rfl, by decide +kernel, by decide +kernel⟩
theorem scKeeps : FnScope ["book", "row", "number"] ["book", "row"] (defScope sKeeps) := ⟨rfl, rfl, rfl, by decide +kernel, rfl, by decide +kernel, by decide +kernel⟩
theorem scDeskInit : FnScope ["self", "book"] ["self", "book"] (defScope sDeskInit) := ⟨rfl, rfl, rfl, by decide +kernel, rfl, by decide +kernel, by decide +kernel⟩
theorem scDeskRow : FnScope ["self"] ["self"] (defScope sDeskRow) := ⟨rfl, rfl, rfl, by decide +kernel, rfl, by decide +kernel, by decide +kernel⟩
theorem scDeskLen : FnScope ["self"] ["self"] (defScope sDeskLen) := ⟨rfl, rfl, rfl, by decide +kernel, rfl, by decide +kernel, by decide +kernel⟩
theorem scDeskEq : FnScope ["self", "other"] ["self", "other"] (defScope sDeskEq) := ⟨rfl, rfl, rfl, by decide +kernel, rfl, by decide +kernel, by decide +kernel⟩
theorem scDeskDay : FnScope ["self"] ["self"] (defScope sDeskDay) := ⟨rfl, rfl, rfl, by decide +kernel, rfl, by decide +kernel, by decide +kernel⟩
theorem scDeskPay : FnScope ["self", "lot", "payment"] ["self", "lot", "payment"] (defScope sDeskPay) := ⟨rfl, rfl, rfl, by decide +kernel, rfl, by decide +kernel, by decide +kernel⟩
theorem scDeskUndo : FnScope ["self", "many"] ["self", "many"] (defScope sDeskUndo) := ⟨rfl, rfl, rfl, by decide +kernel, rfl, by decide +kernel, by decide +kernel⟩
theorem scDeskTrial : FnScope ["self"] ["self"] (defScope sDeskTrial) := ⟨rfl, rfl, rfl, by decide +kernel, rfl, by decide +kernel, by decide +kernel⟩
theorem scTrialInit : FnScope ["self", "desk"] ["self", "desk"] (defScope sTrialInit) := ⟨rfl, rfl, rfl, by decide +kernel, rfl, by decide +kernel, by decide +kernel⟩
theorem scTrialEnter : FnScope ["self"] ["self"] (defScope sTrialEnter) := ⟨rfl, rfl, rfl, by decide +kernel, rfl, by decide +kernel, by decide +kernel⟩
theorem scTrialExit : FnScope ["self", "kind", "value", "trace"] ["self", "kind", "value", "trace"] (defScope sTrialExit) := ⟨rfl, rfl, rfl, by decide +kernel, rfl, by decide +kernel, by decide +kernel⟩
theorem scTried : FnScope ["desk", "function", "same"] ["desk", "function"] (defScope sTried) := ⟨rfl, rfl, rfl, by decide +kernel, rfl, by decide +kernel, by decide +kernel⟩
theorem scAreSlots : FnScope ["people", "thing", "one"] ["people", "thing"] (defScope sAreSlots) := ⟨rfl, rfl, rfl, by decide +kernel, rfl, by decide +kernel, by decide +kernel⟩
theorem scIsSum : FnScope ["thing"] ["thing"] (defScope sIsSum) := ⟨rfl, rfl, rfl, by decide +kernel, rfl, by decide +kernel, by decide +kernel⟩
theorem scAreSums : FnScope ["thing", "one"] ["thing"] (defScope sAreSums) := ⟨rfl, rfl, rfl, by decide +kernel, rfl, by decide +kernel, by decide +kernel⟩
theorem scClauseInit : FnScope ["self", "people", "slots", "cap", "sums"] ["self", "people", "slots", "cap", "sums"] (defScope sClauseInit) := ⟨rfl, rfl, rfl, by decide +kernel, rfl, by decide +kernel, by decide +kernel⟩
theorem scClauseFields : FnScope ["self"] ["self"] (defScope sClauseFields) := ⟨rfl, rfl, rfl, by decide +kernel, rfl, by decide +kernel, by decide +kernel⟩
theorem scClauseEq : FnScope ["self", "other"] ["self", "other"] (defScope sClauseEq) := ⟨rfl, rfl, rfl, by decide +kernel, rfl, by decide +kernel, by decide +kernel⟩
theorem scIsClause : FnScope ["people", "thing"] ["people", "thing"] (defScope sIsClause) := ⟨rfl, rfl, rfl, by decide +kernel, rfl, by decide +kernel, by decide +kernel⟩
theorem scAreLent : FnScope ["people", "thing", "one"] ["people", "thing"] (defScope sAreLent) := ⟨rfl, rfl, rfl, by decide +kernel, rfl, by decide +kernel, by decide +kernel⟩
theorem scBookInit : FnScope ["self", "people", "clauses", "lent", "number", "clause"] ["self", "people", "clauses", "lent"] (defScope sBookInit) := ⟨rfl, rfl, rfl, by decide +kernel, rfl, by decide +kernel, by decide +kernel⟩
theorem scBookLen : FnScope ["self"] ["self"] (defScope sBookLen) := ⟨rfl, rfl, rfl, by decide +kernel, rfl, by decide +kernel, by decide +kernel⟩
theorem scBookGet : FnScope ["self", "number"] ["self", "number"] (defScope sBookGet) := ⟨rfl, rfl, rfl, by decide +kernel, rfl, by decide +kernel, by decide +kernel⟩
theorem scBookEq : FnScope ["self", "other"] ["self", "other"] (defScope sBookEq) := ⟨rfl, rfl, rfl, by decide +kernel, rfl, by decide +kernel, by decide +kernel⟩
theorem scBookAdding : FnScope ["self", "clause"] ["self", "clause"] (defScope sBookAdding) := ⟨rfl, rfl, rfl, by decide +kernel, rfl, by decide +kernel, by decide +kernel⟩
theorem scBegun : FnScope ["script", "cell"] ["script"] (defScope sBegun) := ⟨rfl, rfl, rfl, by decide +kernel, rfl, by decide +kernel, by decide +kernel⟩
theorem scNext : FnScope ["m", "many", "rest", "at", "bits", "cell", "blend"] ["m", "many"] (defScope sNext) := ⟨rfl, rfl, rfl, by decide +kernel, rfl, by decide +kernel, by decide +kernel⟩
theorem scNames : FnScope ["m", "many", "letters", "stem", "k", "at", "first", "by", "word"] ["m", "many"] (defScope sNames) := ⟨rfl, rfl, rfl, by decide +kernel, rfl, by decide +kernel, by decide +kernel⟩
theorem scFolk : FnScope ["m", "size"] ["m", "size"] (defScope sFolk) := ⟨rfl, rfl, rfl, by decide +kernel, rfl, by decide +kernel, by decide +kernel⟩
theorem scShown : FnScope ["live"] ["live"] (defScope sShown) := ⟨rfl, rfl, rfl, by decide +kernel, rfl, by decide +kernel, by decide +kernel⟩
theorem scLed : FnScope ["live", "lot", "amounts", "amount"] ["live", "lot", "amounts"] (defScope sLed) := ⟨rfl, rfl, rfl, by decide +kernel, rfl, by decide +kernel, by decide +kernel⟩
theorem scFails : FnScope ["live", "turn"] ["live"] (defScope sFails) := ⟨rfl, rfl, rfl, by decide +kernel, rfl, by decide +kernel, by decide +kernel⟩
theorem scBreaks : FnScope ["live", "turn"] ["live"] (defScope sBreaks) := ⟨rfl, rfl, rfl, by decide +kernel, rfl, by decide +kernel, by decide +kernel⟩
theorem scEndsRight : FnScope ["live", "due", "ends", "e"] ["live", "due"] (defScope sEndsRight) := ⟨rfl, rfl, rfl, by decide +kernel, rfl, by decide +kernel, by decide +kernel⟩
theorem scTrialRight : FnScope ["live", "lot", "some", "more", "due", "got", "once", "back", "_law_inner_by", "size"] ["live", "lot", "some", "more"] (defScope sTrialRight) := ⟨rfl, rfl, rfl, by decide +kernel, rfl, by decide +kernel, by decide +kernel⟩
theorem scLaw : FnScope ["script", "m", "turn", "folk", "slots", "cap", "sums", "own", "live", "twin", "amounts", "size", "lot", "far", "k", "thing"] ["script"] (defScope sLaw) := ⟨rfl, rfl, rfl, by decide +kernel, rfl, by decide +kernel, by decide +kernel⟩
/-- an empty tuple of the written part -/
def EmptyT (K : PySem.W.Frag) (a : Addr) : Prop := ∀ H : Hp, H a = none → SqT K H a []
structure TX (P : Program) (K : PySem.W.Frag) (mg : Str → Option Value) where
  et : Addr
  et2 : Addr
  et_ok : ∀ H : Hp, SqT K H et []
  isWord_f : Addr
  isWord_d : FuncData
  isWord_F : Fun K "is_word" "is_word" sIsWord isWord_f isWord_d
  isWord_b : Binds K isWord_d ["thing"] []
  isWord_g : mg "is_word" = some (.ref isWord_f)
  isNumber_f : Addr
  isNumber_d : FuncData
  isNumber_F : Fun K "is_number" "is_number" sIsNumber isNumber_f isNumber_d
  isNumber_b : Binds K isNumber_d ["thing"] []
  isNumber_g : mg "is_number" = some (.ref isNumber_f)
  isFrom_f : Addr
  isFrom_d : FuncData
  isFrom_F : Fun K "is_from" "is_from" sIsFrom isFrom_f isFrom_d
  isFrom_b : Binds K isFrom_d ["thing", "least"] []
  isFrom_g : mg "is_from" = some (.ref isFrom_f)
  isAmong_f : Addr
  isAmong_d : FuncData
  isAmong_F : Fun K "is_among" "is_among" sIsAmong isAmong_f isAmong_d
  isAmong_b : Binds K isAmong_d ["thing", "least", "most"] []
  isAmong_g : mg "is_among" = some (.ref isAmong_f)
  areRising_f : Addr
  areRising_d : FuncData
  areRising_F : Fun K "are_rising" "are_rising" sAreRising areRising_f areRising_d
  areRising_b : Binds K areRising_d ["items"] []
  areRising_g : mg "are_rising" = some (.ref areRising_f)
  areWords_f : Addr
  areWords_d : FuncData
  areWords_F : Fun K "are_words" "are_words" sAreWords areWords_f areWords_d
  areWords_b : Binds K areWords_d ["thing"] []
  areWords_g : mg "are_words" = some (.ref areWords_f)
  needPeople_f : Addr
  needPeople_d : FuncData
  needPeople_F : Fun K "need_people" "need_people" sNeedPeople needPeople_f needPeople_d
  needPeople_b : Binds K needPeople_d ["thing"] []
  needPeople_g : mg "need_people" = some (.ref needPeople_f)
  isLot_f : Addr
  isLot_d : FuncData
  isLot_F : Fun K "is_lot" "is_lot" sIsLot isLot_f isLot_d
  isLot_b : Binds K isLot_d ["people", "thing"] []
  isLot_g : mg "is_lot" = some (.ref isLot_f)
  needLot_f : Addr
  needLot_d : FuncData
  needLot_F : Fun K "need_lot" "need_lot" sNeedLot needLot_f needLot_d
  needLot_b : Binds K needLot_d ["people", "thing"] []
  needLot_g : mg "need_lot" = some (.ref needLot_f)
  lentOn_f : Addr
  lentOn_d : FuncData
  lentOn_F : Fun K "lent_on" "lent_on" sLentOn lentOn_f lentOn_d
  lentOn_b : Binds K lentOn_d ["book", "person"] []
  lentOn_g : mg "lent_on" = some (.ref lentOn_f)
  whoMay_f : Addr
  whoMay_d : FuncData
  whoMay_F : Fun K "who_may" "who_may" sWhoMay whoMay_f whoMay_d
  whoMay_b : Binds K whoMay_d ["book", "number"] []
  whoMay_g : mg "who_may" = some (.ref whoMay_f)
  fillInit_f : Addr
  fillInit_d : FuncData
  fillInit_F : Fun K "__init__" "Filling.__init__" sFillInit fillInit_f fillInit_d
  fillInit_b : Binds K fillInit_d ["self", "book", "lot", "number"] []
  fillPut_f : Addr
  fillPut_d : FuncData
  fillPut_F : Fun K "put" "Filling.put" sFillPut fillPut_f fillPut_d
  fillPut_b : Binds K fillPut_d ["self", "slot", "tried"] []
  fillFailing_f : Addr
  fillFailing_d : FuncData
  fillFailing_F : Fun K "failing" "Filling.failing" sFillFailing fillFailing_f fillFailing_d
  fillFailing_b : Binds K fillFailing_d ["self"] []
  fillInOrder_f : Addr
  fillInOrder_d : FuncData
  fillInOrder_F : Fun K "in_order" "Filling.in_order" sFillInOrder fillInOrder_f fillInOrder_d
  fillInOrder_b : Binds K fillInOrder_d ["self"] []
  triedOut_f : Addr
  triedOut_d : FuncData
  triedOut_F : Fun K "tried_out" "tried_out" sTriedOut triedOut_f triedOut_d
  triedOut_b : Binds K triedOut_d ["book", "lot", "number"] []
  triedOut_g : mg "tried_out" = some (.ref triedOut_f)
  doesSign_f : Addr
  doesSign_d : FuncData
  doesSign_F : Fun K "does_sign" "does_sign" sDoesSign doesSign_f doesSign_d
  doesSign_b : Binds K doesSign_d ["book", "lot", "number"] []
  doesSign_g : mg "does_sign" = some (.ref doesSign_f)
  isPayment_f : Addr
  isPayment_d : FuncData
  isPayment_F : Fun K "is_payment" "is_payment" sIsPayment isPayment_f isPayment_d
  isPayment_b : Binds K isPayment_d ["book", "thing"] []
  isPayment_g : mg "is_payment" = some (.ref isPayment_f)
  isRow_f : Addr
  isRow_d : FuncData
  isRow_F : Fun K "is_row" "is_row" sIsRow isRow_f isRow_d
  isRow_b : Binds K isRow_d ["book", "thing"] []
  isRow_g : mg "is_row" = some (.ref isRow_f)
  paidWithin_f : Addr
  paidWithin_d : FuncData
  paidWithin_F : Fun K "paid_within" "paid_within" sPaidWithin paidWithin_f paidWithin_d
  paidWithin_b : Binds K paidWithin_d ["row", "number", "start", "size"] []
  paidWithin_g : mg "paid_within" = some (.ref paidWithin_f)
  holdsBy_f : Addr
  holdsBy_d : FuncData
  holdsBy_F : Fun K "holds_by" "holds_by" sHoldsBy holdsBy_f holdsBy_d
  holdsBy_b : Binds K holdsBy_d ["book", "row", "number"] []
  holdsBy_g : mg "holds_by" = some (.ref holdsBy_f)
  keeps_f : Addr
  keeps_d : FuncData
  keeps_F : Fun K "keeps" "keeps" sKeeps keeps_f keeps_d
  keeps_b : Binds K keeps_d ["book", "row"] []
  keeps_g : mg "keeps" = some (.ref keeps_f)
  deskInit_f : Addr
  deskInit_d : FuncData
  deskInit_F : Fun K "__init__" "Desk.__init__" sDeskInit deskInit_f deskInit_d
  deskInit_b : Binds K deskInit_d ["self", "book"] []
  deskRow_f : Addr
  deskRow_d : FuncData
  deskRow_F : Fun K "row" "Desk.row" sDeskRow deskRow_f deskRow_d
  deskRow_b : Binds K deskRow_d ["self"] []
  deskLen_f : Addr
  deskLen_d : FuncData
  deskLen_F : Fun K "__len__" "Desk.__len__" sDeskLen deskLen_f deskLen_d
  deskLen_b : Binds K deskLen_d ["self"] []
  deskEq_f : Addr
  deskEq_d : FuncData
  deskEq_F : Fun K "__eq__" "Desk.__eq__" sDeskEq deskEq_f deskEq_d
  deskEq_b : Binds K deskEq_d ["self", "other"] []
  deskDay_f : Addr
  deskDay_d : FuncData
  deskDay_F : Fun K "day" "Desk.day" sDeskDay deskDay_f deskDay_d
  deskDay_b : Binds K deskDay_d ["self"] []
  deskPay_f : Addr
  deskPay_d : FuncData
  deskPay_F : Fun K "pay" "Desk.pay" sDeskPay deskPay_f deskPay_d
  deskPay_b : Binds K deskPay_d ["self", "lot", "payment"] []
  deskUndo_f : Addr
  deskUndo_d : FuncData
  deskUndo_F : FunD K "undo" "Desk.undo" (defArgs sDeskUndo) (defBody sDeskUndo) (defScope sDeskUndo) [V.int 1] [] deskUndo_f deskUndo_d
  deskTrial_f : Addr
  deskTrial_d : FuncData
  deskTrial_F : Fun K "trial" "Desk.trial" sDeskTrial deskTrial_f deskTrial_d
  deskTrial_b : Binds K deskTrial_d ["self"] []
  trialInit_f : Addr
  trialInit_d : FuncData
  trialInit_F : Fun K "__init__" "Trial.__init__" sTrialInit trialInit_f trialInit_d
  trialInit_b : Binds K trialInit_d ["self", "desk"] []
  trialEnter_f : Addr
  trialEnter_d : FuncData
  trialEnter_F : Fun K "__enter__" "Trial.__enter__" sTrialEnter trialEnter_f trialEnter_d
  trialEnter_b : Binds K trialEnter_d ["self"] []
  trialExit_f : Addr
  trialExit_d : FuncData
  trialExit_F : Fun K "__exit__" "Trial.__exit__" sTrialExit trialExit_f trialExit_d
  trialExit_b : Binds K trialExit_d ["self", "kind", "value", "trace"] []
  tried_f : Addr
  tried_d : FuncData
  tried_F : Fun K "tried" "tried" sTried tried_f tried_d
  tried_b : Binds K tried_d ["desk", "function"] []
  tried_g : mg "tried" = some (.ref tried_f)
  areSlots_f : Addr
  areSlots_d : FuncData
  areSlots_F : Fun K "are_slots" "are_slots" sAreSlots areSlots_f areSlots_d
  areSlots_b : Binds K areSlots_d ["people", "thing"] []
  areSlots_g : mg "are_slots" = some (.ref areSlots_f)
  isSum_f : Addr
  isSum_d : FuncData
  isSum_F : Fun K "is_sum" "is_sum" sIsSum isSum_f isSum_d
  isSum_b : Binds K isSum_d ["thing"] []
  isSum_g : mg "is_sum" = some (.ref isSum_f)
  areSums_f : Addr
  areSums_d : FuncData
  areSums_F : Fun K "are_sums" "are_sums" sAreSums areSums_f areSums_d
  areSums_b : Binds K areSums_d ["thing"] []
  areSums_g : mg "are_sums" = some (.ref areSums_f)
  clauseInit_f : Addr
  clauseInit_d : FuncData
  clauseInit_F : FunD K "__init__" "Clause.__init__" (defArgs sClauseInit) (defBody sClauseInit) (defScope sClauseInit) [V.non, V.ref et2] [] clauseInit_f clauseInit_d
  clauseFields_f : Addr
  clauseFields_d : FuncData
  clauseFields_F : Fun K "fields" "Clause.fields" sClauseFields clauseFields_f clauseFields_d
  clauseFields_b : Binds K clauseFields_d ["self"] []
  clauseEq_f : Addr
  clauseEq_d : FuncData
  clauseEq_F : Fun K "__eq__" "Clause.__eq__" sClauseEq clauseEq_f clauseEq_d
  clauseEq_b : Binds K clauseEq_d ["self", "other"] []
  isClause_f : Addr
  isClause_d : FuncData
  isClause_F : Fun K "is_clause" "is_clause" sIsClause isClause_f isClause_d
  isClause_b : Binds K isClause_d ["people", "thing"] []
  isClause_g : mg "is_clause" = some (.ref isClause_f)
  areLent_f : Addr
  areLent_d : FuncData
  areLent_F : Fun K "are_lent" "are_lent" sAreLent areLent_f areLent_d
  areLent_b : Binds K areLent_d ["people", "thing"] []
  areLent_g : mg "are_lent" = some (.ref areLent_f)
  bookInit_f : Addr
  bookInit_d : FuncData
  bookInit_F : FunD K "__init__" "Book.__init__" (defArgs sBookInit) (defBody sBookInit) (defScope sBookInit) [V.ref et] [] bookInit_f bookInit_d
  bookLen_f : Addr
  bookLen_d : FuncData
  bookLen_F : Fun K "__len__" "Book.__len__" sBookLen bookLen_f bookLen_d
  bookLen_b : Binds K bookLen_d ["self"] []
  bookGet_f : Addr
  bookGet_d : FuncData
  bookGet_F : Fun K "__getitem__" "Book.__getitem__" sBookGet bookGet_f bookGet_d
  bookGet_b : Binds K bookGet_d ["self", "number"] []
  bookEq_f : Addr
  bookEq_d : FuncData
  bookEq_F : Fun K "__eq__" "Book.__eq__" sBookEq bookEq_f bookEq_d
  bookEq_b : Binds K bookEq_d ["self", "other"] []
  bookAdding_f : Addr
  bookAdding_d : FuncData
  bookAdding_F : Fun K "adding" "Book.adding" sBookAdding bookAdding_f bookAdding_d
  bookAdding_b : Binds K bookAdding_d ["self", "clause"] []
  begun_f : Addr
  begun_d : FuncData
  begun_F : Fun K "_law_begun" "_law_begun" sBegun begun_f begun_d
  begun_b : Binds K begun_d ["script"] []
  begun_g : mg "_law_begun" = some (.ref begun_f)
  next_f : Addr
  next_d : FuncData
  next_F : Fun K "_law_next" "_law_next" sNext next_f next_d
  next_b : Binds K next_d ["m", "many"] []
  next_g : mg "_law_next" = some (.ref next_f)
  names_f : Addr
  names_d : FuncData
  names_F : Fun K "_law_names" "_law_names" sNames names_f names_d
  names_b : Binds K names_d ["m", "many"] []
  names_g : mg "_law_names" = some (.ref names_f)
  folk_f : Addr
  folk_d : FuncData
  folk_F : Fun K "_law_folk" "_law_folk" sFolk folk_f folk_d
  folk_b : Binds K folk_d ["m", "size"] []
  folk_g : mg "_law_folk" = some (.ref folk_f)
  shown_f : Addr
  shown_d : FuncData
  shown_F : Fun K "_law_shown" "_law_shown" sShown shown_f shown_d
  shown_b : Binds K shown_d ["live"] []
  shown_g : mg "_law_shown" = some (.ref shown_f)
  led_f : Addr
  led_d : FuncData
  led_F : Fun K "_law_led" "_law_led" sLed led_f led_d
  led_b : Binds K led_d ["live", "lot", "amounts"] []
  led_g : mg "_law_led" = some (.ref led_f)
  fails_f : Addr
  fails_d : FuncData
  fails_F : Fun K "_law_fails" "_law_fails" sFails fails_f fails_d
  fails_b : Binds K fails_d ["live"] []
  fails_g : mg "_law_fails" = some (.ref fails_f)
  breaks_f : Addr
  breaks_d : FuncData
  breaks_F : Fun K "_law_breaks" "_law_breaks" sBreaks breaks_f breaks_d
  breaks_b : Binds K breaks_d ["live"] []
  breaks_g : mg "_law_breaks" = some (.ref breaks_f)
  endsRight_f : Addr
  endsRight_d : FuncData
  endsRight_F : Fun K "_law_ends_right" "_law_ends_right" sEndsRight endsRight_f endsRight_d
  endsRight_b : Binds K endsRight_d ["live", "due"] []
  endsRight_g : mg "_law_ends_right" = some (.ref endsRight_f)
  trialRight_f : Addr
  trialRight_d : FuncData
  trialRight_F : Fun K "_law_trial_right" "_law_trial_right" sTrialRight trialRight_f trialRight_d
  trialRight_b : Binds K trialRight_d ["live", "lot", "some", "more"] []
  trialRight_g : mg "_law_trial_right" = some (.ref trialRight_f)
  clauseInit_b4 : ∃ ds, Vals ([] : List V) ds ∧ Binds K clauseInit_d ["self", "people", "slots", "cap", "sums"] ds
  bookInit_b2 : ∃ ds, Vals [V.ref et] ds ∧ Binds K bookInit_d ["self", "people", "clauses", "lent"] ds
  bookInit_b3 : ∃ ds, Vals ([] : List V) ds ∧ Binds K bookInit_d ["self", "people", "clauses", "lent"] ds
  deskUndo_b0 : ∃ ds, Vals [V.int 1] ds ∧ Binds K deskUndo_d ["self", "many"] ds
  deskUndo_b1 : ∃ ds, Vals ([] : List V) ds ∧ Binds K deskUndo_d ["self", "many"] ds
  filling_C : Addr
  filling_c : Cls K filling_C
  filling_m : Mk K filling_C fillInit_f
  filling_g : mg "Filling" = some (.ref filling_C)
  filling_own_who : NoAttr K filling_C "own_who"
  filling_held : NoAttr K filling_C "held"
  desk_C : Addr
  desk_c : Cls K desk_C
  desk_m : Mk K desk_C deskInit_f
  desk_g : mg "Desk" = some (.ref desk_C)
  desk_own_book : NoAttr K desk_C "own_book"
  desk_own_row : NoAttr K desk_C "own_row"
  trial_C : Addr
  trial_c : Cls K trial_C
  trial_m : Mk K trial_C trialInit_f
  trial_g : mg "Trial" = some (.ref trial_C)
  trial_held_desk : NoAttr K trial_C "held_desk"
  trial_row_ahead : NoAttr K trial_C "row_ahead"
  clause_C : Addr
  clause_c : Cls K clause_C
  clause_m : Mk K clause_C clauseInit_f
  clause_g : mg "Clause" = some (.ref clause_C)
  clause_people : NoAttr K clause_C "people"
  clause_slots : NoAttr K clause_C "slots"
  clause_cap : NoAttr K clause_C "cap"
  clause_sums : NoAttr K clause_C "sums"
  book_C : Addr
  book_c : Cls K book_C
  book_m : Mk K book_C bookInit_f
  book_g : mg "Book" = some (.ref book_C)
  book_people : NoAttr K book_C "people"
  book_clauses : NoAttr K book_C "clauses"
  book_lent : NoAttr K book_C "lent"
  fillPut_m : Meth K filling_C "put" fillPut_f
  fillFailing_m : Meth K filling_C "failing" fillFailing_f
  fillInOrder_m : Meth K filling_C "in_order" fillInOrder_f
  deskDay_m : Meth K desk_C "day" deskDay_f
  deskPay_m : Meth K desk_C "pay" deskPay_f
  deskUndo_m : Meth K desk_C "undo" deskUndo_f
  deskTrial_m : Meth K desk_C "trial" deskTrial_f
  trialEnter_m : Meth K trial_C "__enter__" trialEnter_f
  trialExit_m : Meth K trial_C "__exit__" trialExit_f
  clauseFields_m : Meth K clause_C "fields" clauseFields_f
  bookAdding_m : Meth K book_C "adding" bookAdding_f
  z_isinstance : mg "isinstance" = none
  z_str : mg "str" = none
  z_int : mg "int" = none
  z_bool : mg "bool" = none
  z_tuple : mg "tuple" = none
  z_list : mg "list" = none
  z_len : mg "len" = none
  z_all : mg "all" = none
  z_any : mg "any" = none
  z_zip : mg "zip" = none
  z_sorted : mg "sorted" = none
  z_set : mg "set" = none
  z_sum : mg "sum" = none
  z_min : mg "min" = none
  z_max : mg "max" = none
  z_range : mg "range" = none
  z_enumerate : mg "enumerate" = none
  z_KeyError : mg "KeyError" = none
  k_MOST_PEOPLE : ∃ t, mg "MOST_PEOPLE" = some (.int 6 t)
  k_MOST_LETTERS : ∃ t, mg "MOST_LETTERS" = some (.int 8 t)
  k_MOST_SLOTS : ∃ t, mg "MOST_SLOTS" = some (.int 4 t)
  k_MOST_SUMS : ∃ t, mg "MOST_SUMS" = some (.int 3 t)
  k_MOST_DAYS : ∃ t, mg "MOST_DAYS" = some (.int 7 t)
  k_MOST_CLAUSES : ∃ t, mg "MOST_CLAUSES" = some (.int 5 t)
  k_LETTERS : ∃ t, mg "LETTERS" = some (.str "abcdefghijklmnopqrstuvwxyz" t)
  badRow_C : Addr
  badRow_f : Addr
  badRow : PySem.BadX.BadTxt P K mg "BadRow" badRow_C badRow_f
  cc : PySem.W.specialIn K (.builtin "object.__class__") "__get__" = some (some (.builtin "getset_descriptor.__get__"))
  ct : PySem.W.takesIn K (.builtin "object.__class__") = some true
  desk_ca : PySem.W.findIn K (.ref desk_C) "__class__" = some (some (.builtin "object.__class__"))
  desk_cm : PySem.W.mroIn K desk_C (.type "object") = some true
  desk_is : PySem.W.kitOne K (.ref desk_C) (.ref desk_C) = some true
  desk_eq : PySem.W.findIn K (.ref desk_C) "__eq__" = some (some (.ref deskEq_f))
  desk_ef : PySem.W.isFn K (.ref deskEq_f) = true
  clause_ca : PySem.W.findIn K (.ref clause_C) "__class__" = some (some (.builtin "object.__class__"))
  clause_cm : PySem.W.mroIn K clause_C (.type "object") = some true
  clause_is : PySem.W.kitOne K (.ref clause_C) (.ref clause_C) = some true
  clause_eq : PySem.W.findIn K (.ref clause_C) "__eq__" = some (some (.ref clauseEq_f))
  clause_ef : PySem.W.isFn K (.ref clauseEq_f) = true
  book_ca : PySem.W.findIn K (.ref book_C) "__class__" = some (some (.builtin "object.__class__"))
  book_cm : PySem.W.mroIn K book_C (.type "object") = some true
  book_is : PySem.W.kitOne K (.ref book_C) (.ref book_C) = some true
  book_eq : PySem.W.findIn K (.ref book_C) "__eq__" = some (some (.ref bookEq_f))
  book_ef : PySem.W.isFn K (.ref bookEq_f) = true
  desk_ne : PySem.W.findIn K (.ref desk_C) "__ne__" = some (some (.builtin "object.__ne__"))
  desk_len : PySem.W.findIn K (.ref desk_C) "__len__" = some (some (.ref deskLen_f))
  desk_lf : PySem.W.isFn K (.ref deskLen_f) = true
  book_get : PySem.W.findIn K (.ref book_C) "__getitem__" = some (some (.ref bookGet_f))
  book_gf : PySem.W.isFn K (.ref bookGet_f) = true
  book_gk : PySem.W.fnIn K bookGet_f = true
  desk_nb : PySem.W.kitOne K (.ref book_C) (.ref desk_C) = some false
  desk_nn : PySem.W.kitOne K (.type "NoneType") (.ref desk_C) = some false
  desk_ni : PySem.W.kitOne K (.type "int") (.ref desk_C) = some false
  desk_nt : PySem.W.kitOne K (.type "tuple") (.ref desk_C) = some false
  desk_fb : PySem.W.notFirst K desk_C (.ref book_C) = true
  desk_fn : PySem.W.notFirst K desk_C (.type "NoneType") = true
  desk_fi : PySem.W.notFirst K desk_C (.type "int") = true
  desk_ft : PySem.W.notFirst K desk_C (.type "tuple") = true
  ne_db : desk_C ≠ book_C
  ne_bc : book_C ≠ clause_C
  ne_dc : desk_C ≠ clause_C
  ne_dt : desk_C ≠ trial_C
  desk_rowp : Addr
  desk_row : PropOf K desk_C "row" desk_rowp deskRow_f
end Wm
/-! T2 -/
namespace Wm
open PySem PySem.Spec PyProof.Rows L2
/-! ### comprehensions that change nothing -/
theorem same_seqT {K : PySem.W.Frag} {H H' : Hp} {a : Addr} {xs : List V} (e : Same H H') (h : SqT K H a xs) : SqT K H' a xs := by
  rcases h with h | h
  · rcases h with h | ⟨o, h⟩
    · exact .inl (.inl (e _ _ h))
    · exact .inl (.inr ⟨o, e _ _ h⟩)
  · exact .inr h
theorem same_upd {H H' : Hp} {a : Addr} {o : HO} (e : Same H H') (n : H a = none) : Same H (upd H' a o) := fun b u h => by
  rw [upd_ne (ne_of_none h n)]
  exact e b u h
theorem lc_pure {J : It} {n : Nat} {G : Hp → Prop} {Y : Nat → Hp → V → Hp → Prop} (w : Walk J n G Y) (hGs : ∀ H H', Same H H' → G H → G H') {g : TG} {tt : TT} {te : TE} {vs : List Nat} {σ : L2.St} {H1 : Hp} {D : Addr} {Qd : Hp → Prop} (c : Nat → Option V) (h1 : G H1) (hD : H1 D = none) (hn : n < sizeLine)
    (hs : ∀ i x H H' (P : V → Hp → Prop) (N : Hp → Prop), i < n → Same H1 H → G H → Y i H x H' → (∀ y H4, Same H H4 → c i = some y → P y H4) → (∀ H3, Same H H3 → c i = none → N H3) →
      g x (wipe σ vs) H' fun σ2 H2 => wipe σ2 vs = wipe σ vs ∧ tt σ2 H2 fun b H3 => if b = true then te σ2 H3 P else N H3)
    (hd : ∀ H, Same H1 H → H D = some (.lst ((List.range n).filterMap c)) → Qd H) :
    ∃ W : Nat → Nat → Hp → Prop, (∃ m, W 0 m (L2.upd H1 D (.lst []))) ∧ ∀ i m H, W i m H →
      (J.stop i H ∧ Qd H) ∨ (J.go i H ∧ ∃ Nx : Hp → Prop, (∀ H', Nx H' → ∃ m', m' < m ∧ W (i + 1) m' H') ∧ ∀ x H', J.yld i H x H' → g x (wipe σ vs) H' fun σ2 H2 => wipe σ2 vs = wipe σ vs ∧ tt σ2 H2 fun b H3 =>
        if b = true then te σ2 H3 fun y H4 => ∃ acc, H4 D = some (.lst acc) ∧ acc.length < sizeLine ∧ Nx (L2.upd H4 D (.lst (acc ++ [y]))) else Nx H3) := by
  have hrg : ∀ i, (List.range (i + 1)).filterMap c = (List.range i).filterMap c ++ (c i).toList := fun i => by
    rw [List.range_succ, List.filterMap_append]
    congr 1
  refine lc_it w (fun i H => Same H1 H ∧ H D = some (.lst ((List.range i).filterMap c))) ⟨same_upd (Same.refl H1) hD, upd_same⟩ (fun i H _ h => hGs _ _ h.1 h1) (fun i x H H' hi ⟨h, hl⟩ y => ?_) (fun H h => hd H h.1 h.2)
  refine hs i x H H' _ _ hi h (hGs _ _ h h1) y (fun v H4 s4 e => ?_) (fun H3 s3 e => ?_)
  · refine ⟨_, s4 _ _ hl, ?_, same_upd (h.trans s4) hD, ?_⟩
    · have q := List.length_filterMap_le c (List.range i)
      rw [List.length_range] at q
      omega
    · rw [upd_same, hrg, e]
      rfl
  · refine ⟨h.trans s3, ?_⟩
    rw [s3 _ _ hl, hrg, e]
    simp
theorem range_map {α β : Type} (xs : List α) (f : α → β) : ∀ n, n ≤ xs.length → (List.range n).filterMap (fun i => (xs[i]?).map f) = (xs.take n).map f
  | 0, _ => rfl
  | n + 1, h => by
    have hn : n < xs.length := h
    rw [List.range_succ, List.filterMap_append, range_map xs f n (by omega), List.take_add_one, List.map_append]
    simp [hn]
theorem range_mapF {α β : Type} (xs : List α) (f : α → β) : (List.range xs.length).filterMap (fun i => (xs[i]?).map f) = xs.map f := by
  rw [range_map xs f _ (Nat.le_refl _), List.take_length]
theorem range_bind {α β : Type} (xs : List α) (f : α → Option β) : ∀ n, n ≤ xs.length → (List.range n).filterMap (fun i => (xs[i]?).bind f) = (xs.take n).filterMap f
  | 0, _ => rfl
  | n + 1, h => by
    have hn : n < xs.length := h
    rw [List.range_succ, List.filterMap_append, range_bind xs f n (by omega), List.take_add_one, List.filterMap_append]
    congr 1
    simp only [List.filterMap_cons, List.filterMap_nil, List.getElem?_eq_getElem hn, Option.bind_some, Option.toList_some]
theorem range_bindF {α β : Type} (xs : List α) (f : α → Option β) : (List.range xs.length).filterMap (fun i => (xs[i]?).bind f) = xs.filterMap f := by
  rw [range_bind xs f _ (Nat.le_refl _), List.take_length]
theorem ifT {c : Bool} {A B : Prop} (hc : c = true) (h : A) : if c = true then A else B := by
  rw [if_pos hc]
  exact h
theorem ifF {c : Bool} {A B : Prop} (hc : c = false) (h : B) : if c = true then A else B := by
  rw [if_neg (by rw [hc]; exact Bool.false_ne_true)]
  exact h
theorem rd_isi {K : PySem.W.Frag} {H : Hp} {x : V} {A T : String} {b : Bool} {Q : VK} (ty : TyX K H x (.type A)) (h : kitB A T = some b) (q : Q (.bl b) H) : rIsi K [x, .ty T] H Q := ⟨x, .ty T, .type A, .type T, b, rfl, .ty _, ty, kit_ty h, q⟩
theorem range_bl (b : Nat → Bool) (n : Nat) : (List.range n).filterMap (fun i => some (V.bl (b i))) = ((List.range n).map b).map V.bl := by
  rw [List.map_map, ← List.filterMap_eq_map]
  rfl
theorem bl_of {c : Prop} [Decidable c] (h : c) : V.bl (decide c) = V.bl true := by rw [decide_eq_true h]
theorem bl_no {c : Prop} [Decidable c] (h : ¬ c) : V.bl (decide c) = V.bl false := by rw [decide_eq_false h]
/-- all([..]) where every turn says True -/
theorem lc_allT {K : PySem.W.Frag} {J : It} {n : Nat} {G : Hp → Prop} {Y : Nat → Hp → V → Hp → Prop} (w : Walk J n G Y) (hGs : ∀ H H', Same H H' → G H → G H') {g : TG} {te : TE} {vs : List Nat} {σ : L2.St} {H1 : Hp} {D : Addr} {Q : VK} (h1 : G H1) (hD : H1 D = none) (hn : n < sizeLine)
    (hs : ∀ i x H H' (P : V → Hp → Prop), i < n → Same H1 H → G H → Y i H x H' → (∀ H4, Same H H4 → P (.bl true) H4) →
      g x (wipe σ vs) H' fun σ2 H2 => wipe σ2 vs = wipe σ vs ∧ te σ2 H2 P)
    (hd : ∀ H, Same H1 H → Q (.bl true) H) :
    ∃ W : Nat → Nat → Hp → Prop, (∃ m, W 0 m (L2.upd H1 D (.lst []))) ∧ ∀ i m H, W i m H →
      (J.stop i H ∧ rAll K [.ref D] H Q) ∨ (J.go i H ∧ ∃ Nx : Hp → Prop, (∀ H', Nx H' → ∃ m', m' < m ∧ W (i + 1) m' H') ∧ ∀ x H', J.yld i H x H' → g x (wipe σ vs) H' fun σ2 H2 => wipe σ2 vs = wipe σ vs ∧ tYes σ2 H2 fun b H3 =>
        if b = true then te σ2 H3 fun y H4 => ∃ acc, H4 D = some (.lst acc) ∧ acc.length < sizeLine ∧ Nx (L2.upd H4 D (.lst (acc ++ [y]))) else Nx H3) := by
  refine lc_pure w hGs (fun _ => some (.bl true)) h1 hD hn (fun i x H H' P N hi s hg y hP hN => hs i x H H' P hi s hg y fun H4 s4 => hP _ H4 s4 rfl) (fun H s h => ?_)
  refine ⟨D, (List.range n).map fun _ => true, rfl, SqL.of (by rw [h, range_bl]), ?_⟩
  have e : ((List.range n).map fun _ => true).all id = true := by simp
  rw [e]
  exact hd H s
/-- a comprehension without ifs that changes nothing -/
theorem lc_map {J : It} {n : Nat} {G : Hp → Prop} {Y : Nat → Hp → V → Hp → Prop} (w : Walk J n G Y) (hGs : ∀ H H', Same H H' → G H → G H') {g : TG} {te : TE} {vs : List Nat} {σ : L2.St} {H1 : Hp} {D : Addr} {Qd : Hp → Prop} (c : Nat → V) (h1 : G H1) (hD : H1 D = none) (hn : n < sizeLine)
    (hs : ∀ i x H H' (P : V → Hp → Prop), i < n → Same H1 H → G H → Y i H x H' → (∀ H4, Same H H4 → P (c i) H4) →
      g x (wipe σ vs) H' fun σ2 H2 => wipe σ2 vs = wipe σ vs ∧ te σ2 H2 P)
    (hd : ∀ H, Same H1 H → H D = some (.lst ((List.range n).map c)) → Qd H) :
    ∃ W : Nat → Nat → Hp → Prop, (∃ m, W 0 m (L2.upd H1 D (.lst []))) ∧ ∀ i m H, W i m H →
      (J.stop i H ∧ Qd H) ∨ (J.go i H ∧ ∃ Nx : Hp → Prop, (∀ H', Nx H' → ∃ m', m' < m ∧ W (i + 1) m' H') ∧ ∀ x H', J.yld i H x H' → g x (wipe σ vs) H' fun σ2 H2 => wipe σ2 vs = wipe σ vs ∧ tYes σ2 H2 fun b H3 =>
        if b = true then te σ2 H3 fun y H4 => ∃ acc, H4 D = some (.lst acc) ∧ acc.length < sizeLine ∧ Nx (L2.upd H4 D (.lst (acc ++ [y]))) else Nx H3) :=
  lc_pure w hGs (fun i => some (c i)) h1 hD hn (fun i x H H' P N hi s hg y hP hN => hs i x H H' P hi s hg y fun H4 s4 => hP _ H4 s4 rfl) (fun H s h => hd H s (by rw [h, List.filterMap_eq_map']))
theorem all_range (n : Nat) : ((List.range n).map fun _ => true).all id = true := by simp
theorem walk_zipT {K : PySem.W.Frag} {a b : Addr} {xs ys : List V} {n : Nat} (hn : n = min xs.length ys.length) : Walk (RZ.ItzT K a b) n (fun H => SqT K H a xs ∧ SqT K H b ys) (YPair (fun i => xs[i]?) (fun i => ys[i]?)) := by
  subst hn
  refine ⟨fun i _ hi q => ?_, fun _ q => ⟨xs, ys, q.1, q.2, by omega⟩, fun i H v H' _ q y => ?_⟩
  · have h1 : i < xs.length := by omega
    have h2 : i < ys.length := by omega
    exact ⟨xs, ys, xs[i], ys[i], q.1, q.2, by simp [h1], by simp [h2]⟩
  · obtain ⟨T, x, z, h1, h2, h3, h4, h5⟩ := y
    exact ⟨T, x, z, h1, h2, h3, h4 xs q.1, h5 ys q.2⟩
theorem tyx_tup {K : PySem.W.Frag} {H : Hp} {a : Addr} {xs : List V} (h : SqT K H a xs) : TyX K H (.ref a) (.type "tuple") := by
  rcases h with (h | ⟨o, h⟩) | ⟨o, its, n, h, c, _⟩
  · exact .base (.tup h)
  · exact .fTuple h
  · exact .kTuple h c
theorem tyx_lst {K : PySem.W.Frag} {H : Hp} {a : Addr} {xs : List V} (h : H a = some (.lst xs)) : TyX K H (.ref a) (.type "list") := .base (.lst h)
theorem cut1 (xs : List V) : cutV xs (some 1) none = xs.drop 1 := by
  unfold cutV
  have e1 : HT.sIx xs.length 0 (some 1) = min 1 xs.length := HT.sIx_nat _ _ 1
  rw [HT.sIx_none, e1]
  cases xs with
  | nil => rfl
  | cons x r =>
    have e : min 1 (x :: r).length = 1 := by simp
    rw [e]
    exact List.take_of_length_le (by simp)
/-- t[1:] -/
theorem sl_tail {K : PySem.W.Frag} {H : Hp} {a : Addr} {xs : List V} {Q : VK} (h : SqT K H a xs) (q : ∀ p H', Same H H' → SqT K H' p (xs.drop 1) → Q (.ref p) H') : rSlA K (.ref a) (some 1) none H Q := by
  refine ⟨a, xs, rfl, h, fun e => ?_, fun _ p hp => ?_⟩
  · have e1 : HT.sIx xs.length 0 (some 1) = min 1 xs.length := HT.sIx_nat _ _ 1
    have : xs = [] := by
      cases xs with
      | nil => rfl
      | cons x r =>
        exfalso
        have e2 : min 1 (x :: r).length = 0 := e1.symm.trans e.1
        simp at e2
    subst this
    exact q a H (Same.refl H) h
  · refine q p _ (same_upd (Same.refl H) hp) ?_
    rw [← cut1]
    exact SqT.of upd_same
theorem sl_tailL {K : PySem.W.Frag} {H : Hp} {a : Addr} {xs : List V} {Q : VK} (h : SqL K H a xs) (q : ∀ p H', Same H H' → SqL K H' p (xs.drop 1) → Q (.ref p) H') : rSlL K (.ref a) (some 1) none H Q := by
  refine ⟨a, xs, rfl, h, fun p hp => ?_⟩
  refine q p _ (same_upd (Same.refl H) hp) ?_
  rw [← cut1]
  exact SqL.of upd_same
end Wm
/-! D1 -/
namespace Wm
open PySem PySem.Spec PyProof.Rows L2
/-! ### data that are compared -/
theorem canAll {ds : List PyData} (h : ∀ d ∈ ds, d.canLay0 = true) : PyData.canLayAll0 ds = true := by
  induction ds with
  | nil => simp [PyData.canLayAll0]
  | cons d ds ih =>
    rw [PyData.canLayAll0, h d List.mem_cons_self, ih fun e he => h e (List.mem_cons_of_mem _ he)]
    rfl
theorem depAll {n : Nat} {ds : List PyData} (h : ∀ d ∈ ds, d.depth ≤ n) : PyData.depthAll ds ≤ n := by
  induction ds with
  | nil => simp [PyData.depthAll]
  | cons d ds ih =>
    rw [PyData.depthAll]
    exact Nat.max_le.mpr ⟨h d List.mem_cons_self, ih fun e he => h e (List.mem_cons_of_mem _ he)⟩
/-- data that can be compared, of depth at most n -/
def DOk (n : Nat) (d : PyData) : Prop := d.canLay0 = true ∧ d.depth ≤ n
theorem DOk.shaped {n : Nat} {d : PyData} (h : DOk n d) (hn : n ≤ 64) : SeqAt.shaped d = true := by
  unfold SeqAt.shaped
  rw [h.1, decide_eq_true (Nat.le_trans h.2 hn)]
  rfl
theorem DOk.tup {n : Nat} {ds : List PyData} (h : ∀ d ∈ ds, DOk n d) : DOk (n + 1) (.tuple ds) :=
  ⟨by rw [PyData.canLay0]; exact canAll fun d hd => (h d hd).1, by rw [PyData.depth]; exact Nat.succ_le_succ (depAll fun d hd => (h d hd).2)⟩
theorem DOk.lst {n : Nat} {ds : List PyData} (h : ∀ d ∈ ds, DOk n d) : DOk (n + 1) (.list ds) :=
  ⟨by rw [PyData.canLay0]; exact canAll fun d hd => (h d hd).1, by rw [PyData.depth]; exact Nat.succ_le_succ (depAll fun d hd => (h d hd).2)⟩
theorem DOk.int (n : Nat) (i : Int) : DOk n (.int i) := ⟨by simp [PyData.canLay0], by simp [PyData.depth]⟩
theorem DOk.bool (n : Nat) (i : Bool) : DOk n (.bool i) := ⟨by simp [PyData.canLay0], by simp [PyData.depth]⟩
theorem DOk.none (n : Nat) : DOk n .none := ⟨by simp [PyData.canLay0], by simp [PyData.depth]⟩
theorem DOk.str {x : Str} (n : Nat) (h : PyData.strOk x = true) : DOk n (.str x) := ⟨by simp [PyData.canLay0, h], by simp [PyData.depth]⟩
theorem DOk.refl {n : Nat} {d : PyData} (h : DOk n d) : PyData.eqv d d = true := SeqAt.eqv_refl d h.1
theorem dpAll_map {K : PySem.W.Frag} {H : Hp} {α : Type} (f : α → V) (g : α → PyData) (h : ∀ a, Dp K H (f a) (g a)) : ∀ xs : List α, DpAll K H (xs.map f) (xs.map g)
  | [] => .nil
  | x :: xs => .cons (h x) (dpAll_map f g h xs)
def strsD (ps : List Str) : PyData := .tuple (ps.map PyData.str)
theorem dp_strs {K : PySem.W.Frag} {H : Hp} {a : Addr} {ps : List Str} (h : SqT K H a (ps.map V.str)) : Dp K H (.ref a) (strsD ps) := .tup h (dpAll_map V.str PyData.str (fun x => .str x) ps)
end Wm
/-! T3 -/
namespace Wm
open PySem PySem.Spec PyProof.Rows L2
def letters : Str := "abcdefghijklmnopqrstuvwxyz"
/-- a word of small letters -/
def WordOk (x : Str) : Prop := 1 ≤ x.length ∧ x.length ≤ 8 ∧ ∀ c ∈ x.cps.toList, c ∈ letters.cps.toList
def spIsWord : Sp := fun vs H Q _ => ∃ x : Str, vs = [.str x] ∧ WordOk x ∧ ∀ H', Same H H' → Q (.bl true) H'
section
variable {P : Program} {w : World} {K : PySem.W.Frag} {mg : Str → Option Value} {base : Heap}
theorem ok_isWord (T : TX P K mg) : FnOk P w K mg base CX0 1 T.isWord_f T.isWord_d ["thing"] spIsWord := by
  obtain ⟨tM, hM⟩ := T.k_MOST_LETTERS
  obtain ⟨tL, hL⟩ := T.k_LETTERS
  refine T.isWord_F.ok scIsWord (fun vs H Q E h => ?_) (fun cdv A outer s H vs Q E hr h => ?_)
  · obtain ⟨x, rfl, _⟩ := h
    rfl
  · obtain ⟨x, rfl, ⟨w1, w8, wl⟩, k⟩ := h
    have len8 : x.length ≤ sizeLine := Nat.le_trans w8 (by decide)
    refine ⟨_, pss_one (ps_ret (pe_and (pe_callB call_isi (by rfl) T.z_isinstance (by decide +kernel) (pa_cons (pv 0) (pa_cons (pe_bltn (v := .ty "str") (by rfl) T.z_str (by decide +kernel) rfl) pa_nil)))
      (pe_and (pe_chain op_le op_le pe_int (pe_callB call_len_str (by rfl) T.z_len PySem.boot_len (pa_cons (pv 0) pa_nil)) (pe_glob (v := .int 8) rfl hM ⟨_, rfl⟩))
        (pe_one (pe_callB (cr_all rfl) (by rfl) T.z_all (by decide +kernel) (pa_cons
          (pe_lc (own := [("letter", 1)]) (g := gName 1) (tt := tYes) rfl scIsWord.nd (pi_str (pv 0)) (blkOk_by (N := ["thing", "letter"]) (sc := defScope sIsWord) (by decide +kernel))
            (fun _ _ _ _ _ => pg_name (i := 1) scIsWord.nd rfl (Or.inl rfl)) (fun _ _ _ _ _ => pts_nil) (fun _ _ _ _ _ => pe_cmpR op_in_sign (pv 1) (pe_glob (v := .str letters) rfl hL ⟨_, rfl⟩) (by rfl))) pa_nil)))))), ?_⟩
    refine ⟨_, rfl, _, _, .type "str", .type "str", true, rfl, .ty _, .base (.str _), kit_ty (by decide +kernel), true, rfl, ?_⟩
    refine iteT ⟨_, rfl, _, rfl, len8, _, _, rfl, rfl, true, bl_of (by omega), iteT ⟨_, _, rfl, rfl, true, bl_of (by omega), iteT ?_⟩⟩
    refine ⟨_, rfl, x, rfl, fun D new => lc_allT (walk_str) (fun _ _ _ _ => trivial) trivial new (show x.length < sizeLine from Nat.lt_of_le_of_lt w8 (by decide)) (fun i v H1 H2 Pk hi s _ y hP => ?_) (fun H1 s1 => k H1 s1)⟩
    obtain ⟨rfl, c, hc, rfl⟩ := y
    refine ⟨rfl, _, rfl, c, letters, rfl, rfl, ?_⟩
    rw [bl_of (wl c (List.mem_of_getElem? (i := i) (by rw [Array.getElem?_toList]; exact hc)))]
    exact hP _ (Same.refl _)
/-! ### numbers -/
def spIsNumber : Sp := fun vs H Q _ => ∃ i : Int, vs = [.int i] ∧ Q (.bl true) H
theorem ok_isNumber (T : TX P K mg) : FnOk P w K mg base CX0 1 T.isNumber_f T.isNumber_d ["thing"] spIsNumber := by
  refine T.isNumber_F.ok scIsNumber (fun vs H Q E h => ?_) (fun cdv A outer s H vs Q E hr h => ?_)
  · obtain ⟨x, rfl, _⟩ := h
    rfl
  · obtain ⟨x, rfl, k⟩ := h
    refine ⟨_, pss_one (ps_ret (pe_and (pe_callB call_isi (by rfl) T.z_isinstance (by decide +kernel) (pa_cons (pv 0) (pa_cons (pe_bltn (v := .ty "int") (by rfl) T.z_int (by decide +kernel) rfl) pa_nil)))
      (pe_one (pe_not (pe_callB call_isi (by rfl) T.z_isinstance (by decide +kernel) (pa_cons (pv 0) (pa_cons (pe_bltn (v := .ty "bool") (by rfl) T.z_bool (by decide +kernel) rfl) pa_nil))))))), ?_⟩
    exact ⟨_, rfl, _, _, .type "int", .type "int", true, rfl, .ty _, .base (.int _), kit_ty (by decide +kernel), true, rfl, iteT ⟨_, rfl, _, _, .type "int", .type "bool", false, rfl, .ty _, .base (.int _), kit_ty (by decide +kernel), false, rfl, k⟩⟩
def spIsFrom : Sp := fun vs H Q _ => ∃ i l : Int, vs = [.int i, .int l] ∧ l ≤ i ∧ Q (.bl true) H
theorem ok_isFrom (T : TX P K mg) : FnOk P w K mg base CX0 2 T.isFrom_f T.isFrom_d ["thing", "least"] spIsFrom := by
  refine T.isFrom_F.ok scIsFrom (fun vs H Q E h => ?_) (fun cdv A outer s H vs Q E hr h => ?_)
  · obtain ⟨i, l, rfl, _⟩ := h
    rfl
  · obtain ⟨i, l, rfl, h, k⟩ := h
    refine ⟨_, pss_one (ps_ret (pe_and (pe_call (ok_isNumber T) hr (by rfl) T.isNumber_g T.isNumber_F.kp T.isNumber_b .nil pass0 (pa_cons (pv 0) pa_nil)) (pe_one (pe_cmpR op_ge (pv 0) (pv 1) (nomark _))))), ?_⟩
    refine ⟨_, rfl, _, rfl, true, rfl, iteT ⟨_, rfl, _, rfl, _, _, rfl, rfl, ?_⟩⟩
    show Q (V.bl (decide (l ≤ i))) H
    rw [bl_of h]
    exact k
def spIsAmong : Sp := fun vs H Q _ => ∃ i l m : Int, vs = [.int i, .int l, .int m] ∧ l ≤ i ∧ i ≤ m ∧ Q (.bl true) H
theorem ok_isAmong (T : TX P K mg) : FnOk P w K mg base CX0 2 T.isAmong_f T.isAmong_d ["thing", "least", "most"] spIsAmong := by
  refine T.isAmong_F.ok scIsAmong (fun vs H Q E h => ?_) (fun cdv A outer s H vs Q E hr h => ?_)
  · obtain ⟨i, l, m, rfl, _⟩ := h
    rfl
  · obtain ⟨i, l, m, rfl, h1, h2, k⟩ := h
    refine ⟨_, pss_one (ps_ret (pe_and (pe_call (ok_isNumber T) hr (by rfl) T.isNumber_g T.isNumber_F.kp T.isNumber_b .nil pass0 (pa_cons (pv 0) pa_nil)) (pe_one (pe_chain op_le op_le (pv 1) (pv 0) (pv 2))))), ?_⟩
    refine ⟨_, rfl, _, rfl, true, rfl, iteT ⟨_, rfl, _, rfl, _, _, rfl, rfl, true, bl_of h1, iteT ⟨_, rfl, _, _, rfl, rfl, ?_⟩⟩⟩
    show Q (V.bl (decide (i ≤ m))) H
    rw [bl_of h2]
    exact k
/-! ### rows of words -/
/-- strictly rising -/
def Rise (ws : List Str) : Prop := ws.Pairwise fun x y => x.cps.toList < y.cps.toList
theorem Rise.at {ws : List Str} (h : Rise ws) {i : Nat} {x y : Str} (hx : ws[i]? = some x) (hy : ws[i + 1]? = some y) : x.cps.toList < y.cps.toList := by
  obtain ⟨h1, e1⟩ := List.getElem?_eq_some_iff.mp hx
  obtain ⟨h2, e2⟩ := List.getElem?_eq_some_iff.mp hy
  rw [← e1, ← e2]
  exact List.pairwise_iff_getElem.mp h i (i + 1) h1 h2 (Nat.lt_succ_self i)
def spRising (K : PySem.W.Frag) : Sp := fun vs H Q _ => ∃ a : Addr, vs = [.ref a] ∧ ((∃ ws : List Str, SqT K H a (ws.map V.str) ∧ Rise ws ∧ ws.length ≤ 100) ∨ ∃ v, SqL K H a [v]) ∧ ∀ H', Same H H' → Q (.bl true) H'
theorem ok_rising (T : TX P K mg) : FnOk P w K mg base CX0 1 T.areRising_f T.areRising_d ["items"] (spRising K) := by
  refine T.areRising_F.ok scAreRising (fun vs H Q E h => ?_) (fun cdv A outer s H vs Q E hr h => ?_)
  · obtain ⟨a, rfl, _⟩ := h
    rfl
  · obtain ⟨a, rfl, hh, k⟩ := h
    rcases hh with ⟨ws, ht, hw, hl⟩ | ⟨v, hL⟩
    · refine ⟨_, pss_one (ps_ret (pe_callB (cr_all rfl) (by rfl) T.z_all (by decide +kernel) (pa_cons
          (pe_lc (own := [("one", 1), ("other", 2)]) (g := gTup K 2 (gCons (gName 1) (gCons (gName 2) gNil))) (tt := tYes) rfl scAreRising.nd (RZ.pi_zipA (by rfl) T.z_zip (pa_cons (pv 0) (pa_cons (pe_slice sl_tupA (pv 0) (po_some pe_int) po_none) pa_nil))) (blkOk_by (N := ["items", "one", "other"]) (sc := defScope sAreRising) (by decide +kernel))
            (fun _ _ _ _ _ => pg_tup (by rfl) (pgs_cons (pg_name (i := 1) scAreRising.nd rfl (Or.inl rfl)) (pgs_cons (pg_name (i := 2) scAreRising.nd rfl (Or.inl rfl)) pgs_nil))) (fun _ _ _ _ _ => pts_nil) (fun _ _ _ _ _ => pe_cmpR op_lt_str (pv 1) (pv 2) (nomark _))) pa_nil))), ?_⟩
      refine ⟨_, rfl, _, rfl, 1, rfl, ?_⟩
      dsimp only [tNoPart]
      refine sl_tail ht fun p H1 s1 hp => ⟨a, p, _, _, rfl, .inr ⟨same_seqT s1 ht, hp, fun D new => ?_⟩⟩
      refine lc_allT (walk_zipT (xs := ws.map V.str) (ys := (ws.map V.str).drop 1) rfl) (fun _ _ s q => ⟨same_seqT s q.1, same_seqT s q.2⟩) ⟨same_seqT s1 ht, hp⟩ new ?_ (fun i v H2 H3 Pk hi s _ y hP => ?_) (fun H2 s2 => k H2 (s1.trans s2))
      · rw [List.length_drop, List.length_map]
        exact Nat.lt_of_le_of_lt (show min ws.length (ws.length - 1) ≤ 100 by omega) (by decide)
      · obtain ⟨t, x, z, rfl, ht0, rfl, hx, hz⟩ := y
        have hx : (ws.map V.str)[i]? = some x := hx
        have hz : ((ws.map V.str).drop 1)[i]? = some z := hz
        rw [List.getElem?_map] at hx
        rw [List.getElem?_drop, List.getElem?_map, Nat.add_comm] at hz
        obtain ⟨x, ex, rfl⟩ := Option.map_eq_some_iff.mp hx
        obtain ⟨z', ez, rfl⟩ := Option.map_eq_some_iff.mp hz
        refine ⟨t, _, rfl, SqT.of upd_same, rfl, _, _, rfl, _, _, rfl, rfl, rfl, _, rfl, _, rfl, x, z', rfl, rfl, ?_⟩
        rw [bl_of (hw.at ex ez)]
        exact hP _ (same_upd (Same.refl _) ht0)
    · refine ⟨_, pss_one (ps_ret (pe_callB (cr_all rfl) (by rfl) T.z_all (by decide +kernel) (pa_cons
          (pe_lc (own := [("one", 1), ("other", 2)]) (g := gTup K 2 (gCons (gName 1) (gCons (gName 2) gNil))) (tt := tYes) rfl scAreRising.nd (RZ.pi_zipA (by rfl) T.z_zip (pa_cons (pv 0) (pa_cons (pe_slice sl_list (pv 0) (po_some pe_int) po_none) pa_nil))) (blkOk_by (N := ["items", "one", "other"]) (sc := defScope sAreRising) (by decide +kernel))
            (fun _ _ _ _ _ => pg_tup (by rfl) (pgs_cons (pg_name (i := 1) scAreRising.nd rfl (Or.inl rfl)) (pgs_cons (pg_name (i := 2) scAreRising.nd rfl (Or.inl rfl)) pgs_nil))) (fun _ _ _ _ _ => pts_nil) (fun _ _ _ _ _ => pe_cmpR op_lt_str (pv 1) (pv 2) (nomark _))) pa_nil))), ?_⟩
      refine ⟨_, rfl, _, rfl, 1, rfl, ?_⟩
      dsimp only [tNoPart]
      refine sl_tailL hL fun p H1 s1 hp => ⟨a, p, _, _, rfl, .inl ⟨s1.seq hL, hp, fun D new => ?_⟩⟩
      refine lc_allT (walk_zip (xs := [v]) (ys := [v].drop 1) rfl) (fun _ _ s q => ⟨s.seq q.1, s.seq q.2⟩) ⟨s1.seq hL, hp⟩ new (show 0 < sizeLine by decide) (fun i v H2 H3 Pk hi s _ y hP => ?_) (fun H2 s2 => k H2 (s1.trans s2))
      exact absurd hi (by simp)
def Words (ws : List Str) : Prop := (∀ x ∈ ws, WordOk x) ∧ Rise ws ∧ ws.length ≤ 3
def spAreWords (K : PySem.W.Frag) : Sp := fun vs H Q _ => ∃ (a : Addr) (ws : List Str), vs = [.ref a] ∧ SqT K H a (ws.map V.str) ∧ Words ws ∧ ∀ H', Same H H' → Q (.bl true) H'
theorem ok_areWords (T : TX P K mg) : FnOk P w K mg base CX0 2 T.areWords_f T.areWords_d ["thing"] (spAreWords K) := by
  refine T.areWords_F.ok scAreWords (fun vs H Q E h => ?_) (fun cdv A outer s H vs Q E hr h => ?_)
  · obtain ⟨a, ws, rfl, _⟩ := h
    rfl
  · obtain ⟨a, ws, rfl, ht, ⟨hw, hrise, hl⟩, k⟩ := h
    refine ⟨_, pss_one (ps_ret (pe_and (pe_callB call_isi (by rfl) T.z_isinstance (by decide +kernel) (pa_cons (pv 0) (pa_cons (pe_bltn (v := .ty "tuple") (by rfl) T.z_tuple (by decide +kernel) rfl) pa_nil)))
      (pe_and (pe_callB (cr_all rfl) (by rfl) T.z_all (by decide +kernel) (pa_cons
          (pe_lc (own := [("one", 1)]) (g := gName 1) (tt := tYes) rfl scAreWords.nd (pi_tup (pv 0)) (blkOk_by (N := ["thing", "one"]) (sc := defScope sAreWords) (by decide +kernel))
            (fun _ _ _ _ _ => pg_name (i := 1) scAreWords.nd rfl (Or.inl rfl)) (fun _ _ _ _ _ => pts_nil) (fun _ _ _ _ _ => pe_call (ok_isWord T) hr (by rfl) T.isWord_g T.isWord_F.kp T.isWord_b .nil pass0 (pa_cons (pv 1) pa_nil))) pa_nil))
        (pe_one (pe_call ((ok_rising T)) hr (by rfl) T.areRising_g T.areRising_F.kp T.areRising_b .nil pass0 (pa_cons (pv 0) pa_nil)))))), ?_⟩
    refine ⟨_, rfl, _, _, .type "tuple", .type "tuple", true, rfl, .ty _, tyx_tup ht, kit_ty (by decide +kernel), true, rfl, iteT ?_⟩
    refine ⟨_, rfl, a, rfl, ⟨_, ht⟩, fun D new => ?_⟩
    dsimp only [tNil]
    refine lc_allT (walk_tup (xs := ws.map V.str)) (fun _ _ s q => same_seqT s q) ht new ?_ (fun i v H1 H2 Pk hi s _ y hP => ?_) (fun H1 s1 => ⟨true, rfl, iteT ?_⟩)
    · rw [List.length_map]
      exact Nat.lt_of_le_of_lt hl (by decide)
    · obtain ⟨rfl, hx⟩ := y
      rw [List.getElem?_map] at hx
      obtain ⟨x, ex, rfl⟩ := Option.map_eq_some_iff.mp hx
      exact ⟨rfl, _, rfl, x, rfl, hw x (List.mem_of_getElem? ex), fun H3 s3 => hP _ s3⟩
    · exact ⟨_, rfl, a, rfl, .inl ⟨ws, same_seqT s1 ht, hrise, by omega⟩, fun H2 s2 => k H2 (s1.trans s2)⟩
def spNeedPeople (K : PySem.W.Frag) : Sp := fun vs H Q _ => ∃ (a : Addr) (ws : List Str), vs = [.ref a] ∧ SqT K H a (ws.map V.str) ∧ Words ws ∧ 1 ≤ ws.length ∧ ∀ H', Same H H' → Q (.ref a) H'
theorem ok_needPeople (T : TX P K mg) : FnOk P w K mg base CX0 3 T.needPeople_f T.needPeople_d ["thing"] (spNeedPeople K) := by
  obtain ⟨tM, hM⟩ := T.k_MOST_PEOPLE
  refine T.needPeople_F.ok scNeedPeople (fun vs H Q E h => ?_) (fun cdv A outer s H vs Q E hr h => ?_)
  · obtain ⟨a, ws, rfl, _⟩ := h
    rfl
  · obtain ⟨a, ws, rfl, ht, hw, h1, k⟩ := h
    refine ⟨_, pss_cons (ps_if (PW.pt (pw_or (pt_not (pt_val (pe_call (ok_areWords T) hr (by rfl) T.areWords_g T.areWords_F.kp T.areWords_b .nil pass0 (pa_cons (pv 0) pa_nil))))
      (pw_or1 (pt_not (pt_chain op_le op_le pe_int (pe_callB call_len_seq (by rfl) T.z_len PySem.boot_len (pa_cons (pv 0) pa_nil)) (pe_glob (v := .int 6) rfl hM ⟨_, rfl⟩)))))) (pss_one ps_never) pss_nil) (pss_one (ps_ret (pv 0))), ?_⟩
    refine ⟨_, rfl, a, ws, rfl, ht, hw, fun H1 s1 => ⟨true, rfl, ?_⟩⟩
    have hlen := hw.2.2
    refine iteF ⟨_, rfl, a, _, rfl, .inr (same_seqT s1 ht), _, _, rfl, rfl, true, bl_of ?_, iteT ⟨_, _, rfl, rfl, true, bl_of ?_, iteF ⟨_, rfl, k _ s1⟩⟩⟩
    · rw [List.length_map]
      omega
    · rw [List.length_map]
      omega
/-- the words of thing are all people -/
def spIsLot (K : PySem.W.Frag) : Sp := fun vs H Q _ => ∃ (p a : Addr) (ps ws : List Str), vs = [.ref p, .ref a] ∧ SqT K H p (ps.map V.str) ∧ SqT K H a (ws.map V.str) ∧ Words ws ∧ (∀ x ∈ ws, x ∈ ps) ∧ ∀ H', Same H H' → Q (.bl true) H'
theorem flat_strs' (ws : List Str) : (ws.map V.str).all flatV = true := by
  rw [List.all_eq_true]
  intro v hv
  obtain ⟨x, _, rfl⟩ := List.mem_map.mp hv
  rfl
theorem in_strs {ws : List Str} {x : Str} (h : x ∈ ws) : inV (V.str x) (ws.map V.str) = true := by
  unfold inV
  rw [List.any_eq_true]
  exact ⟨V.str x, List.mem_map.mpr ⟨x, h, rfl⟩, (beq_self_eq_true x : (x == x) = true)⟩
theorem ok_isLot (T : TX P K mg) : FnOk P w K mg base CX0 3 T.isLot_f T.isLot_d ["people", "thing"] (spIsLot K) := by
  refine T.isLot_F.ok scIsLot (fun vs H Q E h => ?_) (fun cdv A outer s H vs Q E hr h => ?_)
  · obtain ⟨p, a, ps, ws, rfl, _⟩ := h
    rfl
  · obtain ⟨p, a, ps, ws, rfl, hp, ha, hw, hin, k⟩ := h
    refine ⟨_, pss_one (ps_ret (pe_and (pe_call (ok_areWords T) hr (by rfl) T.areWords_g T.areWords_F.kp T.areWords_b .nil pass0 (pa_cons (pv 1) pa_nil))
      (pe_one (pe_callB (cr_all rfl) (by rfl) T.z_all (by decide +kernel) (pa_cons
          (pe_lc (own := [("one", 2)]) (g := gName 2) (tt := tYes) (te := tOp (rIn K false) (tVar 2) (tVar 0)) rfl scIsLot.nd (pi_tup (pv 1)) (blkOk_by (N := ["people", "thing", "one"]) (sc := defScope sIsLot) (by decide +kernel))
            (fun _ _ _ _ _ => pg_name (i := 2) scIsLot.nd rfl (Or.inl rfl)) (fun _ _ _ _ _ => pts_nil) (fun _ _ _ _ _ => pe_cmpR op_in_seq (pv 2) (pv 0) (by rfl))) pa_nil))))), ?_⟩
    refine ⟨_, rfl, a, ws, rfl, ha, hw, fun H1 s1 => ⟨true, rfl, iteT ?_⟩⟩
    refine ⟨_, rfl, a, rfl, ⟨_, same_seqT s1 ha⟩, fun D new => ?_⟩
    dsimp only [tNil]
    refine lc_allT (walk_tup (xs := ws.map V.str)) (fun _ _ s q => same_seqT s q) (same_seqT s1 ha) new ?_ (fun i v H2 H3 Pk hi s2 _ y hP => ?_) (fun H2 s2 => k H2 (s1.trans s2))
    · rw [List.length_map]
      exact Nat.lt_of_le_of_lt hw.2.2 (by decide)
    · obtain ⟨rfl, hx⟩ := y
      rw [List.getElem?_map] at hx
      obtain ⟨x, ex, rfl⟩ := Option.map_eq_some_iff.mp hx
      refine ⟨rfl, _, rfl, _, rfl, p, _, rfl, .inr (same_seqT (s1.trans s2) hp), rfl, flat_strs' ps, ?_⟩
      show Pk (.bl (inV (V.str x) (ps.map V.str))) _
      rw [in_strs (hin x (List.mem_of_getElem? ex))]
      exact hP _ (Same.refl _)
def spNeedLot (K : PySem.W.Frag) : Sp := fun vs H Q _ => ∃ (p a : Addr) (ps ws : List Str), vs = [.ref p, .ref a] ∧ SqT K H p (ps.map V.str) ∧ SqT K H a (ws.map V.str) ∧ Words ws ∧ (∀ x ∈ ws, x ∈ ps) ∧ ∀ H', Same H H' → Q .non H'
theorem ok_needLot (T : TX P K mg) : FnOk P w K mg base CX0 4 T.needLot_f T.needLot_d ["people", "thing"] (spNeedLot K) := by
  refine T.needLot_F.ok scNeedLot (fun vs H Q E h => ?_) (fun cdv A outer s H vs Q E hr h => ?_)
  · obtain ⟨p, a, ps, ws, rfl, _⟩ := h
    rfl
  · obtain ⟨p, a, ps, ws, rfl, hp, ha, hw, hin, k⟩ := h
    refine ⟨_, pss_one (ps_if (pt_not (pt_val (pe_call (ok_isLot T) hr (by rfl) T.isLot_g T.isLot_F.kp T.isLot_b .nil pass0 (pa_cons (pv 0) (pa_cons (pv 1) pa_nil))))) (pss_one ps_never) pss_nil), ?_⟩
    exact ⟨_, rfl, _, rfl, p, a, ps, ws, rfl, hp, ha, hw, hin, fun H1 s1 => ⟨true, rfl, iteF (k H1 s1)⟩⟩
end
end Wm
/-! T4 -/
namespace Wm
open PySem PySem.Spec PyProof.Rows L2
/-! ### clauses -/
def spAreSlots (K : PySem.W.Frag) : Sp := fun vs H Q _ => ∃ (p t a : Addr) (ps ws : List Str), vs = [.ref p, .ref t] ∧ SqT K H p (ps.map V.str) ∧ SqT K H t [.ref a] ∧ SqT K H a (ws.map V.str) ∧ Words ws ∧ (∀ x ∈ ws, x ∈ ps) ∧ ∀ H', Same H H' → Q (.bl true) H'
section
variable {P : Program} {w : World} {K : PySem.W.Frag} {mg : Str → Option Value} {base : Heap}
theorem ok_areSlots (T : TX P K mg) : FnOk P w K mg base CX0 4 T.areSlots_f T.areSlots_d ["people", "thing"] (spAreSlots K) := by
  obtain ⟨tM, hM⟩ := T.k_MOST_SLOTS
  refine T.areSlots_F.ok scAreSlots (fun vs H Q E h => ?_) (fun cdv A outer s H vs Q E hr h => ?_)
  · obtain ⟨p, t, a, ps, ws, rfl, _⟩ := h
    rfl
  · obtain ⟨p, t, a, ps, ws, rfl, hp, ht, ha, hw, hin, k⟩ := h
    refine ⟨_, pss_one (ps_ret (pe_and (pe_callB call_isi (by rfl) T.z_isinstance (by decide +kernel) (pa_cons (pv 1) (pa_cons (pe_bltn (v := .ty "tuple") (by rfl) T.z_tuple (by decide +kernel) rfl) pa_nil))) (pe_and (pe_chain op_le op_le pe_int (pe_callB call_len_seq (by rfl) T.z_len PySem.boot_len (pa_cons (pv 1) pa_nil)) (pe_glob (v := .int 4) rfl hM ⟨_, rfl⟩))
      (pe_one (pe_callB (cr_all rfl) (by rfl) T.z_all (by decide +kernel) (pa_cons (pe_lc (own := [("one", 2)]) (g := gName 2) (tt := tYes) rfl scAreSlots.nd (pi_tup (pv 1)) (blkOk_by (N := ["people", "thing", "one"]) (sc := defScope sAreSlots) (by decide +kernel)) (fun _ _ _ _ _ => pg_name (i := 2) scAreSlots.nd rfl (Or.inl rfl)) (fun _ _ _ _ _ => pts_nil) (fun _ _ _ _ _ => (pe_call (ok_isLot T) hr (by rfl) T.isLot_g T.isLot_F.kp T.isLot_b .nil pass0 (pa_cons (pv 0) (pa_cons (pv 2) pa_nil))))) pa_nil)))))), ?_⟩
    refine ⟨_, rfl, _, _, .type "tuple", .type "tuple", true, rfl, .ty _, tyx_tup ht, kit_ty (by decide +kernel), true, rfl, iteT ?_⟩
    refine ⟨_, rfl, t, _, rfl, .inr ht, _, _, rfl, rfl, true, bl_of (show (1 : Int) ≤ 1 by decide), iteT ⟨_, _, rfl, rfl, true, bl_of (show (1 : Int) ≤ 4 by decide), iteT ?_⟩⟩
    refine ⟨_, rfl, t, rfl, ⟨_, ht⟩, fun D new => ?_⟩
    dsimp only [tNil]
    refine lc_allT (walk_tup (xs := [V.ref a])) (fun _ _ s q => same_seqT s q) ht new (show 1 < sizeLine by decide) (fun i v H2 H3 Pk hi s2 _ y hP => ?_) (fun H2 s2 => k H2 s2)
    obtain ⟨rfl, hx⟩ := y
    have h0 : i = 0 := by
      have : i < 1 := hi
      omega
    subst h0
    cases hx
    exact ⟨rfl, _, rfl, _, rfl, p, a, ps, ws, rfl, same_seqT s2 hp, same_seqT s2 ha, hw, hin, fun H4 s4 => hP _ s4⟩
/-- (2, S) -/
def spIsSum (K : PySem.W.Frag) : Sp := fun vs H Q _ => ∃ (a : Addr) (n S : Int), vs = [.ref a] ∧ SqT K H a [.int n, .int S] ∧ 1 ≤ n ∧ n ≤ 7 ∧ 1 ≤ S ∧ ∀ H', Same H H' → Q (.bl true) H'
theorem ok_isSum (T : TX P K mg) : FnOk P w K mg base CX0 3 T.isSum_f T.isSum_d ["thing"] (spIsSum K) := by
  obtain ⟨tM, hM⟩ := T.k_MOST_DAYS
  refine T.isSum_F.ok scIsSum (fun vs H Q E h => ?_) (fun cdv A outer s H vs Q E hr h => ?_)
  · obtain ⟨a, n, S, rfl, _⟩ := h
    rfl
  · obtain ⟨a, n, S, rfl, ht, h1, h7, hS, k⟩ := h
    refine ⟨_, pss_one (ps_ret (pe_and (pe_callB call_isi (by rfl) T.z_isinstance (by decide +kernel) (pa_cons (pv 0) (pa_cons (pe_bltn (v := .ty "tuple") (by rfl) T.z_tuple (by decide +kernel) rfl) pa_nil))) (pe_and (pe_cmpR op_eq (pe_callB call_len_seq (by rfl) T.z_len PySem.boot_len (pa_cons (pv 0) pa_nil)) pe_int (nomark _))
      (pe_and (pe_call (ok_isAmong T) hr (by rfl) T.isAmong_g T.isAmong_F.kp T.isAmong_b .nil pass0 (pa_cons (pe_ix ix_tup (pv 0) pe_int (fun _ _ => rfl)) (pa_cons pe_int (pa_cons (pe_glob (v := .int 7) rfl hM ⟨_, rfl⟩) pa_nil)))) (pe_one (pe_call (ok_isFrom T) hr (by rfl) T.isFrom_g T.isFrom_F.kp T.isFrom_b .nil pass0 (pa_cons (pe_ix ix_tup (pv 0) pe_int (fun _ _ => rfl)) (pa_cons pe_int pa_nil)))))))), ?_⟩
    refine ⟨_, rfl, _, _, .type "tuple", .type "tuple", true, rfl, .ty _, tyx_tup ht, kit_ty (by decide +kernel), true, rfl, iteT ?_⟩
    refine ⟨_, rfl, a, _, rfl, .inr ht, rfl, true, bl_of rfl, iteT ?_⟩
    refine ⟨_, rfl, a, _, 0, _, rfl, rfl, ht, at_of (j := 0) rfl rfl, _, _, _, rfl, h1, h7, true, rfl, iteT ?_⟩
    exact ⟨_, rfl, a, _, 1, _, rfl, rfl, ht, at_of (j := 1) rfl rfl, _, _, rfl, hS, k _ (Same.refl _)⟩
def spAreSums (K : PySem.W.Frag) : Sp := fun vs H Q _ => ∃ (t a : Addr) (n S : Int), vs = [.ref t] ∧ SqT K H t [.ref a] ∧ SqT K H a [.int n, .int S] ∧ 1 ≤ n ∧ n ≤ 7 ∧ 1 ≤ S ∧ ∀ H', Same H H' → Q (.bl true) H'
theorem ok_areSums (T : TX P K mg) : FnOk P w K mg base CX0 4 T.areSums_f T.areSums_d ["thing"] (spAreSums K) := by
  obtain ⟨tM, hM⟩ := T.k_MOST_SUMS
  refine T.areSums_F.ok scAreSums (fun vs H Q E h => ?_) (fun cdv A outer s H vs Q E hr h => ?_)
  · obtain ⟨t, a, n, S, rfl, _⟩ := h
    rfl
  · obtain ⟨t, a, n, S, rfl, ht, ha, h1, h7, hS, k⟩ := h
    refine ⟨_, pss_cons (ps_if (PW.pt (pw_or (pt_not (pt_val (pe_callB call_isi (by rfl) T.z_isinstance (by decide +kernel) (pa_cons (pv 0) (pa_cons (pe_bltn (v := .ty "tuple") (by rfl) T.z_tuple (by decide +kernel) rfl) pa_nil))))) (pw_or (pt_cmpR op_gt (pe_callB call_len_seq (by rfl) T.z_len PySem.boot_len (pa_cons (pv 0) pa_nil)) (pe_glob (v := .int 3) rfl hM ⟨_, rfl⟩) (nomark _)) (pw_or1 (pt_not (pt_val (pe_callB (cr_all rfl) (by rfl) T.z_all (by decide +kernel) (pa_cons (pe_lc (own := [("one", 1)]) (g := gName 1) (tt := tYes) rfl scAreSums.nd (pi_tup (pv 0)) (blkOk_by (N := ["thing", "one"]) (sc := defScope sAreSums) (by decide +kernel)) (fun _ _ _ _ _ => pg_name (i := 1) scAreSums.nd rfl (Or.inl rfl)) (fun _ _ _ _ _ => pts_nil) (fun _ _ _ _ _ => (pe_call (ok_isSum T) hr (by rfl) T.isSum_g T.isSum_F.kp T.isSum_b .nil pass0 (pa_cons (pv 1) pa_nil)))) pa_nil)))))))) (pss_one ps_never) pss_nil)
      (pss_one (ps_ret (pe_call (ok_rising T) (hr.mono (by decide)) (by rfl) T.areRising_g T.areRising_F.kp T.areRising_b .nil pass0 (pa_cons (pe_lc (own := [("one", 1)]) (g := gName 1) (tt := tYes) (te := (tOp (rIxT K) (tVar 1) (tC (.int 0)))) rfl scAreSums.nd (pi_tup (pv 0)) (blkOk_by (N := ["thing", "one"]) (sc := defScope sAreSums) (by decide +kernel)) (fun _ _ _ _ _ => pg_name (i := 1) scAreSums.nd rfl (Or.inl rfl)) (fun _ _ _ _ _ => pts_nil) (fun _ _ _ _ _ => (pe_ix ix_tup (pv 1) pe_int (fun _ _ => rfl)))) pa_nil)))), ?_⟩
    refine ⟨_, rfl, _, _, .type "tuple", .type "tuple", true, rfl, .ty _, tyx_tup ht, kit_ty (by decide +kernel), true, rfl, iteF ?_⟩
    refine ⟨_, rfl, t, _, rfl, .inr ht, _, _, rfl, rfl, false, bl_no (show ¬ (3 : Int) < 1 by decide), iteF ?_⟩
    refine ⟨_, rfl, t, rfl, ⟨_, ht⟩, fun D new => ?_⟩
    dsimp only [tNil]
    refine lc_allT (walk_tup (xs := [V.ref a])) (fun _ _ s q => same_seqT s q) ht new (show 1 < sizeLine by decide) (fun i v H2 H3 Pk hi s2 _ y hP => ?_) (fun H2 s2 => ⟨true, rfl, iteF ?_⟩)
    · obtain ⟨rfl, hx⟩ := y
      have h0 : i = 0 := by
        have : i < 1 := hi
        omega
      subst h0
      cases hx
      exact ⟨rfl, _, rfl, a, n, S, rfl, same_seqT s2 ha, h1, h7, hS, fun H4 s4 => hP _ s4⟩
    · refine ⟨_, rfl, t, rfl, ⟨_, same_seqT s2 ht⟩, fun D2 new2 => ?_⟩
      refine lc_map (walk_tup (xs := [V.ref a])) (fun _ _ s q => same_seqT s q) (fun _ => .int n) (same_seqT s2 ht) new2 (show 1 < sizeLine by decide) (fun i v H3 H4 Pk hi s3 _ y hP => ?_) (fun H3 s3 h3 => ?_)
      · obtain ⟨rfl, hx⟩ := y
        have h0 : i = 0 := by
          have : i < 1 := hi
          omega
        subst h0
        cases hx
        exact ⟨rfl, _, rfl, a, _, 0, _, rfl, rfl, same_seqT (s2.trans s3) ha, at_of (j := 0) rfl rfl, hP _ (Same.refl _)⟩
      · exact ⟨D2, rfl, .inr ⟨_, SqL.of h3⟩, fun H4 s4 => k H4 ((s2.trans s3).trans s4)⟩
/-! ### a clause's fields -/
def cf (p sl : Addr) (cap : Int) (su : Addr) : List (Str × V) := putF "sums" (.ref su) (putF "cap" (.int cap) (putF "slots" (.ref sl) (putF "people" (.ref p) [])))
theorem cf_eq (p sl : Addr) (cap : Int) (su : Addr) : cf p sl cap su = ([("people", V.ref p), ("slots", V.ref sl), ("cap", V.int cap), ("sums", V.ref su)] : List (Str × V)) := by
  unfold cf
  rfl
theorem cf_p (p sl : Addr) (cap : Int) (su : Addr) : (cf p sl cap su).lookup ("people" : Str) = some (.ref p) := by rw [cf_eq] <;> rfl
theorem cf_sl (p sl : Addr) (cap : Int) (su : Addr) : (cf p sl cap su).lookup ("slots" : Str) = some (.ref sl) := by rw [cf_eq] <;> rfl
theorem cf_cap (p sl : Addr) (cap : Int) (su : Addr) : (cf p sl cap su).lookup ("cap" : Str) = some (.int cap) := by rw [cf_eq] <;> rfl
theorem cf_su (p sl : Addr) (cap : Int) (su : Addr) : (cf p sl cap su).lookup ("sums" : Str) = some (.ref su) := by rw [cf_eq] <;> rfl
theorem cf_no (p sl : Addr) (cap : Int) (su : Addr) : (cf p sl cap su).lookup ("fields" : Str) = none := by rw [cf_eq] <;> rfl
/-- what a clause is made of: people at p, slots sl = ((p,),), cap, sums su = ((n, S),) -/
structure Made (K : PySem.W.Frag) (H : Hp) (p sl su sm : Addr) (ps : List Str) (cap n S : Int) : Prop where
  p_ : SqT K H p (ps.map V.str)
  sl_ : SqT K H sl [.ref p]
  su_ : SqT K H su [.ref sm]
  sm_ : SqT K H sm [.int n, .int S]
  w_ : Words ps
  w1 : 1 ≤ ps.length
  c1 : 1 ≤ cap
  n1 : 1 ≤ n
  n7 : n ≤ 7
  S1 : 1 ≤ S
theorem Made.same {H H' : Hp} {p sl su sm : Addr} {ps : List Str} {cap n S : Int} (m : Made K H p sl su sm ps cap n S) (s : Same H H') : Made K H' p sl su sm ps cap n S :=
  ⟨same_seqT s m.p_, same_seqT s m.sl_, same_seqT s m.su_, same_seqT s m.sm_, m.w_, m.w1, m.c1, m.n1, m.n7, m.S1⟩
def spClauseInit (K : PySem.W.Frag) (C : Addr) : Sp := fun vs H Q _ => ∃ (c dx p sl su sm : Addr) (ps : List Str) (cap n S : Int), vs = [.ref c, .ref p, .ref sl, .int cap, .ref su] ∧ H c = some (.ins C dx []) ∧ Made K H p sl su sm ps cap n S ∧
  ∀ H', H' c = some (.ins C dx (cf p sl cap su)) → (∀ b o, b ≠ c → H b = some o → H' b = some o) → Q .non H'
theorem ok_clauseInit (T : TX P K mg) : FnOk P w K mg base CX0 5 T.clauseInit_f T.clauseInit_d ["self", "people", "slots", "cap", "sums"] (spClauseInit K T.clause_C) := by
  refine T.clauseInit_F.ok scClauseInit (fun vs H Q E h => ?_) (fun cdv A outer s H vs Q E hr h => ?_)
  · obtain ⟨c, dx, p, sl, su, sm, ps, cap, n, S, rfl, _⟩ := h
    rfl
  · obtain ⟨c, dx, p, sl, su, sm, ps, cap, n, S, rfl, hc, M, k⟩ := h
    refine ⟨_, pss_cons (ps_expr (pe_call (ok_needPeople T) (hr.mono (by decide)) (by rfl) T.needPeople_g T.needPeople_F.kp T.needPeople_b .nil pass0 (pa_cons (pv 1) pa_nil)))
      (pss_cons (ps_if (pt_not (pt_val (pe_call (ok_areSlots T) hr (by rfl) T.areSlots_g T.areSlots_F.kp T.areSlots_b .nil pass0 (pa_cons (pv 1) (pa_cons (pv 2) pa_nil))))) (pss_one ps_never) pss_nil)
      (pss_cons (ps_if (PW.pt (pw_and (pt_cmpR op_notN (pv 3) pe_non (nomark _)) (pw_and1 (pt_not (pt_val (pe_call (ok_isFrom T) (hr.mono (by decide)) (by rfl) T.isFrom_g T.isFrom_F.kp T.isFrom_b .nil pass0 (pa_cons (pv 3) (pa_cons pe_int pa_nil)))))))) (pss_one ps_never) pss_nil)
      (pss_cons (ps_if (pt_not (pt_val (pe_call (ok_areSums T) hr (by rfl) T.areSums_g T.areSums_F.kp T.areSums_b .nil pass0 (pa_cons (pv 4) pa_nil)))) (pss_one ps_never) pss_nil)
      (pss_cons (ps_fld (pv 0) (pv 1) rfl) (pss_cons (ps_fld (pv 0) (pv 2) rfl) (pss_cons (ps_fld (pv 0) (pv 3) rfl) (pss_one (ps_fld (pv 0) (pv 4) rfl)))))))), ?_⟩
    refine ⟨_, rfl, p, ps, rfl, M.p_, M.w_, M.w1, fun H1 s1 => ?_⟩
    refine ⟨_, rfl, _, rfl, p, sl, p, ps, ps, rfl, same_seqT s1 M.p_, same_seqT s1 M.sl_, same_seqT s1 M.p_, M.w_, fun _ z => z, fun H2 s2 => ⟨true, rfl, iteF ?_⟩⟩
    refine ⟨_, rfl, rfl, _, rfl, iteT ?_⟩
    refine ⟨_, rfl, cap, 1, rfl, M.c1, true, rfl, iteF ?_⟩
    have s12 := s1.trans s2
    refine ⟨_, rfl, su, sm, n, S, rfl, same_seqT s12 M.su_, same_seqT s12 M.sm_, M.n1, M.n7, M.S1, fun H3 s3 => ⟨true, rfl, iteF ?_⟩⟩
    have s13 := s12.trans s3
    have hc3 := s13 _ _ hc
    refine ⟨_, rfl, _, rfl, c, _, dx, [], rfl, hc3, T.clause_c, T.clause_people, (by show 0 < 1000; decide), ?_⟩
    refine ⟨_, rfl, _, rfl, c, _, dx, _, rfl, upd_same, T.clause_c, T.clause_slots, (by show 1 < 1000; decide), ?_⟩
    refine ⟨_, rfl, _, rfl, c, _, dx, _, rfl, upd_same, T.clause_c, T.clause_cap, (by show 2 < 1000; decide), ?_⟩
    refine ⟨_, rfl, _, rfl, c, _, dx, _, rfl, upd_same, T.clause_c, T.clause_sums, (by show 3 < 1000; decide), ?_⟩
    refine k _ upd_same fun b o hb e => ?_
    rw [upd_ne hb, upd_ne hb, upd_ne hb, upd_ne hb]
    exact s13 _ _ e
end
end Wm
/-! T5 -/
namespace Wm
open PySem PySem.Spec PyProof.Rows L2
/-- what a round of the law has drawn: the people's tuple and its words, the slots, the sums -/
structure Rnd where
  p : Addr
  sl : Addr
  su : Addr
  sm : Addr
  ps : List Str
  S : Int
def bf (p cs lt : Addr) : List (Str × V) := putF "lent" (.ref lt) (putF "clauses" (.ref cs) (putF "people" (.ref p) []))
theorem bf_eq (p cs lt : Addr) : bf p cs lt = ([("people", V.ref p), ("clauses", V.ref cs), ("lent", V.ref lt)] : List (Str × V)) := by
  unfold bf
  rfl
theorem bf_p (p cs lt : Addr) : (bf p cs lt).lookup ("people" : Str) = some (.ref p) := by rw [bf_eq] <;> rfl
theorem bf_cs (p cs lt : Addr) : (bf p cs lt).lookup ("clauses" : Str) = some (.ref cs) := by rw [bf_eq] <;> rfl
theorem bf_lt (p cs lt : Addr) : (bf p cs lt).lookup ("lent" : Str) = some (.ref lt) := by rw [bf_eq] <;> rfl
theorem bf_no (p cs lt : Addr) : (bf p cs lt).lookup ("adding" : Str) = none := by rw [bf_eq] <;> rfl
def cls (c : Addr) (two : Bool) : List V := if two = true then [V.ref c, V.ref c] else [V.ref c]
section
variable {P : Program} {w : World} {K : PySem.W.Frag} {mg : Str → Option Value} {base : Heap}
def RndOk (K : PySem.W.Frag) (H : Hp) (R : Rnd) : Prop := Made K H R.p R.sl R.su R.sm R.ps 50 2 R.S ∧ 100 ≤ R.S
def ClAt (T : TX P K mg) (H : Hp) (R : Rnd) (c : Addr) (k : Int) : Prop := (∃ dx, H c = some (.ins T.clause_C dx (cf R.p R.sl k R.su))) ∧ 50 ≤ k
structure BkAt (T : TX P K mg) (H : Hp) (R : Rnd) (b c : Addr) (k : Int) (two : Bool) : Prop where
  cl : ClAt T H R c k
  rd : RndOk K H R
  ob : ∃ dx cs lt, H b = some (.ins T.book_C dx (bf R.p cs lt)) ∧ SqT K H cs (cls c two) ∧ SqT K H lt []
/-- what never changes -/
def firm (T : TX P K mg) (o : HO) : Prop := (∃ xs, o = .tup xs) ∨ (∃ a u, o = .frz a u) ∨ (∃ dx fs, o = .ins T.book_C dx fs) ∨ ∃ dx fs, o = .ins T.clause_C dx fs
def Firm (T : TX P K mg) (H H' : Hp) : Prop := ∀ b o, H b = some o → firm T o → H' b = some o
theorem Firm.refl (T : TX P K mg) (H : Hp) : Firm T H H := fun _ _ h _ => h
theorem Firm.trans {T : TX P K mg} {H H1 H2 : Hp} (a : Firm T H H1) (b : Firm T H1 H2) : Firm T H H2 := fun c o h f => b c o (a c o h f) f
theorem Firm.same {T : TX P K mg} {H H1 : Hp} (a : Same H H1) : Firm T H H1 := fun c o h _ => a c o h
theorem Firm.seqT {T : TX P K mg} {H H' : Hp} (f : Firm T H H') {a : Addr} {xs : List V} (h : SqT K H a xs) : SqT K H' a xs := by
  rcases h with h | h
  · rcases h with h | ⟨o, h⟩
    · exact .inl (.inl (f _ _ h (.inl ⟨_, rfl⟩)))
    · exact .inl (.inr ⟨o, f _ _ h (.inr (.inl ⟨_, _, rfl⟩))⟩)
  · exact .inr h
theorem Firm.made {T : TX P K mg} {H H' : Hp} (f : Firm T H H') {p sl su sm : Addr} {ps : List Str} {cap n S : Int} (m : Made K H p sl su sm ps cap n S) : Made K H' p sl su sm ps cap n S :=
  ⟨f.seqT m.p_, f.seqT m.sl_, f.seqT m.su_, f.seqT m.sm_, m.w_, m.w1, m.c1, m.n1, m.n7, m.S1⟩
theorem Firm.rnd {T : TX P K mg} {H H' : Hp} (f : Firm T H H') {R : Rnd} (m : RndOk K H R) : RndOk K H' R := ⟨f.made m.1, m.2⟩
theorem Firm.cl {T : TX P K mg} {H H' : Hp} (f : Firm T H H') {R : Rnd} {c : Addr} {k : Int} (m : ClAt T H R c k) : ClAt T H' R c k := by
  obtain ⟨⟨dx, h⟩, h2⟩ := m
  exact ⟨⟨dx, f _ _ h (.inr (.inr (.inr ⟨_, _, rfl⟩)))⟩, h2⟩
theorem Firm.bk {T : TX P K mg} {H H' : Hp} (f : Firm T H H') {R : Rnd} {b c : Addr} {k : Int} {two : Bool} (m : BkAt T H R b c k two) : BkAt T H' R b c k two := by
  obtain ⟨h1, h2, dx, cs, lt, h3, h4, h5⟩ := m
  exact ⟨f.cl h1, f.rnd h2, dx, cs, lt, f _ _ h3 (.inr (.inr (.inl ⟨_, _, rfl⟩))), f.seqT h4, f.seqT h5⟩
/-- all kept but what is at d, where nothing firm stands -/
theorem Firm.but {T : TX P K mg} {H H' : Hp} {d : Addr} (h : ∀ b o, b ≠ d → H b = some o → H' b = some o) (hd : ∀ o, H d = some o → ¬ firm T o) : Firm T H H' := fun b o e f => by
  by_cases z : b = d
  · subst z
    exact absurd f (hd o e)
  · exact h b o z e
theorem strOk_word {x : Str} (h : WordOk x) : PyData.strOk x = true := by
  unfold PyData.strOk
  rw [Array.all_eq_true]
  intro i hi
  have hm : x.cps[i] ∈ x.cps.toList := by
    rw [← Array.getElem_toList]
    exact List.getElem_mem _
  have hl := h.2.2 _ hm
  have key : ∀ c ∈ letters.cps.toList, decide (c < 0x110000) = true := by decide +kernel
  exact key _ hl
theorem strsD_ok {ps : List Str} (h : ∀ x ∈ ps, WordOk x) : DOk 1 (strsD ps) := DOk.tup fun d hd => by
  obtain ⟨x, hx, rfl⟩ := List.mem_map.mp hd
  exact DOk.str 0 (strOk_word (h x hx))
theorem hu64 {k : Nat} {A : Around} (hr : Room k A) : A.units + 64 < cLine := hr.units
/-! ### is_clause -/
def spIsClause (T : TX P K mg) : Sp := fun vs H Q _ => ∃ (R : Rnd) (c : Addr) (k : Int), vs = [.ref R.p, .ref c] ∧ RndOk K H R ∧ ClAt T H R c k ∧ Q (.bl true) H
theorem tyx_clause (T : TX P K mg) {H : Hp} {c dx : Addr} {fs : List (Str × V)} (h : H c = some (.ins T.clause_C dx fs)) : TyX K H (.ref c) (.ref T.clause_C) := .base (.ins h T.clause_c T.clause_ca T.cc T.ct T.clause_cm)
theorem tyx_desk (T : TX P K mg) {H : Hp} {c dx : Addr} {fs : List (Str × V)} (h : H c = some (.ins T.desk_C dx fs)) : TyX K H (.ref c) (.ref T.desk_C) := .base (.ins h T.desk_c T.desk_ca T.cc T.ct T.desk_cm)
theorem tyx_book (T : TX P K mg) {H : Hp} {c dx : Addr} {fs : List (Str × V)} (h : H c = some (.ins T.book_C dx fs)) : TyX K H (.ref c) (.ref T.book_C) := .base (.ins h T.book_c T.book_ca T.cc T.ct T.book_cm)
theorem ok_isClause (T : TX P K mg) : FnOk P w K mg base CX0 1 T.isClause_f T.isClause_d ["people", "thing"] (spIsClause T) := by
  refine T.isClause_F.ok scIsClause (fun vs H Q E h => ?_) (fun cdv A outer s H vs Q E hr h => ?_)
  · obtain ⟨R, c, k, rfl, _⟩ := h
    rfl
  · obtain ⟨R, c, k, rfl, hR, ⟨⟨dx, hc⟩, hk⟩, q⟩ := h
    refine ⟨_, pss_one (ps_ret (pe_and (pe_callB call_isi (by rfl) T.z_isinstance (by decide +kernel) (pa_cons (pv 1) (pa_cons (pe_glob (v := .ref T.clause_C) rfl T.clause_g rfl) pa_nil))) (pe_one (pe_cmpR (op_eqD (hu64 hr)) (pe_fld (pv 1) rfl) (pv 0) (nomark _))))), ?_⟩
    refine ⟨_, rfl, _, .ref T.clause_C, .ref T.clause_C, .ref T.clause_C, true, rfl, .own _, tyx_clause T hc, T.clause_is, true, rfl, iteT ?_⟩
    have dk := strsD_ok hR.1.w_.1
    refine ⟨_, rfl, c, _, dx, _, _, rfl, hc, T.clause_c, T.clause_people, cf_p _ _ _ _, _, rfl, strsD R.ps, strsD R.ps, dp_strs hR.1.p_, dp_strs hR.1.p_, dk.shaped (by decide), dk.shaped (by decide), ?_⟩
    show Q (.bl (PyData.eqv (strsD R.ps) (strsD R.ps))) H
    rw [dk.refl]
    exact q
/-! ### are_lent, of nothing -/
def spAreLent (K : PySem.W.Frag) : Sp := fun vs H Q _ => ∃ (p t : Addr), vs = [.ref p, .ref t] ∧ SqT K H t [] ∧ ∀ H', Same H H' → Q (.bl true) H'
theorem ok_areLent (T : TX P K mg) : FnOk P w K mg base CX0 1 T.areLent_f T.areLent_d ["people", "thing"] (spAreLent K) := by
  refine T.areLent_F.ok scAreLent (fun vs H Q E h => ?_) (fun cdv A outer s H vs Q E hr h => ?_)
  · obtain ⟨p, t, rfl, _⟩ := h
    rfl
  · obtain ⟨p, t, rfl, ht, k⟩ := h
    refine ⟨_, pss_cons (ps_if (PW.pt (pw_or (pt_not (pt_val (pe_callB call_isiT (by rfl) T.z_isinstance (by decide +kernel) (pa_cons (pv 1) (pa_cons (pe_tup (pa_cons (pe_bltn (v := .ty "list") (by rfl) T.z_list (by decide +kernel) rfl) (pa_cons (pe_bltn (v := .ty "tuple") (by rfl) T.z_tuple (by decide +kernel) rfl) pa_nil))) pa_nil)))))
      (pw_or1 (pt_not (pt_val (pe_callB (cr_all rfl) (by rfl) T.z_all (by decide +kernel) (pa_cons (pe_lc (own := [("one", 2)]) (g := gName 2) (tt := tYes) (te := tFalse) rfl scAreLent.nd (pi_tup (pv 1)) (blkOk_by (N := ["people", "thing", "one"]) (sc := defScope sAreLent) (by decide +kernel)) (fun _ _ _ _ _ => pg_name (i := 2) scAreLent.nd rfl (Or.inl rfl)) (fun _ _ _ _ _ => pts_nil) (fun _ _ _ _ _ => pe_never)) pa_nil))))))) (pss_one ps_never) pss_nil)
      (pss_one (ps_ret (pe_cmpR op_eq (pe_lenSet rfl (by rfl) T.z_len (by rfl) T.z_set (pv 1)) (pe_callB call_len_seq (by rfl) T.z_len PySem.boot_len (pa_cons (pv 1) pa_nil)) (nomark _)))), ?_⟩
    refine ⟨_, rfl, (by show 2 ≤ sizeLine; decide), fun tp htp => ?_⟩
    refine ⟨_, tp, _, .type "tuple", [.type "list", .type "tuple"], true, rfl, upd_same, .cons (.ty _) (.cons (.ty _) .nil), tyx_tup (same_seqT (same_upd (Same.refl H) htp) ht), kitAny_cons (kit_ty (r := false) (by decide +kernel)) (fun _ => kitAny_cons (kit_ty (r := true) (by decide +kernel)) (fun z => nomatch z) (fun _ => rfl)) (fun z => nomatch z), true, rfl, iteF ?_⟩
    have s1 := same_upd (o := .tup [V.ty "list", V.ty "tuple"]) (Same.refl H) htp
    refine ⟨_, rfl, t, rfl, ⟨_, same_seqT s1 ht⟩, fun D new => ?_⟩
    dsimp only [tNil]
    refine lc_allT (walk_tup (xs := [])) (fun _ _ s q => same_seqT s q) (same_seqT s1 ht) new (show 0 < sizeLine by decide) (fun i v H2 H3 Pk hi s2 _ y hP => absurd hi (Nat.not_lt_zero _)) (fun H2 s2 => ⟨true, rfl, iteF ?_⟩)
    have s12 := s1.trans s2
    refine ⟨_, rfl, t, [], rfl, .inr (same_seqT s12 ht), by decide, _, rfl, t, [], rfl, .inr (same_seqT s12 ht), rfl, ?_⟩
    exact k _ s12
end
end Wm
/-! T6 -/
namespace Wm
open PySem PySem.Spec PyProof.Rows L2
section
variable {P : Program} {w : World} {K : PySem.W.Frag} {mg : Str → Option Value} {base : Heap}
theorem but_seqT {H H' : Hp} {b C dx : Addr} {fs : List (Str × V)} (hb : H b = some (.ins C dx fs)) (s : ∀ z o, z ≠ b → H z = some o → H' z = some o) {a : Addr} {xs : List V} (h : SqT K H a xs) : SqT K H' a xs := by
  rcases h with h | h
  · rcases h with h | ⟨o, h⟩
    · exact .inl (.inl (s _ _ (ne_of h hb (by intro z; cases z)) h))
    · exact .inl (.inr ⟨o, s _ _ (ne_of h hb (by intro z; cases z)) h⟩)
  · exact .inr h
theorem but_rnd {H H' : Hp} {b C dx : Addr} {fs : List (Str × V)} (hb : H b = some (.ins C dx fs)) (s : ∀ z o, z ≠ b → H z = some o → H' z = some o) {R : Rnd} (m : RndOk K H R) : RndOk K H' R :=
  ⟨⟨but_seqT hb s m.1.p_, but_seqT hb s m.1.sl_, but_seqT hb s m.1.su_, but_seqT hb s m.1.sm_, m.1.w_, m.1.w1, m.1.c1, m.1.n1, m.1.n7, m.1.S1⟩, m.2⟩
theorem but_cl {T : TX P K mg} {H H' : Hp} {b C dx : Addr} {fs : List (Str × V)} (hb : H b = some (.ins C dx fs)) (hC : C ≠ T.clause_C) (s : ∀ z o, z ≠ b → H z = some o → H' z = some o) {R : Rnd} {c : Addr} {k : Int} (m : ClAt T H R c k) : ClAt T H' R c k := by
  obtain ⟨⟨dx', h⟩, h2⟩ := m
  refine ⟨⟨dx', s _ _ (fun z => ?_) h⟩, h2⟩
  rw [z, hb] at h
  injection h with h
  injection h with h
  exact hC h
theorem but_seqL {H H' : Hp} {b C dx : Addr} {fs : List (Str × V)} (hb : H b = some (.ins C dx fs)) (s : ∀ z o, z ≠ b → H z = some o → H' z = some o) {a : Addr} {xs : List V} (h : SqL K H a xs) : SqL K H' a xs := by
  rcases h with h | h
  · rcases h with h | ⟨o, h⟩
    · exact .inl (.inl (s _ _ (ne_of h hb (by intro z; cases z)) h))
    · exact .inl (.inr ⟨o, s _ _ (ne_of h hb (by intro z; cases z)) h⟩)
  · exact .inr h
/-- kept but b, then a new thing, then b written -/
theorem but_new {H H1 : Hp} {b p : Addr} {o : HO} (s : ∀ z o, z ≠ b → H z = some o → H1 z = some o) (hp : H1 p = none) (hb : ∃ o, H1 b = some o) : (∀ z o', z ≠ b → H z = some o' → upd H1 p o z = some o') ∧ p ≠ b := by
  obtain ⟨ob, hb⟩ := hb
  have n : p ≠ b := fun e => by rw [e, hb] at hp; cases hp
  refine ⟨fun z o' hz e => ?_, n⟩
  rw [upd_ne (ne_of_none (s z o' hz e) hp)]
  exact s z o' hz e
theorem but_upd {H H1 : Hp} {b : Addr} {o : HO} (s : ∀ z o, z ≠ b → H z = some o → H1 z = some o) : ∀ z o', z ≠ b → H z = some o' → upd H1 b o z = some o' := fun z o' hz e => by
  rw [upd_ne hz]
  exact s z o' hz e
/-! ### Book.__init__ -/
def spBookInit (T : TX P K mg) : Sp := fun vs H Q _ => ∃ (R : Rnd) (b dx c a lt : Addr) (k : Int) (two : Bool), vs = [.ref b, .ref R.p, .ref a, .ref lt] ∧ H b = some (.ins T.book_C dx []) ∧ RndOk K H R ∧ ClAt T H R c k ∧
  ((two = false ∧ SqL K H a [.ref c]) ∨ (two = true ∧ SqT K H a [.ref c, .ref c])) ∧ SqT K H lt [] ∧ ∀ H', BkAt T H' R b c k two → (∀ z o, z ≠ b → H z = some o → H' z = some o) → Q .non H'
theorem book_end (T : TX P K mg) {H H1 : Hp} {R : Rnd} {b dx c cs lt : Addr} {k : Int} {two : Bool} {Q : VK} (hb : H b = some (.ins T.book_C dx [])) (hR : RndOk K H R) (hc : ClAt T H R c k)
    (q : ∀ H', BkAt T H' R b c k two → (∀ z o, z ≠ b → H z = some o → H' z = some o) → Q .non H') (s : ∀ z o, z ≠ b → H z = some o → H1 z = some o) (h1 : H1 b = some (.ins T.book_C dx (bf R.p cs lt))) (h2 : SqT K H1 cs (cls c two)) (h3 : SqT K H1 lt []) : Q .non H1 :=
  q H1 ⟨but_cl hb T.ne_bc s hc, but_rnd hb s hR, dx, cs, lt, h1, h2, h3⟩ s
theorem ok_bookInit (T : TX P K mg) : FnOk P w K mg base CX0 4 T.bookInit_f T.bookInit_d ["self", "people", "clauses", "lent"] (spBookInit T) := by
  obtain ⟨tM, hM⟩ := T.k_MOST_CLAUSES
  refine T.bookInit_F.ok scBookInit (fun vs H Q E h => ?_) (fun cdv A outer s H vs Q E hr h => ?_)
  · obtain ⟨R, b, dx, c, a, lt, k, two, rfl, _⟩ := h
    rfl
  · obtain ⟨R, b, dx, c, a, lt, k, two, rfl, hb, hR, hc, hcl, hlt, q⟩ := h
    rcases hcl with ⟨rfl, ha⟩ | ⟨rfl, ha⟩
    · refine ⟨_, PSs.nox (pss_cons (ps_expr (pe_call (ok_needPeople T) (hr.mono (by decide)) (by rfl) T.needPeople_g T.needPeople_F.kp T.needPeople_b .nil pass0 (pa_cons (pv 1) pa_nil)))
        (pss_cons (ps_if (PW.pt (pw_or (pt_not (pt_val (pe_callB call_isiT (by rfl) T.z_isinstance (by decide +kernel) (pa_cons (pv 2) (pa_cons (pe_tup (pa_cons (pe_bltn (v := .ty "list") (by rfl) T.z_list (by decide +kernel) rfl) (pa_cons (pe_bltn (v := .ty "tuple") (by rfl) T.z_tuple (by decide +kernel) rfl) pa_nil))) pa_nil)))))
          (pw_or1 (pt_not (pt_chain op_le op_le pe_int (pe_callB call_len_seq (by rfl) T.z_len PySem.boot_len (pa_cons (pv 2) pa_nil)) (pe_glob (v := .int 5) rfl hM ⟨_, rfl⟩)))))) (pss_one ps_never) pss_nil)
        (pss_cons (ps_for PassesOwn.never rfl (pi_enum (by rfl) T.z_enumerate (pa_cons (pv 2) pa_nil)) (pg_tup (by rfl) (pgs_cons (pg_name (i := 4) scBookInit.nd rfl (Or.inl rfl)) (pgs_cons (pg_name (i := 5) scBookInit.nd rfl (Or.inl rfl)) pgs_nil)))
          (pss_one (ps_if (pt_not (pt_val (pe_call (ok_isClause T) (hr.mono (by decide)) (by rfl) T.isClause_g T.isClause_F.kp T.isClause_b .nil pass0 (pa_cons (pv 1) (pa_cons (pv 5) pa_nil))))) (pss_one ps_never) pss_nil)))
        (pss_cons (ps_if (pt_not (pt_val (pe_call (ok_areLent T) (hr.mono (by decide)) (by rfl) T.areLent_g T.areLent_F.kp T.areLent_b .nil pass0 (pa_cons (pv 1) (pa_cons (pv 3) pa_nil))))) (pss_one ps_never) pss_nil)
        (pss_cons (ps_fld (pv 0) (pv 1) rfl) (pss_cons (ps_fld (pv 0) (pe_callTy call_tuple_of (by rfl) T.z_tuple (by decide +kernel) (pa_cons (pv 2) pa_nil)) rfl) (pss_one (ps_fld (pv 0) (pe_callTy call_tuple_of (by rfl) T.z_tuple (by decide +kernel) (pa_cons (pe_callB cr_sort0 (by rfl) T.z_sorted (by decide +kernel) (pa_cons (pv 3) pa_nil)) pa_nil)) rfl)))))))), ?_⟩
      refine ⟨_, rfl, R.p, R.ps, rfl, hR.1.p_, hR.1.w_, hR.1.w1, fun H1 s1 => ?_⟩
      refine ⟨_, rfl, (by show 2 ≤ sizeLine; decide), fun tp htp => ?_⟩
      have ha1 := s1.seq ha
      have s2 := same_upd (o := .tup [V.ty "list", V.ty "tuple"]) s1 (s1.free htp)
      have ty : TyX K (upd H1 tp (.tup [V.ty "list", V.ty "tuple"])) (.ref a) (.type "list") := by
        have ha2 := s2.seq ha
        rcases ha2 with (h | ⟨o, h⟩) | ⟨o, its, n, h, c, _⟩
        · exact .base (.lst h)
        · exact .base (.frz h)
        · exact .kList h c
      refine ⟨_, tp, _, .type "list", [.type "list", .type "tuple"], true, rfl, upd_same, .cons (.ty _) (.cons (.ty _) .nil), ty, kitAny_cons (kit_ty (r := true) (by decide +kernel)) (fun z => nomatch z) (fun _ => rfl), true, rfl, iteF ?_⟩
      refine ⟨_, rfl, a, _, rfl, .inl (s2.seq ha), _, _, rfl, rfl, true, bl_of (show (1 : Int) ≤ 1 by decide), iteT ⟨_, _, rfl, rfl, true, bl_of (show (1 : Int) ≤ 5 by decide), iteF ?_⟩⟩
      refine ⟨_, rfl, a, _, rfl, s2.seq ha, for_it walk_enum (fun i σ H' => Same H H' ∧ ∃ v4 v5, σ = [some (.ref b), some (.ref R.p), some (.ref a), some (.ref lt), v4, v5]) ⟨s2, _, _, rfl⟩ (fun i σ H' _ h => h.1.seq ha) ?_ ?_⟩
      · rintro i x σ H3 H4 hi ⟨s3, v4, v5, rfl⟩ y
        obtain ⟨t, x1, x2, rfl, ht0, rfl, e1, e2⟩ := y
        have h0 : i = 0 := by
          have : i < 1 := hi
          omega
        subst h0
        cases e1
        cases e2
        have s4 := same_upd (o := .tup [V.int (0 : Nat), V.ref c]) s3 (s3.free ht0)
        refine ⟨t, _, rfl, SqT.of upd_same, rfl, _, _, rfl, _, _, rfl, rfl, ?_⟩
        refine ⟨_, rfl, _, rfl, R, c, k, rfl, Firm.rnd (T := T) (Firm.same s4) hR, Firm.cl (Firm.same s4) hc, true, rfl, iteF ?_⟩
        exact ⟨s4, _, _, rfl⟩
      · rintro σ H3 ⟨s3, v4, v5, rfl⟩
        refine ⟨_, rfl, _, rfl, R.p, lt, rfl, same_seqT s3 hlt, fun H4 s4 => ⟨true, rfl, iteF ?_⟩⟩
        have s5 := s3.trans s4
        have hb5 := s5 _ _ hb
        refine ⟨_, rfl, _, rfl, b, _, dx, [], rfl, hb5, T.book_c, T.book_people, (by show 0 < 1000; decide), ?_⟩
        have s6 : ∀ z o, z ≠ b → H z = some o → upd H4 b (.ins T.book_C dx (putF "people" (.ref R.p) [])) z = some o := but_upd fun z o _ e => s5 z o e
        refine ⟨_, rfl, a, _, rfl, .inl ⟨but_seqL hb s6 ha, fun cs hcs => ?_⟩⟩
        obtain ⟨s7, n7⟩ := but_new (o := .tup [.ref c]) s6 hcs ⟨_, upd_same⟩
        refine ⟨_, rfl, b, _, dx, _, rfl, by rw [upd_ne n7.symm, upd_same], T.book_c, T.book_clauses, (by show 1 < 1000; decide), ?_⟩
        have s8 := but_upd (o := .ins T.book_C dx (putF "clauses" (.ref cs) (putF "people" (.ref R.p) []))) s7
        refine ⟨_, rfl, lt, rfl, but_seqT hb s8 hlt, fun l hl => ⟨l, _, rfl, .inl ⟨SqL.of upd_same, fun lt' hlt' => ?_⟩⟩⟩
        obtain ⟨s9, n9⟩ := but_new (o := .lst []) s8 hl ⟨_, upd_same⟩
        obtain ⟨s10, n10⟩ := but_new (o := .tup []) s9 hlt' ⟨_, by rw [upd_ne n9.symm, upd_same]⟩
        refine ⟨_, rfl, b, _, dx, _, rfl, by rw [upd_ne n10.symm, upd_ne n9.symm, upd_same], T.book_c, T.book_lent, (by show 2 < 1000; decide), ?_⟩
        have ncl : cs ≠ l := fun e => by
          rw [← e, upd_ne n7, upd_same] at hl
          cases hl
        have ncl' : cs ≠ lt' := fun e => by
          rw [← e, upd_ne ncl, upd_ne n7, upd_same] at hlt'
          cases hlt'
        exact book_end T (cs := cs) (lt := lt') hb hR hc q (but_upd s10) upd_same (SqT.of (by rw [upd_ne n7, upd_ne ncl', upd_ne ncl, upd_ne n7, upd_same] <;> rfl)) (SqT.of (by rw [upd_ne n10, upd_same]))
    · refine ⟨_, PSs.nox (pss_cons (ps_expr (pe_call (ok_needPeople T) (hr.mono (by decide)) (by rfl) T.needPeople_g T.needPeople_F.kp T.needPeople_b .nil pass0 (pa_cons (pv 1) pa_nil)))
        (pss_cons (ps_if (PW.pt (pw_or (pt_not (pt_val (pe_callB call_isiT (by rfl) T.z_isinstance (by decide +kernel) (pa_cons (pv 2) (pa_cons (pe_tup (pa_cons (pe_bltn (v := .ty "list") (by rfl) T.z_list (by decide +kernel) rfl) (pa_cons (pe_bltn (v := .ty "tuple") (by rfl) T.z_tuple (by decide +kernel) rfl) pa_nil))) pa_nil)))))
          (pw_or1 (pt_not (pt_chain op_le op_le pe_int (pe_callB call_len_seq (by rfl) T.z_len PySem.boot_len (pa_cons (pv 2) pa_nil)) (pe_glob (v := .int 5) rfl hM ⟨_, rfl⟩)))))) (pss_one ps_never) pss_nil)
        (pss_cons (ps_for PassesOwn.never rfl (pi_enumT (by rfl) T.z_enumerate (pa_cons (pv 2) pa_nil)) (pg_tup (by rfl) (pgs_cons (pg_name (i := 4) scBookInit.nd rfl (Or.inl rfl)) (pgs_cons (pg_name (i := 5) scBookInit.nd rfl (Or.inl rfl)) pgs_nil)))
          (pss_one (ps_if (pt_not (pt_val (pe_call (ok_isClause T) (hr.mono (by decide)) (by rfl) T.isClause_g T.isClause_F.kp T.isClause_b .nil pass0 (pa_cons (pv 1) (pa_cons (pv 5) pa_nil))))) (pss_one ps_never) pss_nil)))
        (pss_cons (ps_if (pt_not (pt_val (pe_call (ok_areLent T) (hr.mono (by decide)) (by rfl) T.areLent_g T.areLent_F.kp T.areLent_b .nil pass0 (pa_cons (pv 1) (pa_cons (pv 3) pa_nil))))) (pss_one ps_never) pss_nil)
        (pss_cons (ps_fld (pv 0) (pv 1) rfl) (pss_cons (ps_fld (pv 0) (pe_callTy call_tuple_of (by rfl) T.z_tuple (by decide +kernel) (pa_cons (pv 2) pa_nil)) rfl) (pss_one (ps_fld (pv 0) (pe_callTy call_tuple_of (by rfl) T.z_tuple (by decide +kernel) (pa_cons (pe_callB cr_sort0 (by rfl) T.z_sorted (by decide +kernel) (pa_cons (pv 3) pa_nil)) pa_nil)) rfl)))))))), ?_⟩
      refine ⟨_, rfl, R.p, R.ps, rfl, hR.1.p_, hR.1.w_, hR.1.w1, fun H1 s1 => ?_⟩
      refine ⟨_, rfl, (by show 2 ≤ sizeLine; decide), fun tp htp => ?_⟩
      have s2 := same_upd (o := .tup [V.ty "list", V.ty "tuple"]) s1 (s1.free htp)
      refine ⟨_, tp, _, .type "tuple", [.type "list", .type "tuple"], true, rfl, upd_same, .cons (.ty _) (.cons (.ty _) .nil), tyx_tup (same_seqT s2 ha), kitAny_cons (kit_ty (r := false) (by decide +kernel)) (fun _ => kitAny_cons (kit_ty (r := true) (by decide +kernel)) (fun z => nomatch z) (fun _ => rfl)) (fun z => nomatch z), true, rfl, iteF ?_⟩
      refine ⟨_, rfl, a, _, rfl, .inr (same_seqT s2 ha), _, _, rfl, rfl, true, bl_of (show (1 : Int) ≤ 2 by decide), iteT ⟨_, _, rfl, rfl, true, bl_of (show (2 : Int) ≤ 5 by decide), iteF ?_⟩⟩
      refine ⟨_, rfl, a, _, rfl, same_seqT s2 ha, for_it walk_enumT (fun i σ H' => Same H H' ∧ ∃ v4 v5, σ = [some (.ref b), some (.ref R.p), some (.ref a), some (.ref lt), v4, v5]) ⟨s2, _, _, rfl⟩ (fun i σ H' _ h => same_seqT h.1 ha) ?_ ?_⟩
      · rintro i x σ H3 H4 hi ⟨s3, v4, v5, rfl⟩ y
        obtain ⟨t, x1, x2, rfl, ht0, rfl, e1, e2⟩ := y
        have e2' : x2 = V.ref c := by
          have e2 : ([V.ref c, V.ref c] : List V)[i]? = some x2 := e2
          match i, e2 with
          | 0, e2 => exact (Option.some.inj e2).symm
          | 1, e2 => exact (Option.some.inj e2).symm
        subst e2'
        cases e1
        have s4 := same_upd (o := .tup [V.int (i : Nat), V.ref c]) s3 (s3.free ht0)
        refine ⟨t, _, rfl, SqT.of upd_same, rfl, _, _, rfl, _, _, rfl, rfl, ?_⟩
        refine ⟨_, rfl, _, rfl, R, c, k, rfl, Firm.rnd (T := T) (Firm.same s4) hR, Firm.cl (Firm.same s4) hc, true, rfl, iteF ?_⟩
        exact ⟨s4, _, _, rfl⟩
      · rintro σ H3 ⟨s3, v4, v5, rfl⟩
        refine ⟨_, rfl, _, rfl, R.p, lt, rfl, same_seqT s3 hlt, fun H4 s4 => ⟨true, rfl, iteF ?_⟩⟩
        have s5 := s3.trans s4
        have hb5 := s5 _ _ hb
        refine ⟨_, rfl, _, rfl, b, _, dx, [], rfl, hb5, T.book_c, T.book_people, (by show 0 < 1000; decide), ?_⟩
        have s6 : ∀ z o, z ≠ b → H z = some o → upd H4 b (.ins T.book_C dx (putF "people" (.ref R.p) [])) z = some o := but_upd fun z o _ e => s5 z o e
        refine ⟨_, rfl, a, _, rfl, .inr ⟨but_seqT hb s6 ha, ?_⟩⟩
        refine ⟨_, rfl, b, _, dx, _, rfl, upd_same, T.book_c, T.book_clauses, (by show 1 < 1000; decide), ?_⟩
        have s8 := but_upd (o := .ins T.book_C dx (putF "clauses" (.ref a) (putF "people" (.ref R.p) []))) s6
        refine ⟨_, rfl, lt, rfl, but_seqT hb s8 hlt, fun l hl => ⟨l, _, rfl, .inl ⟨SqL.of upd_same, fun lt' hlt' => ?_⟩⟩⟩
        obtain ⟨s9, n9⟩ := but_new (o := .lst []) s8 hl ⟨_, upd_same⟩
        obtain ⟨s10, n10⟩ := but_new (o := .tup []) s9 hlt' ⟨_, by rw [upd_ne n9.symm, upd_same]⟩
        refine ⟨_, rfl, b, _, dx, _, rfl, by rw [upd_ne n10.symm, upd_ne n9.symm, upd_same], T.book_c, T.book_lent, (by show 2 < 1000; decide), ?_⟩
        exact book_end T (cs := a) (lt := lt') hb hR hc q (but_upd s10) upd_same (but_seqT hb (but_upd s10) ha) (SqT.of (by rw [upd_ne n10, upd_same]))
end
end Wm
/-! T7 -/
namespace Wm
open PySem PySem.Spec PyProof.Rows L2
/-! ### rows -/
/-- the row at ro holds the payments (1, 0, m0), (2, 0, m1), .. -/
def RowAt (K : PySem.W.Frag) (H : Hp) (ro : Addr) (am : List Int) : Prop := ∃ as : List Addr, as.length = am.length ∧ SqT K H ro (as.map V.ref) ∧ ∀ (i : Nat) (a : Addr) (m : Int), as[i]? = some a → am[i]? = some m → SqT K H a [.int ((i : Int) + 1), .int 0, .int m]
def AmOk (am : List Int) : Prop := (∀ m ∈ am, 1 ≤ m ∧ m ≤ 50) ∧ am.length ≤ 12
def payD (i : Nat) (m : Int) : PyData := .tuple [.int ((i : Int) + 1), .int 0, .int m]
def rowDs (am : List Int) : List PyData := am.mapIdx payD
def rowD (am : List Int) : PyData := .tuple (rowDs am)
theorem dpAll_at {K : PySem.W.Frag} {H : Hp} : ∀ (vs : List V) (ds : List PyData), vs.length = ds.length → (∀ (i : Nat) v d, vs[i]? = some v → ds[i]? = some d → Dp K H v d) → DpAll K H vs ds
  | [], [], _, _ => .nil
  | v :: vs, d :: ds, hl, h => .cons (h 0 v d rfl rfl) (dpAll_at vs ds (by simpa using hl) fun i v d e1 e2 => h (i + 1) v d (by simpa using e1) (by simpa using e2))
  | [], _ :: _, hl, _ => by simp at hl
  | _ :: _, [], hl, _ => by simp at hl
theorem RowAt.dp {K : PySem.W.Frag} {H : Hp} {ro : Addr} {am : List Int} (h : RowAt K H ro am) : Dp K H (.ref ro) (rowD am) := by
  obtain ⟨as, hl, hs, hp⟩ := h
  refine .tup hs (dpAll_at _ _ (by unfold rowDs; simp [hl]) fun i v d e1 e2 => ?_)
  rw [List.getElem?_map] at e1
  obtain ⟨a, ea, rfl⟩ := Option.map_eq_some_iff.mp e1
  unfold rowDs at e2
  rw [List.getElem?_mapIdx] at e2
  obtain ⟨m, em, rfl⟩ := Option.map_eq_some_iff.mp e2
  exact .tup (hp i a m ea em) (.cons (.int _) (.cons (.int _) (.cons (.int _) .nil)))
theorem rowD_ok (am : List Int) : DOk 2 (rowD am) := DOk.tup fun d hd => by
  unfold rowDs at hd
  obtain ⟨i, hi, rfl⟩ := List.mem_mapIdx.mp hd
  exact DOk.tup fun e he => by
    simp only [List.mem_cons, List.not_mem_nil, or_false] at he
    rcases he with rfl | rfl | rfl <;> exact DOk.int 0 _
theorem eqvAll_len : ∀ {xs ys : List PyData}, PyData.eqvAll xs ys = true → xs.length = ys.length
  | [], [], _ => rfl
  | x :: xs, y :: ys, h => by
    rw [PyData.eqvAll, Bool.and_eq_true] at h
    rw [List.length_cons, List.length_cons, eqvAll_len h.2]
  | [], _ :: _, h => by simp [PyData.eqvAll] at h
  | _ :: _, [], h => by simp [PyData.eqvAll] at h
theorem eqvAll_at : ∀ {xs ys : List PyData} {i : Nat} {x y : PyData}, PyData.eqvAll xs ys = true → xs[i]? = some x → ys[i]? = some y → PyData.eqv x y = true
  | x :: xs, y :: ys, 0, _, _, h, e1, e2 => by
    rw [PyData.eqvAll, Bool.and_eq_true] at h
    simp at e1 e2
    subst e1 e2
    exact h.1
  | x :: xs, y :: ys, i + 1, _, _, h, e1, e2 => by
    rw [PyData.eqvAll, Bool.and_eq_true] at h
    exact eqvAll_at h.2 (by simpa using e1) (by simpa using e2)
  | [], _, i, _, _, h, e1, _ => by simp at e1
  | _ :: _, [], i, _, _, h, _, e2 => by simp at e2
/-- rows are equal as their amounts are -/
theorem row_eqv (am bm : List Int) : PyData.eqv (rowD am) (rowD bm) = decide (am = bm) := by
  by_cases h : am = bm
  · subst h
    rw [decide_eq_true rfl]
    exact (rowD_ok am).refl
  · rw [decide_eq_false h]
    cases e : PyData.eqv (rowD am) (rowD bm) with
    | false => rfl
    | true =>
      exfalso
      apply h
      have e' : PyData.eqvAll (rowDs am) (rowDs bm) = true := by
        unfold rowD at e
        rw [PyData.eqv] at e
        exact e
      have hl : am.length = bm.length := by
        have := eqvAll_len e'
        unfold rowDs at this
        simpa using this
      apply List.ext_getElem? 
      intro i
      by_cases hi : i < am.length
      · have hi2 : i < bm.length := by omega
        have q := eqvAll_at (i := i) (x := payD i am[i]) (y := payD i bm[i]) e' (by unfold rowDs; rw [List.getElem?_mapIdx, List.getElem?_eq_getElem hi]; rfl) (by unfold rowDs; rw [List.getElem?_mapIdx, List.getElem?_eq_getElem hi2]; rfl)
        rw [List.getElem?_eq_getElem hi, List.getElem?_eq_getElem hi2]
        have q2 : am[i] = bm[i] := by
          unfold payD at q
          simpa [PyData.eqv, PyData.eqvAll] using q
        rw [q2]
      · rw [List.getElem?_eq_none (by omega), List.getElem?_eq_none (by omega)]
theorem RowAt.by_seq {K : PySem.W.Frag} {H H' : Hp} (f : ∀ a xs, SqT K H a xs → SqT K H' a xs) {ro : Addr} {am : List Int} (h : RowAt K H ro am) : RowAt K H' ro am := by
  obtain ⟨as, hl, hs, hp⟩ := h
  exact ⟨as, hl, f _ _ hs, fun i a m e1 e2 => f _ _ (hp i a m e1 e2)⟩
theorem RowAt.same {K : PySem.W.Frag} {H H' : Hp} (s : Same H H') {ro : Addr} {am : List Int} (h : RowAt K H ro am) : RowAt K H' ro am := h.by_seq fun _ _ => same_seqT s
theorem RowAt.nil {K : PySem.W.Frag} {H : Hp} {ro : Addr} (h : SqT K H ro []) : RowAt K H ro [] := ⟨[], rfl, h, fun i a m e _ => by simp at e⟩
def df (b ro : Addr) : List (Str × V) := putF "own_row" (.ref ro) (putF "own_book" (.ref b) [])
theorem df_eq (b ro : Addr) : df b ro = ([("own_book", V.ref b), ("own_row", V.ref ro)] : List (Str × V)) := by
  unfold df
  rfl
theorem df_b (b ro : Addr) : (df b ro).lookup ("own_book" : Str) = some (.ref b) := by rw [df_eq] <;> rfl
theorem df_r (b ro : Addr) : (df b ro).lookup ("own_row" : Str) = some (.ref ro) := by rw [df_eq] <;> rfl
theorem df_no (b ro : Addr) {m : Str} (h1 : (m == ("own_book" : Str)) = false) (h2 : (m == ("own_row" : Str)) = false) : (df b ro).lookup m = none := by
  rw [df_eq]
  simp [List.lookup, h1, h2]
theorem df_put (b ro r2 : Addr) : putF "own_row" (.ref r2) (df b ro) = df b r2 := by
  rw [df_eq, df_eq]
  rfl
section
variable {P : Program} {w : World} {K : PySem.W.Frag} {mg : Str → Option Value} {base : Heap}
/-- a desk over the book at b, its row at ro -/
def DkAt (T : TX P K mg) (H : Hp) (d b ro : Addr) : Prop := ∃ dx, H d = some (.ins T.desk_C dx (df b ro))
theorem Firm.desk {T : TX P K mg} {H H' : Hp} {d b ro : Addr} (hd : DkAt T H d b ro) (h : ∀ z o, z ≠ d → H z = some o → H' z = some o) : Firm T H H' := Firm.but h fun o e => by
  obtain ⟨dx, hd⟩ := hd
  rw [hd] at e
  cases e
  rintro (⟨_, z⟩ | ⟨_, _, z⟩ | ⟨_, _, z⟩ | ⟨_, _, z⟩)
  · cases z
  · cases z
  · injection z with z
    exact T.ne_db z
  · injection z with z
    exact T.ne_dc z
theorem Firm.row {T : TX P K mg} {H H' : Hp} (f : Firm T H H') {ro : Addr} {am : List Int} (h : RowAt K H ro am) : RowAt K H' ro am := h.by_seq fun _ _ => f.seqT
/-! ### Desk -/
def spDeskInit (T : TX P K mg) : Sp := fun vs H Q _ => ∃ (d dx b : Addr), vs = [.ref d, .ref b] ∧ H d = some (.ins T.desk_C dx []) ∧ ∀ H' ro, DkAt T H' d b ro → RowAt K H' ro [] → (∀ z o, z ≠ d → H z = some o → H' z = some o) → Q .non H'
theorem ok_deskInit (T : TX P K mg) : FnOk P w K mg base CX0 1 T.deskInit_f T.deskInit_d ["self", "book"] (spDeskInit T) := by
  refine T.deskInit_F.ok scDeskInit (fun vs H Q E h => ?_) (fun cdv A outer s H vs Q E hr h => ?_)
  · obtain ⟨d, dx, b, rfl, _⟩ := h
    rfl
  · obtain ⟨d, dx, b, rfl, hd, k⟩ := h
    refine ⟨_, pss_cons (ps_fld (pv 0) (pv 1) rfl) (pss_one (ps_fld (pv 0) (pe_tup pa_nil) rfl)), ?_⟩
    refine ⟨_, rfl, _, rfl, d, _, dx, [], rfl, hd, T.desk_c, T.desk_own_book, (by show 0 < 1000; decide), Nat.zero_le _, fun ro hro => ?_⟩
    have s1 := but_upd (b := d) (o := .ins T.desk_C dx (putF "own_book" (.ref b) [])) (H := H) (H1 := H) fun z o _ e => e
    obtain ⟨s2, n2⟩ := but_new (o := .tup []) s1 hro ⟨_, upd_same⟩
    refine ⟨_, rfl, d, _, dx, _, rfl, by rw [upd_ne n2.symm, upd_same], T.desk_c, T.desk_own_row, (by show 1 < 1000; decide), ?_⟩
    exact k _ ro ⟨dx, upd_same⟩ (RowAt.nil (SqT.of (by rw [upd_ne n2, upd_same]))) (but_upd s2)
def spDeskRow (T : TX P K mg) : Sp := fun vs H Q _ => ∃ (d b ro : Addr), vs = [.ref d] ∧ DkAt T H d b ro ∧ Q (.ref ro) H
theorem ok_deskRow (T : TX P K mg) : FnOk P w K mg base CX0 1 T.deskRow_f T.deskRow_d ["self"] (spDeskRow T) := by
  refine T.deskRow_F.ok scDeskRow (fun vs H Q E h => ?_) (fun cdv A outer s H vs Q E hr h => ?_)
  · obtain ⟨d, b, ro, rfl, _⟩ := h
    rfl
  · obtain ⟨d, b, ro, rfl, ⟨dx, hd⟩, k⟩ := h
    exact ⟨_, pss_one (ps_ret (pe_fld (pv 0) rfl)), _, rfl, d, _, dx, _, _, rfl, hd, T.desk_c, T.desk_own_row, df_r _ _, k⟩
def spDeskLen (T : TX P K mg) : Sp := fun vs H Q _ => ∃ (d b ro : Addr) (am : List Int), vs = [.ref d] ∧ DkAt T H d b ro ∧ RowAt K H ro am ∧ Q (.int am.length) H
theorem ok_deskLen (T : TX P K mg) : FnOk P w K mg base CX0 1 T.deskLen_f T.deskLen_d ["self"] (spDeskLen T) := by
  refine T.deskLen_F.ok scDeskLen (fun vs H Q E h => ?_) (fun cdv A outer s H vs Q E hr h => ?_)
  · obtain ⟨d, b, ro, am, rfl, _⟩ := h
    rfl
  · obtain ⟨d, b, ro, am, rfl, ⟨dx, hd⟩, ⟨as, hl, hs, hp⟩, k⟩ := h
    refine ⟨_, pss_one (ps_ret (pe_callB call_len_seq (by rfl) T.z_len PySem.boot_len (pa_cons (pe_fld (pv 0) rfl) pa_nil))), _, rfl, d, _, dx, _, _, rfl, hd, T.desk_c, T.desk_own_row, df_r _ _, ro, _, rfl, .inr hs, ?_⟩
    rw [List.length_map, hl]
    exact k
/-- day(): as many as there are payments -/
def spDeskDay (T : TX P K mg) : Sp := fun vs H Q _ => ∃ (d b ro : Addr) (am : List Int), vs = [.ref d] ∧ DkAt T H d b ro ∧ RowAt K H ro am ∧ ∀ H', Same H H' → Q (.int am.length) H'
theorem ok_deskDay (T : TX P K mg) : FnOk P w K mg base CX0 1 T.deskDay_f T.deskDay_d ["self"] (spDeskDay T) := by
  refine T.deskDay_F.ok scDeskDay (fun vs H Q E h => ?_) (fun cdv A outer s H vs Q E hr h => ?_)
  · obtain ⟨d, b, ro, am, rfl, _⟩ := h
    rfl
  · obtain ⟨d, b, ro, am, rfl, ⟨dx, hd⟩, hrow, k⟩ := h
    refine ⟨_, pss_one (ps_ret (pe_ifExp (pt_cmpR (op_neD (hu64 hr)) (pe_fld (pv 0) rfl) (pe_tup pa_nil) (nomark _)) (pe_ix ix_tup (pe_ix ix_tup (pe_fld (pv 0) rfl) (pe_un un_neg pe_int) (fun _ _ => rfl)) pe_int (fun _ _ => rfl)) pe_int)), ?_⟩
    refine ⟨_, rfl, d, _, dx, _, _, rfl, hd, T.desk_c, T.desk_own_row, df_r _ _, Nat.zero_le _, fun e he => ?_⟩
    have s1 : Same H (upd H e (.tup [])) := same_upd (Same.refl H) he
    refine ⟨rowD am, rowD [], (hrow.same s1).dp, (RowAt.nil (SqT.of upd_same)).dp, (rowD_ok _).shaped (by decide), (rowD_ok _).shaped (by decide), _, rfl, ?_⟩
    rw [row_eqv]
    by_cases h0 : am = []
    · subst h0
      rw [decide_eq_true rfl]
      refine iteF (k _ s1)
    · rw [decide_eq_false h0]
      obtain ⟨as, hl, hs, hp⟩ := hrow.same s1
      have hpos : 0 < am.length := List.length_pos_iff.mpr h0
      obtain ⟨a, ea⟩ : ∃ a, as[am.length - 1]? = some a := ⟨as[am.length - 1]'(by omega), List.getElem?_eq_getElem (by omega)⟩
      obtain ⟨m, em⟩ : ∃ m, am[am.length - 1]? = some m := ⟨am[am.length - 1]'(by omega), List.getElem?_eq_getElem (by omega)⟩
      have ht := hp _ a m ea em
      refine iteT ⟨_, rfl, d, _, dx, _, _, rfl, s1 _ _ hd, T.desk_c, T.desk_own_row, df_r _ _, 1, rfl, ro, _, _, V.ref a, rfl, rfl, hs, ?_, a, _, 0, _, rfl, rfl, ht, at_of (j := 0) rfl rfl, ?_⟩
      · unfold atI
        rw [List.length_map]
        have e : ixN as.length (-1) = some (am.length - 1) := by
          unfold ixN
          rw [if_neg (by omega), if_pos (by omega)]
          congr 1
          omega
        rw [e]
        show (as.map V.ref)[am.length - 1]? = some (V.ref a)
        rw [List.getElem?_map, ea]
        rfl
      · have e : (((am.length - 1 : Nat) : Int) + 1) = (am.length : Int) := by omega
        rw [e]
        exact k _ s1
end
end Wm
/-! T8 -/
namespace Wm
open PySem PySem.Spec PyProof.Rows L2
/-- any([..]) where every turn says False -/
theorem lc_anyF {K : PySem.W.Frag} {J : It} {n : Nat} {G : Hp → Prop} {Y : Nat → Hp → V → Hp → Prop} (w : Walk J n G Y) (hGs : ∀ H H', Same H H' → G H → G H') {g : TG} {te : TE} {vs : List Nat} {σ : L2.St} {H1 : Hp} {D : Addr} {Q : VK} (h1 : G H1) (hD : H1 D = none) (hn : n < sizeLine)
    (hs : ∀ i x H H' (P : V → Hp → Prop), i < n → Same H1 H → G H → Y i H x H' → (∀ H4, Same H H4 → P (.bl false) H4) →
      g x (wipe σ vs) H' fun σ2 H2 => wipe σ2 vs = wipe σ vs ∧ te σ2 H2 P)
    (hd : ∀ H, Same H1 H → Q (.bl false) H) :
    ∃ W : Nat → Nat → Hp → Prop, (∃ m, W 0 m (L2.upd H1 D (.lst []))) ∧ ∀ i m H, W i m H →
      (J.stop i H ∧ rAny K [.ref D] H Q) ∨ (J.go i H ∧ ∃ Nx : Hp → Prop, (∀ H', Nx H' → ∃ m', m' < m ∧ W (i + 1) m' H') ∧ ∀ x H', J.yld i H x H' → g x (wipe σ vs) H' fun σ2 H2 => wipe σ2 vs = wipe σ vs ∧ tYes σ2 H2 fun b H3 =>
        if b = true then te σ2 H3 fun y H4 => ∃ acc, H4 D = some (.lst acc) ∧ acc.length < sizeLine ∧ Nx (L2.upd H4 D (.lst (acc ++ [y]))) else Nx H3) := by
  refine lc_map w hGs (fun _ => .bl false) h1 hD hn hs (fun H s h => ?_)
  refine ⟨D, (List.range n).map fun _ => false, rfl, SqL.of (by rw [h, List.map_map]; rfl), ?_⟩
  have e : ((List.range n).map fun _ => false).any id = false := by simp
  rw [e]
  exact hd H s
theorem insAll_snoc {κ : Type} [DecidableEq κ] (xs : List κ) (k : κ) : insAll (xs ++ [k]) = insK k (insAll xs) := by
  unfold insAll
  rw [List.foldl_append]
  rfl
/-- a set comprehension that changes nothing -/
theorem scG_pure {P : Program} {w : World} {κ : Type} [DecidableEq κ] {kd : PySem.KeyKind P w κ} {vk : κ → V} {J : It} {n : Nat} {G : Hp → Prop} {Y : Nat → Hp → V → Hp → Prop} (wk : Walk J n G Y) (hGs : ∀ H H', Same H H' → G H → G H') {g : TG} {tt : TT} {te : TE} {vs : List Nat} {σ : L2.St} {H1 : Hp} {D : Addr} {Qd : Hp → Prop} (c : Nat → Option κ) (h1 : G H1) (hD : H1 D = none) (hn : n + 1 < scanBound)
    (hs : ∀ i x H H' (Pk : V → Hp → Prop) (N : Hp → Prop), i < n → Same H1 H → G H → Y i H x H' → (∀ k H4, Same H H4 → c i = some k → Pk (vk k) H4) → (∀ H3, Same H H3 → c i = none → N H3) →
      g x (wipe σ vs) H' fun σ2 H2 => wipe σ2 vs = wipe σ vs ∧ tt σ2 H2 fun b H3 => if b = true then te σ2 H3 Pk else N H3)
    (hd : ∀ H, Same H1 H → H D = some (SetGO kd D (insAll ((List.range n).filterMap c))) → Qd H) :
    ∃ W : Nat → Nat → Hp → Prop, (∃ m, W 0 m (L2.upd H1 D (SetGO kd D []))) ∧ ∀ i m H, W i m H →
      (J.stop i H ∧ Qd H) ∨ (J.go i H ∧ ∃ Nx : Hp → Prop, (∀ H', Nx H' → ∃ m', m' < m ∧ W (i + 1) m' H') ∧ ∀ x H', J.yld i H x H' → g x (wipe σ vs) H' fun σ2 H2 => wipe σ2 vs = wipe σ vs ∧ tt σ2 H2 fun b H3 =>
        if b = true then te σ2 H3 fun y H4 => ∃ (c : κ) (xs : List κ), y = vk c ∧ H4 D = some (SetGO kd D xs) ∧ xs.length + 1 < scanBound ∧ Nx (L2.upd H4 D (SetGO kd D (insK c xs))) else Nx H3) := by
  have hrg : ∀ i, (List.range (i + 1)).filterMap c = (List.range i).filterMap c ++ (c i).toList := fun i => by
    rw [List.range_succ, List.filterMap_append]
    congr 1
  refine ⟨fun i m H => m = n - i ∧ i ≤ n ∧ Same H1 H ∧ H D = some (SetGO kd D (insAll ((List.range i).filterMap c))), ⟨n, by simp, Nat.zero_le _, same_upd (Same.refl H1) hD, upd_same⟩, ?_⟩
  rintro i m H ⟨rfl, hi, s, hl⟩
  have q := hGs _ _ s h1
  by_cases hlt : i < n
  · refine .inr ⟨wk.goes i H hlt q, fun H => Same H1 H ∧ H D = some (SetGO kd D (insAll ((List.range (i + 1)).filterMap c))), fun H' p' => ⟨n - (i + 1), by omega, rfl, hlt, p'⟩, fun x H' y => ?_⟩
    refine hs i x H H' _ _ hlt s q (wk.yields i H x H' hlt q y) (fun k H4 s4 e => ?_) (fun H3 s3 e => ?_)
    · refine ⟨k, _, rfl, s4 _ _ hl, ?_, same_upd (s.trans s4) hD, ?_⟩
      · have q1 := insAll_len ((List.range i).filterMap c)
        have q2 := List.length_filterMap_le c (List.range i)
        rw [List.length_range] at q2
        omega
      · rw [upd_same, hrg, e]
        show some (SetGO kd D (insK k _)) = some (SetGO kd D (insAll (_ ++ [k])))
        rw [insAll_snoc]
    · refine ⟨s.trans s3, ?_⟩
      rw [s3 _ _ hl, hrg, e]
      simp
  · have e : i = n := by omega
    subst e
    exact .inl ⟨wk.stops H q, hd H s hl⟩
section
variable {P : Program} {w : World} {K : PySem.W.Frag} {mg : Str → Option Value} {base : Heap}
/-! ### is_payment -/
def spIsPayment (T : TX P K mg) : Sp := fun vs H Q _ => ∃ (R : Rnd) (b c : Addr) (k : Int) (two : Bool) (x : V), vs = [.ref b, x] ∧ BkAt T H R b c k two ∧
  ((x = .non ∧ Q (.bl false) H) ∨ ∃ (a : Addr) (d m : Int), x = .ref a ∧ SqT K H a [.int d, .int 0, .int m] ∧ 0 ≤ d ∧ 1 ≤ m ∧ Q (.bl true) H)
theorem ok_isPayment (T : TX P K mg) : FnOk P w K mg base CX0 3 T.isPayment_f T.isPayment_d ["book", "thing"] (spIsPayment T) := by
  refine T.isPayment_F.ok scIsPayment (fun vs H Q E h => ?_) (fun cdv A outer s H vs Q E hr h => ?_)
  · obtain ⟨R, b, c, k, two, x, rfl, _⟩ := h
    rfl
  · obtain ⟨R, b, c, k, two, x, rfl, hb, q⟩ := h
    refine ⟨_, pss_cons (ps_if (PW.pt (pw_or (pt_not (pt_val (pe_callB call_isi (by rfl) T.z_isinstance (by decide +kernel) (pa_cons (pv 1) (pa_cons (pe_bltn (v := .ty "tuple") (by rfl) T.z_tuple (by decide +kernel) rfl) pa_nil))))) (pw_or1 (pt_cmpR op_ne (pe_callB call_len_seq (by rfl) T.z_len PySem.boot_len (pa_cons (pv 1) pa_nil)) pe_int (nomark _))))) (pss_one (ps_ret pe_bl)) pss_nil)
      (pss_one (ps_ret (pe_and (pe_call (ok_isFrom T) hr (by rfl) T.isFrom_g T.isFrom_F.kp T.isFrom_b .nil pass0 (pa_cons (pe_ix ix_tup (pv 1) pe_int (fun _ _ => rfl)) (pa_cons pe_int pa_nil))) (pe_and (pe_call (ok_isAmong T) hr (by rfl) T.isAmong_g T.isAmong_F.kp T.isAmong_b .nil pass0 (pa_cons (pe_ix ix_tup (pv 1) pe_int (fun _ _ => rfl)) (pa_cons pe_int (pa_cons (pe_op op_sub (pe_callB call_len_seq (by rfl) T.z_len PySem.boot_len (pa_cons (pe_fld (pv 0) rfl) pa_nil)) pe_int) pa_nil)))) (pe_one (pe_call (ok_isFrom T) hr (by rfl) T.isFrom_g T.isFrom_F.kp T.isFrom_b .nil pass0 (pa_cons (pe_ix ix_tup (pv 1) pe_int (fun _ _ => rfl)) (pa_cons pe_int pa_nil)))))))), ?_⟩
    rcases q with ⟨rfl, q⟩ | ⟨a, d, m, rfl, ht, hd, hm, q⟩
    · exact ⟨_, rfl, _, _, .type "NoneType", .type "tuple", false, rfl, .ty _, .base .non, kit_ty (by decide +kernel), false, rfl, iteT (iteT q)⟩
    · refine ⟨_, rfl, _, _, .type "tuple", .type "tuple", true, rfl, .ty _, tyx_tup ht, kit_ty (by decide +kernel), true, rfl, iteF ?_⟩
      refine ⟨_, rfl, a, _, rfl, .inr ht, rfl, false, rfl, iteF ?_⟩
      refine ⟨_, rfl, a, _, 0, _, rfl, rfl, ht, at_of (j := 0) rfl rfl, _, _, rfl, hd, true, rfl, iteT ?_⟩
      obtain ⟨hcl, hrd, dx, cs, lt, hob, hcs, hlt⟩ := hb
      refine ⟨_, rfl, a, _, 1, _, rfl, rfl, ht, at_of (j := 1) rfl rfl, _, rfl, b, _, dx, _, _, rfl, hob, T.book_c, T.book_clauses, bf_cs _ _ _, cs, _, rfl, .inr hcs, _, _, rfl, rfl, _, _, _, rfl, by decide, ?_, true, rfl, iteT ?_⟩
      · unfold cls
        cases two <;> simp
      · exact ⟨_, rfl, a, _, 2, _, rfl, rfl, ht, at_of (j := 2) rfl rfl, _, _, rfl, hm, q⟩
/-! ### is_row -/
def spIsRow (T : TX P K mg) : Sp := fun vs H Q _ => ∃ (R : Rnd) (b c ro : Addr) (k : Int) (two : Bool) (am : List Int), vs = [.ref b, .ref ro] ∧ BkAt T H R b c k two ∧ RowAt K H ro am ∧ (∀ m ∈ am, 1 ≤ m) ∧ am.length ≤ 100 ∧ ∀ H', Same H H' → Q (.bl true) H'
theorem ok_isRow (T : TX P K mg) : FnOk P w K mg base CX0 4 T.isRow_f T.isRow_d ["book", "thing"] (spIsRow T) := by
  refine T.isRow_F.ok scIsRow (fun vs H Q E h => ?_) (fun cdv A outer s H vs Q E hr h => ?_)
  · obtain ⟨R, b, c, ro, k, two, am, rfl, _⟩ := h
    rfl
  · obtain ⟨R, b, c, ro, k, two, am, rfl, hb, hrow, hm, hl, q⟩ := h
    refine ⟨_, pss_cons (ps_if (PW.pt (pw_or (pt_not (pt_val (pe_callB call_isi (by rfl) T.z_isinstance (by decide +kernel) (pa_cons (pv 1) (pa_cons (pe_bltn (v := .ty "tuple") (by rfl) T.z_tuple (by decide +kernel) rfl) pa_nil))))) (pw_or1 (pt_not (pt_val (pe_callB (cr_all rfl) (by rfl) T.z_all (by decide +kernel) (pa_cons (pe_lc (own := [("one", 2)]) (g := gName 2) (tt := tYes) rfl scIsRow.nd (pi_tup (pv 1)) (blkOk_by (N := ["book", "thing", "one", "other"]) (sc := defScope sIsRow) (by decide +kernel)) (fun _ _ _ _ _ => pg_name (i := 2) scIsRow.nd rfl (Or.inl rfl)) (fun _ _ _ _ _ => pts_nil) (fun _ _ _ _ _ => (pe_call (ok_isPayment T) hr (by rfl) T.isPayment_g T.isPayment_F.kp T.isPayment_b .nil pass0 (pa_cons (pv 0) (pa_cons (pv 2) pa_nil))))) pa_nil))))))) (pss_one (ps_ret pe_bl)) pss_nil)
      (pss_one (ps_ret (pe_callB (cr_all rfl) (by rfl) T.z_all (by decide +kernel) (pa_cons (pe_lc (own := [("one", 2), ("other", 3)]) (g := gTup K 2 (gCons (gName 2) (gCons (gName 3) gNil))) (tt := tYes) (te := (tOp (rI0 fun i j => .bl (decide (i ≤ j))) (tOp (rIxT K) (tVar 2) (tC (.int 0))) (tOp (rIxT K) (tVar 3) (tC (.int 0))))) rfl scIsRow.nd (RZ.pi_zipA (by rfl) T.z_zip (pa_cons (pv 1) (pa_cons (pe_slice sl_tupA (pv 1) (po_some pe_int) po_none) pa_nil))) (blkOk_by (N := ["book", "thing", "one", "other"]) (sc := defScope sIsRow) (by decide +kernel)) (fun _ _ _ _ _ => pg_tup (by rfl) (pgs_cons (pg_name (i := 2) scIsRow.nd rfl (Or.inl rfl)) (pgs_cons (pg_name (i := 3) scIsRow.nd rfl (Or.inl rfl)) pgs_nil))) (fun _ _ _ _ _ => pts_nil) (fun _ _ _ _ _ => (pe_cmpR op_le (pe_ix ix_tup (pv 2) pe_int (fun _ _ => rfl)) (pe_ix ix_tup (pv 3) pe_int (fun _ _ => rfl)) (nomark _)))) pa_nil)))), ?_⟩
    obtain ⟨as, hle, hs, hp⟩ := id hrow
    have hlen : as.length < sizeLine := Nat.lt_of_le_of_lt (by omega : as.length ≤ 100) (by decide)
    refine ⟨_, rfl, _, _, .type "tuple", .type "tuple", true, rfl, .ty _, tyx_tup hs, kit_ty (by decide +kernel), true, rfl, iteF ?_⟩
    refine ⟨_, rfl, ro, rfl, ⟨_, hs⟩, fun D new => ?_⟩
    dsimp only [tNil]
    refine lc_allT (walk_tup (xs := as.map V.ref)) (fun _ _ s q => same_seqT s q) hs new (by rw [List.length_map]; exact hlen) (fun i v H2 H3 Pk hi s2 _ y hP => ?_) (fun H2 s2 => ⟨true, rfl, iteF ?_⟩)
    · obtain ⟨rfl, hx⟩ := y
      rw [List.getElem?_map] at hx
      obtain ⟨a, ea, rfl⟩ := Option.map_eq_some_iff.mp hx
      have hi' : i < am.length := by
        rw [List.length_map] at hi
        omega
      have em := List.getElem?_eq_getElem hi'
      exact ⟨rfl, _, rfl, _, rfl, R, b, c, k, two, .ref a, rfl, Firm.bk (Firm.same s2) hb, .inr ⟨a, _, _, rfl, same_seqT s2 (hp i a _ ea em), by omega, hm _ (List.getElem_mem hi'), hP _ (Same.refl _)⟩⟩
    · refine ⟨_, rfl, _, rfl, 1, rfl, ?_⟩
      dsimp only [tNoPart]
      refine sl_tail (same_seqT s2 hs) fun p H3 s3 hp3 => ⟨ro, p, _, _, rfl, .inr ⟨same_seqT (s2.trans s3) hs, hp3, fun D2 new2 => ?_⟩⟩
      have s23 := s2.trans s3
      refine lc_allT (walk_zipT (xs := as.map V.ref) (ys := (as.map V.ref).drop 1) rfl) (fun _ _ s q => ⟨same_seqT s q.1, same_seqT s q.2⟩) ⟨same_seqT s23 hs, hp3⟩ new2 ?_ (fun i v H4 H5 Pk hi s4 _ y hP => ?_) (fun H4 s4 => q H4 (s23.trans s4))
      · rw [List.length_drop, List.length_map]
        exact Nat.lt_of_le_of_lt (show min as.length (as.length - 1) ≤ as.length by omega) hlen
      · obtain ⟨t, x, z, rfl, ht0, rfl, hx, hz⟩ := y
        have hx : (as.map V.ref)[i]? = some x := hx
        have hz : ((as.map V.ref).drop 1)[i]? = some z := hz
        rw [List.getElem?_map] at hx
        rw [List.getElem?_drop, List.getElem?_map, Nat.add_comm] at hz
        obtain ⟨x', ex, rfl⟩ := Option.map_eq_some_iff.mp hx
        obtain ⟨z', ez, rfl⟩ := Option.map_eq_some_iff.mp hz
        have hi1 : i + 1 < am.length := by
          have := (List.getElem?_eq_some_iff.mp ez).1
          omega
        have h1 := hp i x' _ ex (List.getElem?_eq_getElem (by omega))
        have h2 := hp (i + 1) z' _ ez (List.getElem?_eq_getElem hi1)
        have s5 := same_upd (o := .tup [V.ref x', V.ref z']) (Same.refl H4) ht0
        have s245 := (s23.trans s4).trans s5
        refine ⟨t, _, rfl, SqT.of upd_same, rfl, _, _, rfl, _, _, rfl, rfl, rfl, _, rfl, x', _, 0, _, rfl, rfl, same_seqT s245 h1, at_of (j := 0) rfl rfl, _, rfl, z', _, 0, _, rfl, rfl, same_seqT s245 h2, at_of (j := 0) rfl rfl, _, _, rfl, rfl, ?_⟩
        show Pk (.bl (decide (((i : Int) + 1) ≤ (((i + 1 : Nat) : Int) + 1)))) _
        rw [bl_of (by omega)]
        exact hP _ s5
/-! ### paid_within -/
/-- what is paid by the row within the days st, .. st + sz - 1, by the clause nu -/
def pwc (nu st sz : Int) (i : Nat) (m : Int) : Option Int := if nu = 0 ∧ st ≤ (i : Int) + 1 ∧ (i : Int) + 1 < st + sz then some m else none
def pw (am : List Int) (nu st sz : Int) : Int := ((List.range am.length).filterMap fun i => (am[i]?).bind (pwc nu st sz i)).sum
theorem pw_le {am : List Int} (h : ∀ m ∈ am, 1 ≤ m ∧ m ≤ 50) (nu st : Int) : pw am nu st 2 ≤ 100 := by
  have key : ∀ n : Nat, n ≤ am.length → ((List.range n).filterMap fun i => (am[i]?).bind (pwc nu st 2 i)).sum ≤ 50 * (if (n : Int) + 1 - st < 0 then 0 else if (n : Int) + 1 - st > 2 then 2 else (n : Int) + 1 - st) := by
    intro n
    induction n with
    | zero =>
      intro _
      simp only [List.range_zero, List.filterMap_nil, List.sum_nil]
      split
      · omega
      · split <;> omega
    | succ n ih =>
      intro hn
      have ih := ih (by omega)
      rw [List.range_succ, List.filterMap_append, List.sum_append]
      have em : am[n]? = some am[n] := List.getElem?_eq_getElem (by omega)
      have hm := h am[n] (List.getElem_mem _)
      have e2 : ([n].filterMap fun i => (am[i]?).bind (pwc nu st 2 i)).sum = if nu = 0 ∧ st ≤ (n : Int) + 1 ∧ (n : Int) + 1 < st + 2 then am[n] else 0 := by
        by_cases hc : nu = 0 ∧ st ≤ (n : Int) + 1 ∧ (n : Int) + 1 < st + 2
        · rw [if_pos hc]
          simp only [List.filterMap_cons, List.filterMap_nil, em, Option.bind_some, pwc, if_pos hc]
          simp
        · rw [if_neg hc]
          simp only [List.filterMap_cons, List.filterMap_nil, em, Option.bind_some, pwc, if_neg hc]
          simp
      rw [e2]
      have ec : ((n + 1 : Nat) : Int) = (n : Int) + 1 := by omega
      rw [ec]
      split at ih <;> split <;> (try split at ih) <;> (try split) <;> (try split) <;> omega
  have := key am.length (Nat.le_refl _)
  unfold pw
  split at this
  · omega
  · split at this <;> omega
def spPaid (K : PySem.W.Frag) : Sp := fun vs H Q _ => ∃ (ro : Addr) (am : List Int) (nu st sz : Int), vs = [.ref ro, .int nu, .int st, .int sz] ∧ RowAt K H ro am ∧ am.length ≤ 100 ∧ ∀ H', Same H H' → Q (.int (pw am nu st sz)) H'
theorem ok_paidWithin (T : TX P K mg) : FnOk P w K mg base CX0 1 T.paidWithin_f T.paidWithin_d ["row", "number", "start", "size"] (spPaid K) := by
  refine T.paidWithin_F.ok scPaidWithin (fun vs H Q E h => ?_) (fun cdv A outer s H vs Q E hr h => ?_)
  · obtain ⟨ro, am, nu, st, sz, rfl, _⟩ := h
    rfl
  · obtain ⟨ro, am, nu, st, sz, rfl, ⟨as, hle, hs, hp⟩, hl, q⟩ := h
    have hlen : as.length < sizeLine := Nat.lt_of_le_of_lt (by omega : as.length ≤ 100) (by decide)
    refine ⟨_, pss_one (ps_ret (pe_callB (cr_sum rfl) (by rfl) T.z_sum (by decide +kernel) (pa_cons (pe_lc (own := [("day", 4), ("far", 5), ("amount", 6)]) (g := gTup K 3 (gCons (gName 4) (gCons (gName 5) (gCons (gName 6) gNil)))) rfl scPaidWithin.nd (pi_tup (pv 0)) (blkOk_by (N := ["row", "number", "start", "size", "day", "far", "amount"]) (sc := defScope sPaidWithin) (by decide +kernel)) (fun _ _ _ _ _ => pg_tup (by rfl) (pgs_cons (pg_name (i := 4) scPaidWithin.nd rfl (Or.inl rfl)) (pgs_cons (pg_name (i := 5) scPaidWithin.nd rfl (Or.inl rfl)) (pgs_cons (pg_name (i := 6) scPaidWithin.nd rfl (Or.inl rfl)) pgs_nil)))) (fun _ _ _ _ _ => pts_one (PW.pt (pw_and (pt_cmpR op_eq (pv 5) (pv 1) (nomark _)) (pw_and1 (pt_chain op_le op_lt (pv 2) (pv 4) (pe_op op_add (pv 2) (pv 3))))))) (fun _ _ _ _ _ => (pv 6))) pa_nil))), ?_⟩
    refine ⟨_, rfl, ro, rfl, ⟨_, hs⟩, fun D new => ?_⟩
    refine lc_pure (walk_tup (xs := as.map V.ref)) (fun _ _ s q => same_seqT s q) (fun i => ((am[i]?).bind (pwc nu st sz i)).map V.int) hs new (by rw [List.length_map]; exact hlen) (fun i v H2 H3 Pk Nk hi s2 _ y hP hN => ?_) (fun H2 s2 h2 => ?_)
    · obtain ⟨rfl, hx⟩ := y
      rw [List.getElem?_map] at hx
      obtain ⟨a, ea, rfl⟩ := Option.map_eq_some_iff.mp hx
      have hi' : i < am.length := by
        rw [List.length_map] at hi
        omega
      have em := List.getElem?_eq_getElem hi'
      have ht := same_seqT s2 (hp i a _ ea em)
      rw [em] at hP hN
      refine ⟨a, _, rfl, ht, rfl, _, _, rfl, _, _, rfl, _, _, rfl, rfl, rfl, _, rfl, _, rfl, rfl, _, rfl, ?_⟩
      have pS : ∀ H4, Same H3 H4 → (nu = 0 ∧ st ≤ (i : Int) + 1 ∧ (i : Int) + 1 < st + sz) → Pk (.int am[i]) H4 := fun H4 s4 hc => hP _ _ s4 (by simp [pwc, hc])
      have pN : ∀ H4, Same H3 H4 → ¬ (nu = 0 ∧ st ≤ (i : Int) + 1 ∧ (i : Int) + 1 < st + sz) → Nk H4 := fun H4 s4 hc => hN _ s4 (by simp [pwc, hc])
      by_cases h0 : nu = 0
      · subst h0
        refine ifT (by decide) ⟨_, rfl, _, rfl, _, _, rfl, rfl, _, rfl, ?_⟩
        by_cases h1 : st ≤ (i : Int) + 1
        · refine ifT (decide_eq_true h1) ⟨_, rfl, _, rfl, _, _, rfl, rfl, _, _, rfl, rfl, _, rfl, ?_⟩
          by_cases h2 : (i : Int) + 1 < st + sz
          · exact ifT (decide_eq_true h2) ⟨_, rfl, pS _ (Same.refl _) ⟨rfl, h1, h2⟩⟩
          · exact ifF (decide_eq_false h2) (pN _ (Same.refl _) fun z => h2 z.2.2)
        · exact ifF (decide_eq_false h1) ⟨_, rfl, ifF rfl (pN _ (Same.refl _) fun z => h1 z.2.1)⟩
      · have e0 : decide (V.int 0 = V.int nu) = false := decide_eq_false fun z => h0 (by injection z with z; exact z.symm)
        exact ifF e0 (ifF rfl (pN _ (Same.refl _) fun z => h0 z.1))
    · refine ⟨D, (List.range am.length).filterMap fun i => (am[i]?).bind (pwc nu st sz i), rfl, SqL.of ?_, ?_⟩
      · rw [h2, List.length_map, hle, List.map_filterMap]
      · exact q _ s2
end
end Wm
/-! T9 -/
namespace Wm
open PySem PySem.Spec PyProof.Rows L2
section
variable {P : Program} {w : World} {K : PySem.W.Frag} {mg : Str → Option Value} {base : Heap}
theorem scan_big {n : Nat} (h : n ≤ 100) : n + 1 < scanBound := by
  have : 101 < scanBound := by decide
  omega
def spHoldsBy (T : TX P K mg) : Sp := fun vs H Q _ => ∃ (R : Rnd) (b c ro : Addr) (k : Int) (two : Bool) (am : List Int) (nu : Nat), vs = [.ref b, .ref ro, .int (nu : Nat)] ∧ BkAt T H R b c k two ∧ RowAt K H ro am ∧ AmOk am ∧ nu < (cls c two).length ∧ ∀ H', Same H H' → Q (.bl true) H'
theorem cls_at {c : Addr} {two : Bool} {i : Nat} (h : i < (cls c two).length) : (cls c two)[i]? = some (V.ref c) := by
  unfold cls at h ⊢
  cases two with
  | true =>
    match i, h with
    | 0, _ => rfl
    | 1, _ => rfl
  | false =>
    match i, h with
    | 0, _ => rfl
theorem cls_len (c : Addr) (two : Bool) : 1 ≤ (cls c two).length ∧ (cls c two).length ≤ 2 := by
  unfold cls
  cases two
  · exact ⟨Nat.le_refl 1, by show 1 ≤ 2; decide⟩
  · exact ⟨by show 1 ≤ 2; decide, Nat.le_refl 2⟩
theorem ok_holdsBy (T : TX P K mg) : FnOk P w K mg base CX0 2 T.holdsBy_f T.holdsBy_d ["book", "row", "number"] (spHoldsBy T) := by
  refine T.holdsBy_F.ok scHoldsBy (fun vs H Q E h => ?_) (fun cdv A outer s H vs Q E hr h => ?_)
  · obtain ⟨R, b, c, ro, k, two, am, nu, rfl, _⟩ := h
    rfl
  · obtain ⟨R, b, c, ro, k, two, am, nu, rfl, hb, ⟨as, hle, hs, hp⟩, ⟨hm, hl12⟩, hnu, q⟩ := h
    refine ⟨_, pss_cons (ps_asg (pe_tup (pa_cons (pe_ix ix_tup (pe_fld (pv 0) rfl) (pv 2) (fun _ _ => rfl)) (pa_cons (pe_callB (cr_sortInts rfl) (by rfl) T.z_sorted (by decide +kernel) (pa_cons (pe_scG (kdv_int _ _) (own := [("day", 7), ("far", 8), ("amount", 9)]) (g := gTup K 3 (gCons (gName 7) (gCons (gName 8) (gCons (gName 9) gNil)))) rfl scHoldsBy.nd (pi_tup (pv 1)) (blkOk_by (N := ["book", "row", "number", "clause", "days", "size", "price", "day", "far", "amount"]) (sc := defScope sHoldsBy) (by decide +kernel))
          (fun _ _ _ _ _ => pg_tup (by rfl) (pgs_cons (pg_name (i := 7) scHoldsBy.nd rfl (Or.inl rfl)) (pgs_cons (pg_name (i := 8) scHoldsBy.nd rfl (Or.inl rfl)) (pgs_cons (pg_name (i := 9) scHoldsBy.nd rfl (Or.inl rfl)) pgs_nil)))) (fun _ _ _ _ _ => pts_one (pt_cmpR op_eq (pv 8) (pv 2) (nomark _))) (fun _ _ _ _ _ => pv 7)) pa_nil)) pa_nil)))
        (pg_tup (by rfl) (pgs_cons (pg_name (i := 3) scHoldsBy.nd rfl (Or.inr rfl)) (pgs_cons (pg_name (i := 4) scHoldsBy.nd rfl (Or.inl rfl)) pgs_nil))))
      (pss_cons (ps_if (PW.pt (pw_and (pt_cmpR op_notN (pe_fld (pv 3) rfl) pe_non (nomark _)) (pw_and1 (pt_val (pe_callB (cr_any rfl) (by rfl) T.z_any (by decide +kernel) (pa_cons (pe_lc (own := [("day", 7), ("far", 8), ("amount", 9)]) (g := gTup K 3 (gCons (gName 7) (gCons (gName 8) (gCons (gName 9) gNil)))) (tt := tYes) (te := (tAndV (tOp rEq (tVar 8) (tVar 2)) (tOp (rI0 fun i j => .bl (decide (j < i))) (tVar 9) (tFld K (tVar 3) "cap")))) rfl scHoldsBy.nd (pi_tup (pv 1)) (blkOk_by (N := ["book", "row", "number", "clause", "days", "size", "price", "day", "far", "amount"]) (sc := defScope sHoldsBy) (by decide +kernel)) (fun _ _ _ _ _ => pg_tup (by rfl) (pgs_cons (pg_name (i := 7) scHoldsBy.nd rfl (Or.inl rfl)) (pgs_cons (pg_name (i := 8) scHoldsBy.nd rfl (Or.inl rfl)) (pgs_cons (pg_name (i := 9) scHoldsBy.nd rfl (Or.inl rfl)) pgs_nil)))) (fun _ _ _ _ _ => pts_nil) (fun _ _ _ _ _ => (pe_and (pe_cmpR op_eq (pv 8) (pv 2) (nomark _)) (pe_one (pe_cmpR op_gt (pv 9) (pe_fld (pv 3) rfl) (nomark _)))))) pa_nil)))))) (pss_one (ps_ret pe_bl)) pss_nil)
      (pss_cons (ps_for PassesOwn.never rfl (pi_tup (pe_fld (pv 3) rfl)) (pg_tup (by rfl) (pgs_cons (pg_name (i := 5) scHoldsBy.nd rfl (Or.inr rfl)) (pgs_cons (pg_name (i := 6) scHoldsBy.nd rfl (Or.inr rfl)) pgs_nil)))
        (pss_one (ps_if (pt_val (pe_callB (cr_any rfl) (by rfl) T.z_any (by decide +kernel) (pa_cons (pe_lc (own := [("day", 7)]) (g := gName 7) (tt := tYes) rfl scHoldsBy.nd (pi_list (pv 4)) (blkOk_by (N := ["book", "row", "number", "clause", "days", "size", "price", "day", "far", "amount"]) (sc := defScope sHoldsBy) (by decide +kernel)) (fun _ _ _ _ _ => pg_name (i := 7) scHoldsBy.nd rfl (Or.inl rfl)) (fun _ _ _ _ _ => pts_nil) (fun _ _ _ _ _ => (pe_cmpR op_gt (pe_call (ok_paidWithin T) (hr.mono (by decide)) (by rfl) T.paidWithin_g T.paidWithin_F.kp T.paidWithin_b .nil pass0 (pa_cons (pv 1) (pa_cons (pv 2) (pa_cons (pv 7) (pa_cons (pv 5) pa_nil))))) (pv 6) (nomark _)))) pa_nil))) (pss_one (ps_ret pe_bl)) pss_nil)))
      (pss_one (ps_ret pe_bl)))), ?_⟩
    obtain ⟨⟨⟨dc, hc⟩, hk⟩, hrd, dx, cs, lt, hob, hcs, hlt⟩ := id hb
    have hlen : (as.map V.ref).length < sizeLine := by rw [List.length_map]; exact Nat.lt_of_le_of_lt (by omega : as.length ≤ 12) (by decide)
    have turn : ∀ {H2 : Hp} {i : Nat} {v : V}, Same H H2 → i < (as.map V.ref).length → (as.map V.ref)[i]? = some v → ∃ (a : Addr) (m : Int), v = .ref a ∧ SqT K H2 a [.int ((i : Int) + 1), .int 0, .int m] ∧ 1 ≤ m ∧ m ≤ 50 := fun {H2 i v} s2 hi hx => by
      rw [List.getElem?_map] at hx
      obtain ⟨a, ea, rfl⟩ := Option.map_eq_some_iff.mp hx
      have hi' : i < am.length := by
        rw [List.length_map] at hi
        omega
      exact ⟨a, am[i], rfl, same_seqT s2 (hp i a _ ea (List.getElem?_eq_getElem hi')), (hm _ (List.getElem_mem hi')).1, (hm _ (List.getElem_mem hi')).2⟩
    refine ⟨_, rfl, b, _, dx, _, _, rfl, hob, T.book_c, T.book_clauses, bf_cs _ _ _, _, rfl, cs, _, _, .ref c, rfl, rfl, hcs, at_of (j := nu) rfl (cls_at hnu), ?_⟩
    refine ⟨_, rfl, ro, rfl, ⟨_, hs⟩, fun D new => ?_⟩
    refine scG_pure (kd := intKind _ _) (vk := V.int) (walk_tup (xs := as.map V.ref)) (fun _ _ s q => same_seqT s q) (fun i => if nu = 0 then some ((i : Int) + 1) else none) hs new (scan_big (by rw [List.length_map]; omega)) (fun i v H2 H3 Pk Nk hi s2 _ y hP hN => ?_) (fun H2 s2 h2 => ?_)
    · obtain ⟨rfl, hx⟩ := y
      obtain ⟨a, m, rfl, ht, _, _⟩ := turn s2 hi hx
      refine ⟨a, _, rfl, ht, rfl, _, _, rfl, _, _, rfl, _, _, rfl, rfl, rfl, _, rfl, _, rfl, rfl, _, rfl, ?_⟩
      by_cases h0 : nu = 0
      · subst h0
        exact ifT (by decide) ⟨_, rfl, hP _ _ (Same.refl _) rfl⟩
      · refine ifF (decide_eq_false fun z => h0 ?_) (hN _ (Same.refl _) (if_neg h0))
        injection z with z
        omega
    · have hn64 : (insAll ((List.range (as.map V.ref).length).filterMap fun i : Nat => if nu = 0 then some ((i : Int) + 1) else none)).length < 64 := by
        have q1 := insAll_len ((List.range (as.map V.ref).length).filterMap fun i : Nat => if nu = 0 then some ((i : Int) + 1) else none)
        have q2 := List.length_filterMap_le (fun i : Nat => if nu = 0 then some ((i : Int) + 1) else none) (List.range (as.map V.ref).length)
        rw [List.length_range] at q2
        have q3 : (as.map V.ref).length = am.length := by rw [List.length_map, hle]
        omega
      refine ⟨D, _, rfl, h2, hn64, fun ys l hys hok hl => ?_⟩
      have hyl : ys.length < 64 := by rw [hys.length_eq]; exact hn64
      have s3 := same_upd (o := .lst (ys.map V.int)) s2 (s2.free hl)
      refine ⟨(by show 2 ≤ sizeLine; decide), fun t ht => ?_⟩
      have s4 := same_upd (o := .tup [V.ref c, V.ref l]) s3 (s3.free ht)
      refine ⟨t, _, rfl, SqT.of upd_same, rfl, _, _, rfl, _, _, rfl, rfl, ?_⟩
      have hll : (upd (upd H2 l (.lst (ys.map V.int))) t (.tup [V.ref c, V.ref l])) l = some (.lst (ys.map V.int)) := by
        have n : l ≠ t := fun e => by rw [← e, upd_same] at ht; cases ht
        rw [upd_ne n, upd_same]
      generalize (upd (upd H2 l (.lst (ys.map V.int))) t (.tup [V.ref c, V.ref l])) = H4 at s4 hll ⊢
      -- if clause.cap is not None and any(..)
      refine ⟨_, rfl, c, _, dc, _, _, rfl, s4 _ _ hc, T.clause_c, T.clause_cap, cf_cap _ _ _ _, rfl, _, rfl, iteT ?_⟩
      refine ⟨_, rfl, ro, rfl, ⟨_, same_seqT s4 hs⟩, fun D2 new2 => ?_⟩
      dsimp only [tNil]
      refine lc_anyF (walk_tup (xs := as.map V.ref)) (fun _ _ s q => same_seqT s q) (same_seqT s4 hs) new2 hlen (fun i v H5 H6 Pk hi s5 _ y hP => ?_) (fun H5 s5 => ⟨false, rfl, iteF ?_⟩)
      · obtain ⟨rfl, hx⟩ := y
        obtain ⟨a, m, rfl, ht, _, h50⟩ := turn (s4.trans s5) hi hx
        refine ⟨a, _, rfl, ht, rfl, _, _, rfl, _, _, rfl, _, _, rfl, rfl, rfl, _, rfl, _, rfl, rfl, _, rfl, ?_⟩
        by_cases h0 : nu = 0
        · subst h0
          refine ifT (by decide) ⟨_, rfl, _, rfl, c, _, dc, _, _, rfl, (s4.trans s5) _ _ hc, T.clause_c, T.clause_cap, cf_cap _ _ _ _, _, _, rfl, rfl, ?_⟩
          show Pk (.bl (decide (k < m))) _
          rw [bl_no (by omega)]
          exact hP _ (Same.refl _)
        · refine ifF (decide_eq_false fun z => h0 ?_) (hP _ (Same.refl _))
          injection z with z
          omega
      · have s5' := s4.trans s5
        have hl5 := s5 _ _ hll
        refine ⟨_, rfl, c, _, dc, _, _, rfl, s5' _ _ hc, T.clause_c, T.clause_sums, cf_su _ _ _ _, R.su, rfl, ⟨_, same_seqT s5' hrd.1.su_⟩, ?_⟩
        refine for_it (walk_tup (xs := [V.ref R.sm])) (fun i σ H' => Same H5 H' ∧ ∃ v5 v6, σ = [some (.ref b), some (.ref ro), some (.int (nu : Nat)), some (.ref c), some (.ref l), v5, v6, none, none, none]) ⟨Same.refl _, _, _, rfl⟩ (fun i σ H' _ h => same_seqT (s5'.trans h.1) hrd.1.su_) ?_ ?_
        · rintro i x σ H6 H7 hi ⟨s6, v5, v6, rfl⟩ ⟨rfl, hx⟩
          have h0 : i = 0 := by
            have : i < 1 := hi
            omega
          subst h0
          cases hx
          have s6' := s5'.trans s6
          refine ⟨R.sm, _, rfl, same_seqT s6' hrd.1.sm_, rfl, _, _, rfl, _, _, rfl, rfl, ?_⟩
          refine ⟨_, rfl, l, rfl, ⟨_, SqL.of (s6 _ _ hl5)⟩, fun D3 new3 => ?_⟩
          dsimp only [tNil]
          refine lc_anyF (walk_list (xs := ys.map V.int)) (fun _ _ s q => s.seq q) (SqL.of (s6 _ _ hl5)) new3 (by rw [List.length_map]; exact Nat.lt_trans hyl (by decide)) (fun i v H8 H9 Pk hi s8 _ y hP => ?_) (fun H8 s8 => ⟨false, rfl, iteF ?_⟩)
          · obtain ⟨rfl, hx⟩ := y
            rw [List.getElem?_map] at hx
            obtain ⟨dd, ed, rfl⟩ := Option.map_eq_some_iff.mp hx
            have hrow : RowAt K H9 ro am := RowAt.same (s6'.trans s8) ⟨as, hle, hs, hp⟩
            refine ⟨rfl, _, rfl, _, rfl, _, rfl, _, rfl, ro, am, (nu : Int), dd, 2, rfl, hrow, by omega, fun H10 s10 => ⟨_, rfl, _, _, rfl, rfl, ?_⟩⟩
            show Pk (.bl (decide (R.S < pw am nu dd 2))) _
            have := pw_le hm nu dd
            rw [bl_no (by have := hrd.2; omega)]
            exact hP _ s10
          · exact ⟨s6.trans s8, _, _, rfl⟩
        · rintro σ H6 ⟨s6, v5, v6, rfl⟩
          exact q _ (s5'.trans s6)
/-! ### keeps -/
def spKeeps (T : TX P K mg) : Sp := fun vs H Q _ => ∃ (R : Rnd) (b c ro : Addr) (k : Int) (two : Bool) (am : List Int), vs = [.ref b, .ref ro] ∧ BkAt T H R b c k two ∧ RowAt K H ro am ∧ AmOk am ∧ ∀ H', Same H H' → Q (.bl true) H'
theorem ok_keeps (T : TX P K mg) : FnOk P w K mg base CX0 5 T.keeps_f T.keeps_d ["book", "row"] (spKeeps T) := by
  refine T.keeps_F.ok scKeeps (fun vs H Q E h => ?_) (fun cdv A outer s H vs Q E hr h => ?_)
  · obtain ⟨R, b, c, ro, k, two, am, rfl, _⟩ := h
    rfl
  · obtain ⟨R, b, c, ro, k, two, am, rfl, hb, hrow, hm, q⟩ := h
    refine ⟨_, pss_one (ps_ret (pe_and (pe_call (ok_isRow T) hr (by rfl) T.isRow_g T.isRow_F.kp T.isRow_b .nil pass0 (pa_cons (pv 0) (pa_cons (pv 1) pa_nil))) (pe_one (pe_callB (cr_all rfl) (by rfl) T.z_all (by decide +kernel) (pa_cons (pe_lc (own := [("number", 2)]) (g := gName 2) (tt := tYes) rfl scKeeps.nd (pi_range1 rfl T.z_range (pa_cons (pe_callB call_len_seq (by rfl) T.z_len PySem.boot_len (pa_cons (pe_fld (pv 0) rfl) pa_nil)) pa_nil)) (blkOk_by (N := ["book", "row", "number"]) (sc := defScope sKeeps) (by decide +kernel)) (fun _ _ _ _ _ => pg_name (i := 2) scKeeps.nd rfl (Or.inl rfl)) (fun _ _ _ _ _ => pts_nil) (fun _ _ _ _ _ => (pe_call (ok_holdsBy T) (hr.mono (by decide)) (by rfl) T.holdsBy_g T.holdsBy_F.kp T.holdsBy_b .nil pass0 (pa_cons (pv 0) (pa_cons (pv 1) (pa_cons (pv 2) pa_nil)))))) pa_nil))))), ?_⟩
    refine ⟨_, rfl, _, rfl, R, b, c, ro, k, two, am, rfl, hb, hrow, (fun m h => (hm.1 m h).1), by have := hm.2; omega, fun H1 s1 => ⟨true, rfl, iteT ?_⟩⟩
    have hb1 := Firm.bk (Firm.same s1) hb
    obtain ⟨hcl, hrd, dx, cs, lt, hob, hcs, hlt⟩ := id hb1
    have hl2 := cls_len c two
    refine ⟨_, rfl, b, _, dx, _, _, rfl, hob, T.book_c, T.book_clauses, bf_cs _ _ _, cs, _, rfl, .inr hcs, _, rfl, (by omega), (Int.lt_of_le_of_lt (show ((cls c two).length : Int) ≤ 2 by omega) (by decide)), fun D new => ?_⟩
    dsimp only [tNil]
    rw [Int.toNat_natCast]
    refine lc_allT (walk_range (lo := 0) (n := (cls c two).length)) (fun _ _ _ q => q) trivial new (Nat.lt_of_le_of_lt hl2.2 (by decide)) (fun i v H2 H3 Pk hi s2 _ y hP => ?_) (fun H2 s2 => q H2 (s1.trans s2))
    obtain ⟨rfl, rfl⟩ := y
    show gName 2 (V.int (0 + (i : Int))) _ _ _
    rw [Int.zero_add]
    exact ⟨rfl, _, rfl, _, rfl, _, rfl, R, b, c, ro, k, two, am, i, rfl, Firm.bk (Firm.same s2) hb1, hrow.same (s1.trans s2), hm, hi, fun H4 s4 => hP _ s4⟩
end
end Wm
/-! T10 -/
namespace Wm
open PySem PySem.Spec PyProof.Rows L2
def tFalseT : TT := fun _ _ _ => False
theorem pt_never {X : Cx} {e : Expr} : PT X e tFalseT := ⟨fun _ _ _ _ _ _ h => h.elim⟩
section
variable {X : Cx}
/-- sorted of a list of one item -/
def rSort1 (K : PySem.W.Frag) : List V → Hp → VK → Prop := fun vs H Q => ∃ (a : Addr) (v : V), vs = [V.ref a] ∧ SqL K H a [v] ∧ ∀ p, H p = none → Q (.ref p) (upd H p (.lst [v]))
theorem cr_sort1 : CallR X (.builtin "sorted") (rSort1 X.K) := by
  intro pins s σ H vs us Q I r h
  obtain ⟨a, x, rfl, hs, q⟩ := h
  obtain ⟨its, rv, hl, hz⟩ := I.list hs
  rw [Vals.ref1 r]
  cases rv with
  | cons rx rn =>
    rename_i u r0
    cases rn
    refine Srt.sorted_any hl.isList (by show 1 ≤ sizeLine; decide) (fun h2 => absurd (show 2 ≤ 1 from h2) (by decide)) fun out h1 => ?_
    have e : out = [u] := List.perm_singleton.mp h1
    subst e
    obtain ⟨ep, he'⟩ := PyProof.Rows.sortedAll_at s.heap [u] [u].toArray
    exact ⟨.ref _, upd H (s.heap.objs.size + 1) (.lst [x]), I.laid (t' := s.toks) (fun _ _ => PyProof.Rows.sortedAll_old) (Nat.le_succ _) ⟨by show 1 ≤ sizeLine; decide, [u], ep, .cons rx .nil, he'⟩, rfl, q _ (I.hok.fresh (Nat.le_succ _))⟩
end
section
variable {P : Program} {w : World} {K : PySem.W.Frag} {mg : Str → Option Value} {base : Heap}
/-! ### lent_on: the person alone -/
def spLentOn (T : TX P K mg) : Sp := fun vs H Q _ => ∃ (R : Rnd) (b c : Addr) (k : Int) (two : Bool) (x : Str), vs = [.ref b, .str x] ∧ BkAt T H R b c k two ∧ ∀ H' l, Same H H' → H' l = some (.lst [.str x]) → Q (.ref l) H'
theorem ok_lentOn (T : TX P K mg) : FnOk P w K mg base CX0 1 T.lentOn_f T.lentOn_d ["book", "person"] (spLentOn T) := by
  refine T.lentOn_F.ok scLentOn (fun vs H Q E h => ?_) (fun cdv A outer s H vs Q E hr h => ?_)
  · obtain ⟨R, b, c, k, two, x, rfl, _⟩ := h
    rfl
  · obtain ⟨R, b, c, k, two, x, rfl, ⟨hcl, hrd, dx, cs, lt, hob, hcs, hlt⟩, q⟩ := h
    refine ⟨_, pss_cons (ps_asg (pe_tup (pa_cons (pe_lst pa_nil) (pa_cons (pe_lst (pa_cons (pv 1) pa_nil)) pa_nil))) (pg_tup (by rfl) (pgs_cons (pg_name (i := 2) scLentOn.nd rfl (Or.inr rfl)) (pgs_cons (pg_name (i := 3) scLentOn.nd rfl (Or.inl rfl)) pgs_nil))))
      (pss_cons (ps_while PassesOwn.never (pt_cmpR op_gt (pe_callB call_len_seq (by rfl) T.z_len PySem.boot_len (pa_cons (pv 3) pa_nil)) (pe_callB call_len_seq (by rfl) T.z_len PySem.boot_len (pa_cons (pv 2) pa_nil)) (nomark _)) (pss_cons (ps_set (i := 2) scLentOn.nd rfl (Or.inr rfl) (pv 3))
        (pss_one (ps_set (i := 3) scLentOn.nd rfl (Or.inl rfl) (pe_callB (cr_sortStrs rfl) (by rfl) T.z_sorted (by decide +kernel) (pa_cons (pe_callTy (cr_setS rfl) (by rfl) T.z_set (by decide +kernel) (pa_cons (pe_op op_cat (pv 2) (pe_lc (own := [("one", 4), ("other", 5)]) (g := gTup K 2 (gCons (gName 4) (gCons (gName 5) gNil))) (tt := tFalseT) rfl scLentOn.nd (pi_tup (pe_fld (pv 0) rfl)) (blkOk_by (N := ["book", "person", "found", "grown", "one", "other"]) (sc := defScope sLentOn) (by decide +kernel)) (fun _ _ _ _ _ => pg_tup (by rfl) (pgs_cons (pg_name (i := 4) scLentOn.nd rfl (Or.inl rfl)) (pgs_cons (pg_name (i := 5) scLentOn.nd rfl (Or.inl rfl)) pgs_nil))) (fun _ _ _ _ _ => pts_one pt_never) (fun _ _ _ _ _ => (pv 5)))) pa_nil)) pa_nil))))))
      (pss_one (ps_ret (pv 2)))), ?_⟩
    refine ⟨Nat.zero_le _, fun f0 hf0 => ⟨_, rfl, (by show 1 ≤ sizeLine; decide), fun g0 hg0 => ⟨(by show 2 ≤ sizeLine; decide), fun t ht => ?_⟩⟩⟩
    have s1 := same_upd (o := .lst []) (Same.refl H) hf0
    have s2 := same_upd (o := .lst [V.str x]) s1 (s1.free hg0)
    have s3 := same_upd (o := .tup [V.ref f0, V.ref g0]) s2 (s2.free ht)
    have hf : (upd (upd (upd H f0 (.lst [])) g0 (.lst [.str x])) t (.tup [.ref f0, .ref g0])) f0 = some (.lst []) := by
      have n1 : f0 ≠ g0 := fun e => by rw [← e, upd_same] at hg0; cases hg0
      have n2 : f0 ≠ t := fun e => by rw [← e, upd_ne n1, upd_same] at ht; cases ht
      rw [upd_ne n2, upd_ne n1, upd_same]
    have hg : (upd (upd (upd H f0 (.lst [])) g0 (.lst [.str x])) t (.tup [.ref f0, .ref g0])) g0 = some (.lst [.str x]) := by
      have n2 : g0 ≠ t := fun e => by rw [← e, upd_same] at ht; cases ht
      rw [upd_ne n2, upd_same]
    refine ⟨t, _, rfl, SqT.of upd_same, rfl, _, _, rfl, _, _, rfl, rfl, ?_⟩
    generalize (upd (upd (upd H f0 (.lst [])) g0 (.lst [.str x])) t (.tup [.ref f0, .ref g0])) = H3 at s3 hf hg ⊢
    refine ⟨fun n σ' H' => (n = 1 ∧ Same H3 H' ∧ σ' = [some (.ref b), some (.str x), some (.ref f0), some (.ref g0), none, none]) ∨ (n = 0 ∧ Same H3 H' ∧ ∃ g1, H' g1 = some (.lst [.str x]) ∧ σ' = [some (.ref b), some (.str x), some (.ref g0), some (.ref g1), none, none]), ⟨1, .inl ⟨rfl, Same.refl _, rfl⟩⟩, ?_⟩
    rintro n σ' H' (⟨rfl, s4, rfl⟩ | ⟨rfl, s4, g1, hg1, rfl⟩)
    · refine ⟨_, rfl, g0, _, rfl, .inl (SqL.of (s4 _ _ hg)), _, rfl, f0, _, rfl, .inl (SqL.of (s4 _ _ hf)), _, _, rfl, rfl, true, bl_of (show (0 : Int) < 1 by decide), iteT ?_⟩
      have s34 := s3.trans s4
      refine ⟨fun σ' H'' => Same H' H'' ∧ ∃ g1, H'' g1 = some (.lst [.str x]) ∧ σ' = [some (.ref b), some (.str x), some (.ref g0), some (.ref g1), none, none], fun σ2 H2 z => ⟨0, Nat.zero_lt_one, .inr ⟨rfl, s4.trans z.1, z.2⟩⟩, ?_⟩
      refine ⟨_, rfl, ?_⟩
      refine ⟨_, rfl, _, rfl, b, _, dx, _, _, rfl, s34 _ _ hob, T.book_c, T.book_lent, bf_lt _ _ _, lt, rfl, ⟨_, same_seqT s34 hlt⟩, fun D new => ?_⟩
      refine lc_pure (walk_tup (xs := [])) (fun _ _ s q => same_seqT s q) (fun _ => none) (same_seqT s34 hlt) new (show 0 < sizeLine by decide) (fun i v H5 H6 Pk Nk hi s5 _ y hP hN => absurd hi (Nat.not_lt_zero _)) (fun H5 s5 h5 => ?_)
      refine ⟨g0, D, [.str x], [], rfl, rfl, s5 _ _ (s4 _ _ hg), h5, (by show 1 ≤ sizeLine; decide), fun p hp => ⟨p, [x], rfl, SqL.of upd_same, (show 1 < 64 by decide), fun p2 hp2 => ⟨p2, _, rfl, upd_same, (show 1 < 64 by decide), fun ys p3 hys hok hp3 => ?_⟩⟩⟩
      have ey : ys = [x] := List.perm_singleton.mp hys
      subst ey
      have s6 := same_upd (o := .lst ([V.str x] ++ [])) s5 (s5.free hp)
      have s7 := same_upd (o := SetGO (PySem.strKind P w) p2 (insAll [x])) s6 (s6.free hp2)
      have s8 := same_upd (o := .lst ([x].map V.str)) s7 (s7.free hp3)
      exact ⟨s8, p3, upd_same, rfl⟩
    · exact ⟨_, rfl, g1, _, rfl, .inl (SqL.of hg1), _, rfl, g0, _, rfl, .inl (SqL.of (s4 _ _ hg)), _, _, rfl, rfl, false, bl_no (show ¬ (1 : Int) < 1 by decide), iteF ⟨_, rfl, q _ g0 (s3.trans s4) (s4 _ _ hg)⟩⟩
/-! ### who_may: the people themselves -/
theorem insAll_nodup : ∀ {κ : Type} [DecidableEq κ] (xs acc : List κ), (acc ++ xs).Nodup → (xs.foldl (fun acc k => insK k acc) acc).Perm (acc ++ xs)
  | _, _, [], acc, _ => by simp
  | κ, _, x :: xs, acc, h => by
    have hx : x ∉ acc := fun hm => by
      have := List.nodup_append.mp h
      exact this.2.2 x hm x List.mem_cons_self rfl
    have e : insK x acc = x :: acc := if_neg hx
    rw [List.foldl_cons, e]
    have p : (x :: acc ++ xs).Perm (acc ++ x :: xs) := by
      rw [List.cons_append]
      exact List.perm_middle.symm
    exact (insAll_nodup xs (x :: acc) (p.nodup_iff.mpr h)).trans p
theorem lt_irr (l : List Nat) : ¬ l < l := List.lt_irrefl l
theorem rise_nodup {ws : List Str} (h : Rise ws) : ws.Nodup := List.Pairwise.imp (fun {a b} hab e => by
  subst e
  exact lt_irr _ hab) h
def spWhoMay (T : TX P K mg) : Sp := fun vs H Q _ => ∃ (R : Rnd) (b c : Addr) (k : Int) (two : Bool) (nu : Nat), vs = [.ref b, .int (nu : Nat)] ∧ BkAt T H R b c k two ∧ nu < (cls c two).length ∧
  ∀ (H' : Hp) (t u : Addr) (ys : List Str), Same H H' → SqT K H' t [.ref u] → SqT K H' u (ys.map V.str) → ys.Perm R.ps → Q (.ref t) H'
theorem ok_whoMay (T : TX P K mg) : FnOk P w K mg base CX0 2 T.whoMay_f T.whoMay_d ["book", "number"] (spWhoMay T) := by
  refine T.whoMay_F.ok scWhoMay (fun vs H Q E h => ?_) (fun cdv A outer s H vs Q E hr h => ?_)
  · obtain ⟨R, b, c, k, two, nu, rfl, _⟩ := h
    rfl
  · obtain ⟨R, b, c, k, two, nu, rfl, hb, hnu, q⟩ := h
    obtain ⟨⟨⟨dc, hc⟩, hk⟩, hrd, dx, cs, lt, hob, hcs, hlt⟩ := id hb
    refine ⟨_, pss_cons (ps_set (i := 2) scWhoMay.nd rfl (Or.inl rfl) (pe_lst pa_nil))
      (pss_cons (ps_for PassesOwn.never rfl (pi_tup (pe_fld (pe_ix ix_tup (pe_fld (pv 0) rfl) (pv 1) (fun _ _ => rfl)) rfl)) (pg_name (i := 3) scWhoMay.nd rfl (Or.inl rfl))
        (pss_one (ps_expr (pe_bm PySem.F.plainAttrs_list PySem.F.slot_list_append PySem.F.type_list_append mt_append (pv 2) (pa_cons (pe_callTy call_tuple_of (by rfl) T.z_tuple (by decide +kernel) (pa_cons (pe_callB (cr_sortStrs rfl) (by rfl) T.z_sorted (by decide +kernel) (pa_cons (pe_scG2 (kdv_str _ _) (own := [("person", 4), ("other", 5)]) (vs1 := [5]) (g := gName 4) (g1 := gName 5) (wi1 := iList K (tCall (spLentOn T) [] E0 (tCons (tVar 0) (tCons (tVar 4) tNil)))) rfl scWhoMay.nd (pi_tup (pv 3)) (blkOk_by (N := ["book", "number", "rows", "slot", "person", "other"]) (sc := defScope sWhoMay) (by decide +kernel)) (by decide)
            (fun _ _ _ _ _ => pg_name (i := 4) scWhoMay.nd rfl (Or.inl rfl)) (fun _ _ _ _ _ => pts_nil) (fun _ _ _ _ _ => pi_list (pe_call (ok_lentOn T) hr (by rfl) T.lentOn_g T.lentOn_F.kp T.lentOn_b .nil pass0 (pa_cons (pv 0) (pa_cons (pv 4) pa_nil)))) (fun _ _ _ _ _ => pg_name (i := 5) scWhoMay.nd rfl (Or.inl rfl)) (fun _ _ _ _ _ => pts_nil) (fun _ _ _ _ _ => pv 5)) pa_nil)) pa_nil)) pa_nil)))))
      (pss_one (ps_ret (pe_callTy call_tuple_of (by rfl) T.z_tuple (by decide +kernel) (pa_cons (pv 2) pa_nil))))), ?_⟩
    have wps := hrd.1.w_
    have nd := rise_nodup wps.2.1
    refine ⟨Nat.zero_le _, fun l hl => ?_⟩
    have s1 := same_upd (o := .lst []) (Same.refl H) hl
    refine ⟨_, rfl, b, _, dx, _, _, rfl, s1 _ _ hob, T.book_c, T.book_clauses, bf_cs _ _ _, _, rfl, cs, _, _, .ref c, rfl, rfl, same_seqT s1 hcs, at_of (j := nu) rfl (cls_at hnu), c, _, dc, _, _, rfl, s1 _ _ hc, T.clause_c, T.clause_slots, cf_sl _ _ _ _, R.sl, rfl, ⟨_, same_seqT s1 hrd.1.sl_⟩, ?_⟩
    refine for_it (walk_tup (xs := [V.ref R.p])) (fun i σ H' => Same H H' ∧ ∃ v3, σ = [some (.ref b), some (.int (nu : Nat)), some (.ref l), v3, none, none] ∧ ((i = 0 ∧ H' l = some (.lst [])) ∨ (i = 1 ∧ ∃ (u : Addr) (ys : List Str), H' l = some (.lst [.ref u]) ∧ SqT K H' u (ys.map V.str) ∧ ys.Perm R.ps))) ⟨s1, _, rfl, .inl ⟨rfl, upd_same⟩⟩ (fun i σ H' _ h => same_seqT h.1 hrd.1.sl_) ?_ ?_
    · rintro i x σ H2 H3 hi ⟨s2, v3, rfl, hh⟩ ⟨rfl, hx⟩
      have h0 : i = 0 := by
        have : i < 1 := hi
        omega
      subst h0
      cases hx
      have hl0 : H3 l = some (.lst []) := by
        rcases hh with ⟨_, h⟩ | ⟨z, _⟩
        · exact h
        · cases z
      refine ⟨_, rfl, .inl ⟨rfl, _, SqL.of hl0⟩, ?_⟩
      refine ⟨_, rfl, R.p, rfl, ⟨_, same_seqT s2 hrd.1.p_⟩, fun D new => ?_⟩
      have hp3 := same_seqT s2 hrd.1.p_
      refine ⟨fun i m H => m = R.ps.length - i ∧ i ≤ R.ps.length ∧ Same H3 H ∧ H D = some (SetGO (PySem.strKind P w) D (insAll (R.ps.take i))), ⟨R.ps.length, by simp, Nat.zero_le _, same_upd (Same.refl _) new, upd_same⟩, ?_⟩
      rintro i m H4 ⟨rfl, hi4, s4, hD⟩
      by_cases hlt4 : i < R.ps.length
      · have hx := List.getElem?_eq_getElem hlt4
        have wk := walk_tup (K := K) (a := R.p) (xs := R.ps.map V.str)
        have hi' : i < (R.ps.map V.str).length := by rw [List.length_map]; exact hlt4
        refine .inr ⟨wk.goes i H4 hi' (same_seqT s4 hp3), fun H => Same H3 H ∧ H D = some (SetGO (PySem.strKind P w) D (insAll (R.ps.take (i + 1)))), fun H' p' => ⟨R.ps.length - (i + 1), by omega, rfl, hlt4, p'⟩, fun x H5 y => ?_⟩
        obtain ⟨rfl, ex⟩ := wk.yields i H4 x H5 hi' (same_seqT s4 hp3) y
        rw [List.getElem?_map, hx] at ex
        cases ex
        refine ⟨rfl, ?_⟩
        dsimp only [tYes]
        rw [if_pos rfl]
        refine ⟨_, rfl, _, rfl, R, b, c, k, two, R.ps[i], rfl, Firm.bk (Firm.same (s2.trans s4)) hb, fun H6 l6 s6 h6 => ⟨l6, rfl, ⟨_, SqL.of h6⟩, ?_⟩⟩
        have s46 := s4.trans s6
        have wl := walk_list (K := K) (a := l6) (xs := [V.str R.ps[i]])
        refine ⟨fun j k H => k = 1 - j ∧ j ≤ 1 ∧ Same H3 H ∧ H l6 = some (.lst [.str R.ps[i]]) ∧ H D = some (SetGO (PySem.strKind P w) D (insAll (R.ps.take (i + j)))), ⟨1, rfl, by omega, s46, h6, s6 _ _ hD⟩, ?_⟩
        rintro j kk H7 ⟨rfl, hj, s7, hl7, hD7⟩
        by_cases hj0 : j = 0
        · subst hj0
          refine .inr ⟨wl.goes 0 H7 Nat.zero_lt_one (SqL.of hl7), fun H => Same H3 H ∧ H l6 = some (.lst [.str R.ps[i]]) ∧ H D = some (SetGO (PySem.strKind P w) D (insAll (R.ps.take (i + 1)))), fun H' p' => ⟨0, Nat.zero_lt_one, rfl, Nat.le_refl 1, p'⟩, fun x H8 y => ?_⟩
          obtain ⟨rfl, ex⟩ := wl.yields 0 H7 x H8 Nat.zero_lt_one (SqL.of hl7) y
          cases ex
          refine ⟨rfl, ?_⟩
          dsimp only [tYes]
          rw [if_pos rfl]
          refine ⟨_, rfl, R.ps[i], _, rfl, hD7, ?_, same_upd s7 new, ?_, ?_⟩
          · have q1 := insAll_len (R.ps.take (i + 0))
            have q2 := wps.2.2
            have : 101 < scanBound := by decide
            rw [List.length_take] at q1
            omega
          · have n : l6 ≠ D := fun e => by
              rw [e, hD7] at hl7
              cases hl7
            rw [upd_ne n]
            exact hl7
          · rw [upd_same, insAll_take hx]
            rfl
        · have e1 : j = 1 := by omega
          subst e1
          exact .inl ⟨wl.stops H7 (SqL.of hl7), s7, hD7⟩
      · have e : i = R.ps.length := by omega
        subst e
        rw [List.take_length] at hD
        have wk := walk_tup (K := K) (a := R.p) (xs := R.ps.map V.str)
        have hst := wk.stops H4 (same_seqT s4 hp3)
        rw [List.length_map] at hst
        refine .inl ⟨hst, ?_⟩
        have hlen := insAll_len R.ps
        refine ⟨D, _, rfl, hD, by have := wps.2.2; omega, fun ys p hys hok hp => ⟨p, _, rfl, .inl ⟨SqL.of upd_same, fun u hu => ?_⟩⟩⟩
        have s5 := same_upd (o := .lst (ys.map V.str)) s4 (s4.free hp)
        have s6 := same_upd (o := .tup (ys.map V.str)) s5 (s5.free hu)
        have hl6 := s6 _ _ hl0
        refine ⟨l, [], .ref u, rfl, rfl, hl6, by decide, ?_⟩
        have nu' : u ≠ l := fun e => by
          rw [e, s5 _ _ hl0] at hu
          cases hu
        have nlH : H l = none := hl
        refine ⟨same_upd ((s2.trans s6)) nlH, _, rfl, .inr ⟨rfl, u, ys, upd_same, SqT.of (by rw [upd_ne nu', upd_same]), ?_⟩⟩
        exact hys.trans (by simpa [insAll] using insAll_nodup R.ps [] (by simpa using nd))
    · rintro σ H2 ⟨s2, v3, rfl, hh⟩
      rcases hh with ⟨z, _⟩ | ⟨_, u, ys, hl2, hu, hys⟩
      · cases z
      · refine ⟨_, rfl, l, _, rfl, .inl ⟨SqL.of hl2, fun t ht => ?_⟩⟩
        have s3 := same_upd (o := .tup [V.ref u]) (Same.refl H2) ht
        exact q _ t u ys (s2.trans s3) (SqT.of upd_same) (same_seqT s3 hu) hys
end
end Wm
/-! T11 -/
namespace Wm
open PySem PySem.Spec PyProof.Rows L2
def ff (ow he : Addr) : List (Str × V) := putF "held" (.ref he) (putF "own_who" (.ref ow) [])
theorem ff_eq (ow he : Addr) : ff ow he = ([("own_who", V.ref ow), ("held", V.ref he)] : List (Str × V)) := by
  unfold ff
  rfl
theorem ff_ow (ow he : Addr) : (ff ow he).lookup ("own_who" : Str) = some (.ref ow) := by rw [ff_eq] <;> rfl
theorem ff_he (ow he : Addr) : (ff ow he).lookup ("held" : Str) = some (.ref he) := by rw [ff_eq] <;> rfl
theorem ff_no (b ro : Addr) {m : Str} (h1 : (m == ("own_who" : Str)) = false) (h2 : (m == ("held" : Str)) = false) : (ff b ro).lookup m = none := by
  rw [ff_eq]
  simp [List.lookup, h1, h2]
theorem filt1 : ∀ {ys : List Str} {x : Str}, ys.Nodup → x ∈ ys → (ys.filterMap fun y => if y = x then some (V.str y) else none) = [V.str x]
  | y :: ys, x, nd, hx => by
    have n1 := List.nodup_cons.mp nd
    by_cases e : y = x
    · subst e
      rw [List.filterMap_cons]
      simp only [if_pos]
      have : (ys.filterMap fun z => if z = y then some (V.str z) else none) = [] := by
        rw [List.filterMap_eq_nil_iff]
        intro z hz
        refine if_neg fun e => n1.1 ?_
        rw [← e]
        exact hz
      rw [this]
    · rw [List.filterMap_cons]
      simp only [if_neg e]
      exact filt1 n1.2 ((List.mem_cons.mp hx).resolve_left fun z => e z.symm)
theorem eqV_str (x y : Str) : eqV (V.str x) (V.str y) = decide (x = y) := by
  show (x == y) = _
  by_cases h : x = y
  · subst h
    simp
  · rw [decide_eq_false h]
    simpa using h
section
variable {P : Program} {w : World} {K : PySem.W.Frag} {mg : Str → Option Value} {base : Heap}
structure FlAt (T : TX P K mg) (H : Hp) (f ow w1 he : Addr) (x : Str) (kvs : List (Key × V)) : Prop where
  ob : ∃ dx, H f = some (.ins T.filling_C dx (ff ow he))
  ow_ : H ow = some (.lst [.ref w1])
  w1_ : H w1 = some (.lst [.str x])
  he_ : H he = some (.dK kvs)
theorem FlAt.same {T : TX P K mg} {H H' : Hp} {f ow w1 he : Addr} {x : Str} {kvs : List (Key × V)} (h : FlAt T H f ow w1 he x kvs) (s : Same H H') : FlAt T H' f ow w1 he x kvs := by
  obtain ⟨⟨dx, a⟩, b, c, d⟩ := h
  exact ⟨⟨dx, s _ _ a⟩, s _ _ b, s _ _ c, s _ _ d⟩
def spFillInit (T : TX P K mg) : Sp := fun vs H Q _ => ∃ (R : Rnd) (f dx b c lot : Addr) (k : Int) (two : Bool) (nu : Nat) (x : Str), vs = [.ref f, .ref b, .ref lot, .int (nu : Nat)] ∧ H f = some (.ins T.filling_C dx []) ∧ BkAt T H R b c k two ∧ nu < (cls c two).length ∧ SqT K H lot [.str x] ∧ x ∈ R.ps ∧
  ∀ (H' : Hp) (ow w1 he : Addr), FlAt T H' f ow w1 he x [] → H he = none → (∀ z o, z ≠ f → H z = some o → H' z = some o) → Q .non H'
theorem ok_fillInit (T : TX P K mg) : FnOk P w K mg base CX0 3 T.fillInit_f T.fillInit_d ["self", "book", "lot", "number"] (spFillInit T) := by
  refine T.fillInit_F.ok scFillInit (fun vs H Q E h => ?_) (fun cdv A outer s H vs Q E hr h => ?_)
  · obtain ⟨R, f, dx, b, c, lot, k, two, nu, x, rfl, _⟩ := h
    rfl
  · obtain ⟨R, f, dx, b, c, lot, k, two, nu, x, rfl, hf, hb, hnu, hlot, hx, q⟩ := h
    refine ⟨_, pss_cons (ps_fld (pv 0) (pe_lc (own := [("who", 5)]) (g := gName 5) (tt := tYes) (te := tLc (iTup K (tVar 5)) (gName 4) (tTest (tOp (rIn K false) (tVar 4) (tVar 2))) (tVar 4) [4]) rfl scFillInit.nd (pi_tup (pe_call (ok_whoMay T) hr (by rfl) T.whoMay_g T.whoMay_F.kp T.whoMay_b .nil pass0 (pa_cons (pv 1) (pa_cons (pv 3) pa_nil)))) (blkOk_by (N := ["self", "book", "lot", "number", "person", "who"]) (sc := defScope sFillInit) (by decide +kernel)) (fun _ _ _ _ _ => pg_name (i := 5) scFillInit.nd rfl (Or.inl rfl)) (fun _ _ _ _ _ => pts_nil)
        (fun _ _ _ _ _ => pe_lc (own := [("person", 4)]) (g := gName 4) (tt := tTest (tOp (rIn K false) (tVar 4) (tVar 2))) (te := tVar 4) rfl scFillInit.nd (pi_tup (pv 5)) (blkOk_by (N := ["self", "book", "lot", "number", "person", "who"]) (sc := { kind := ScopeKind.function, names := [(Str.ofString ".0", NameKind.local), (Str.ofString "who", NameKind.local), (Str.ofString "lot", NameKind.cell)], isGenerator := false, isCoroutine := false }) (by decide +kernel)) (fun _ _ _ _ _ => pg_name (i := 4) scFillInit.nd rfl (Or.inl rfl)) (fun _ _ _ _ _ => pts_one (pt_cmpR op_in_seq (pv 4) (pv 2) (by rfl))) (fun _ _ _ _ _ => pv 4))) rfl)
      (pss_one (ps_fld (pv 0) pe_dnewK rfl)), ?_⟩
    have hrd := hb.rd
    have nd := rise_nodup hrd.1.w_.2.1
    refine ⟨_, rfl, _, rfl, R, b, c, k, two, nu, rfl, hb, hnu, fun H1 t u ys s1 ht hu hys => ⟨t, rfl, ⟨_, ht⟩, fun D new => ?_⟩⟩
    have hys3 : ys.length ≤ 3 := by rw [hys.length_eq]; exact hrd.1.w_.2.2
    refine lc_it (walk_tup (xs := [V.ref u])) (fun i H' => Same H1 H' ∧ ((i = 0 ∧ H' D = some (.lst [])) ∨ (i = 1 ∧ ∃ w1 : Addr, w1 ≠ D ∧ H' D = some (.lst [.ref w1]) ∧ H' w1 = some (.lst [.str x])))) ⟨same_upd (Same.refl _) new, .inl ⟨rfl, upd_same⟩⟩ (fun i H' _ h => same_seqT h.1 ht) (fun i v H2 H3 hi hh y => ?_) (fun H2 hh => ?_)
    · obtain ⟨rfl, ex⟩ := y
      have h0 : i = 0 := by
        have : i < 1 := hi
        omega
      subst h0
      cases ex
      obtain ⟨s2, hh⟩ := hh
      have hD : H3 D = some (.lst []) := by
        rcases hh with ⟨_, h⟩ | ⟨z, _⟩
        · exact h
        · cases z
      refine ⟨rfl, ?_⟩
      dsimp only [tYes]
      rw [if_pos rfl]
      have hu3 := same_seqT s2 hu
      have hlot3 := same_seqT (s1.trans s2) hlot
      refine ⟨_, rfl, u, rfl, ⟨_, hu3⟩, fun D2 new2 => ?_⟩
      refine lc_pure (walk_tup (xs := ys.map V.str)) (fun _ _ s q => same_seqT s q) (fun i => (ys[i]?).bind fun y => if y = x then some (V.str y) else none) hu3 new2 (by rw [List.length_map]; exact Nat.lt_of_le_of_lt hys3 (by decide)) (fun i v H4 H5 Pk Nk hi s4 _ y hP hN => ?_) (fun H4 s4 h4 => ?_)
      · obtain ⟨rfl, hx'⟩ := y
        rw [List.getElem?_map] at hx'
        obtain ⟨z, ez, rfl⟩ := Option.map_eq_some_iff.mp hx'
        rw [ez] at hP hN
        refine ⟨rfl, _, rfl, _, rfl, lot, _, rfl, .inr (same_seqT s4 hlot3), rfl, rfl, _, rfl, ?_⟩
        have e1 : inV (V.str z) [V.str x] = decide (x = z) := by
          unfold inV
          rw [List.any_cons, List.any_nil, Bool.or_false, eqV_str]
        show if inV (V.str z) [V.str x] = true then _ else _
        rw [e1]
        by_cases hz : x = z
        · subst hz
          exact ifT (decide_eq_true rfl) ⟨_, rfl, hP _ _ (Same.refl _) (by simp)⟩
        · exact ifF (decide_eq_false hz) (hN _ (Same.refl _) (by simp [Ne.symm hz]))
      · have e2 : (List.range (ys.map V.str).length).filterMap (fun i => (ys[i]?).bind fun y => if y = x then some (V.str y) else none) = [V.str x] := by
          rw [List.length_map, range_bindF, filt1 (hys.nodup_iff.mpr nd) (hys.mem_iff.mpr hx)]
        rw [e2] at h4
        have nD : D2 ≠ D := fun e => by rw [e, hD] at new2; cases new2
        refine ⟨[], s4 _ _ hD, by decide, same_upd (s2.trans s4) new, .inr ⟨rfl, D2, nD, upd_same, by rw [upd_ne nD]; exact h4⟩⟩
    · obtain ⟨s2, hh⟩ := hh
      rcases hh with ⟨z, _⟩ | ⟨_, w1, nw, hD, hw1⟩
      · cases z
      · have s12 := s1.trans s2
        refine ⟨_, rfl, f, _, dx, [], rfl, s12 _ _ hf, T.filling_c, T.filling_own_who, (by show 0 < 1000; decide), fun he hhe => ?_⟩
        have s3 : ∀ z o, z ≠ f → H z = some o → upd H2 f (.ins T.filling_C dx (putF "own_who" (.ref D) [])) z = some o := but_upd fun z o _ e => s12 z o e
        obtain ⟨s4, n4⟩ := but_new (o := .dK []) s3 hhe ⟨_, upd_same⟩
        refine ⟨_, rfl, f, _, dx, _, rfl, by rw [upd_ne n4.symm, upd_same], T.filling_c, T.filling_held, (by show 1 < 1000; decide), ?_⟩
        have nDf : D ≠ f := fun e => by rw [e, s12 _ _ hf] at hD; cases hD
        have nwf : w1 ≠ f := fun e => by rw [e, s12 _ _ hf] at hw1; cases hw1
        have nDh : D ≠ he := fun e => by rw [← e, upd_ne nDf, hD] at hhe; cases hhe
        have nwh : w1 ≠ he := fun e => by rw [← e, upd_ne nwf, hw1] at hhe; cases hhe
        exact q _ D w1 he ⟨⟨dx, upd_same⟩, by rw [upd_ne nDf, upd_ne nDh, upd_ne nDf]; exact hD, by rw [upd_ne nwf, upd_ne nwh, upd_ne nwf]; exact hw1, by rw [upd_ne n4, upd_same]⟩ (s12.free (by rw [upd_ne n4] at hhe; exact hhe)) (but_upd s4)
def spFillPut (T : TX P K mg) : Sp := fun vs H Q _ => ∃ (f ow w1 he td : Addr) (x : Str), vs = [.ref f, .int 0, .ref td] ∧ FlAt T H f ow w1 he x [] ∧ H td = some (.dK []) ∧ td ≠ he ∧
  ∀ H', FlAt T H' f ow w1 he x [(.inr x, .int 0)] → (∀ z o, z ≠ he → z ≠ td → H z = some o → H' z = some o) → Q (.bl true) H'
theorem ok_fillPut (T : TX P K mg) : FnOk P w K mg base CX0 1 T.fillPut_f T.fillPut_d ["self", "slot", "tried"] (spFillPut T) := by
  refine T.fillPut_F.ok scFillPut (fun vs H Q E h => ?_) (fun cdv A outer s H vs Q E hr h => ?_)
  · obtain ⟨f, ow, w1, he, td, x, rfl, _⟩ := h
    rfl
  · obtain ⟨f, ow, w1, he, td, x, rfl, hF, htd, hne, q⟩ := h
    have hu := hu_of hr
    refine ⟨_, pss_cons (ps_for PassesOwn.never rfl (pi_list (pe_ix ix_list (pe_fld (pv 0) rfl) (pv 1) (fun _ _ => rfl))) (pg_name (i := 3) scFillPut.nd rfl (Or.inl rfl))
        (pss_one (ps_if (pt_cmp (pc_dnotin hu (pv 3) (pv 2))) (pss_cons (ps_dput hu (pv 2) (pv 3) pe_bl rfl)
          (pss_one (ps_if (PW.pt (pw_or (pt_cmp (pc_dnotin hu (pv 3) (pe_fld (pv 0) rfl))) (pw_or1 pt_never))) (pss_cons (ps_dput hu (pe_fld (pv 0) rfl) (pv 3) (pv 1) rfl) (pss_one (ps_ret pe_bl))) pss_nil))) pss_nil)))
      (pss_one (ps_ret pe_bl)), ?_⟩
    obtain ⟨⟨dx, h1⟩, h2, h3, h4⟩ := hF
    refine ⟨_, rfl, f, _, dx, _, _, rfl, h1, T.filling_c, T.filling_own_who, ff_ow _ _, _, rfl, ow, _, 0, .ref w1, rfl, rfl, SqL.of h2, at_of (j := 0) rfl rfl, w1, rfl, ⟨_, SqL.of h3⟩, ?_⟩
    refine for_it (walk_list (xs := [V.str x])) (fun i σ H' => i = 0 ∧ H' = H ∧ σ = [some (.ref f), some (.int 0), some (.ref td), none]) ⟨rfl, rfl, rfl⟩ (fun i σ H' _ h => by rw [h.2.1]; exact SqL.of h3) ?_ ?_
    · rintro i v σ H2 H3 hi ⟨rfl, rfl, rfl⟩ ⟨rfl, ex⟩
      cases ex
      refine ⟨_, rfl, _, rfl, td, _, rfl, DGet.k (k := Sum.inr x) htd, _, rfl, iteT ?_⟩
      refine ⟨_, rfl, _, rfl, td, _, rfl, DPut.k (k := Sum.inr x) htd (by decide), ?_⟩
      have nf : f ≠ td := ne_of h1 htd (by intro z; cases z)
      have nh : he ≠ td := fun e => hne e.symm
      refine ⟨_, rfl, _, rfl, f, _, dx, _, _, rfl, by rw [upd_ne nf]; exact h1, T.filling_c, T.filling_held, ff_he _ _, he, _, rfl, DGet.k (k := Sum.inr x) (by rw [upd_ne nh]; exact h4), _, rfl, ?_⟩
      refine ifT rfl ?_
      refine ifT rfl ?_
      refine ⟨_, rfl, _, rfl, f, _, dx, _, _, rfl, by rw [upd_ne nf]; exact h1, T.filling_c, T.filling_held, ff_he _ _, _, rfl, he, _, rfl, DPut.k (k := Sum.inr x) (by rw [upd_ne nh]; exact h4) (by decide), ?_⟩
      have nfh : f ≠ he := ne_of h1 h4 (by intro z; cases z)
      have noh : ow ≠ he := ne_of h2 h4 (by intro z; cases z)
      have not' : ow ≠ td := ne_of h2 htd (by intro z; cases z)
      have nwh : w1 ≠ he := ne_of h3 h4 (by intro z; cases z)
      have nwt : w1 ≠ td := ne_of h3 htd (by intro z; cases z)
      refine q _ ⟨⟨dx, by rw [upd_ne nfh, upd_ne nf]; exact h1⟩, by rw [upd_ne noh, upd_ne not']; exact h2, by rw [upd_ne nwh, upd_ne nwt]; exact h3, upd_same⟩ fun z o n1 n2 e => ?_
      rw [upd_ne n1, upd_ne n2]
      exact e
    · rintro σ H2 ⟨z, _⟩
      cases z
end
end Wm
/-! T12 -/
namespace Wm
open PySem PySem.Spec PyProof.Rows L2
section
variable {P : Program} {w : World} {K : PySem.W.Frag} {mg : Str → Option Value} {base : Heap}
def spFailing (T : TX P K mg) : Sp := fun vs H Q _ => ∃ (f ow w1 he : Addr) (x : Str), vs = [.ref f] ∧ FlAt T H f ow w1 he x [] ∧
  ∀ H', FlAt T H' f ow w1 he x [(.inr x, .int 0)] → (∀ z o, z ≠ he → H z = some o → H' z = some o) → Q .non H'
theorem ok_fillFailing (T : TX P K mg) : FnOk P w K mg base CX0 2 T.fillFailing_f T.fillFailing_d ["self"] (spFailing T) := by
  refine T.fillFailing_F.ok scFillFailing (fun vs H Q E h => ?_) (fun cdv A outer s H vs Q E hr h => ?_)
  · obtain ⟨f, ow, w1, he, x, rfl, _⟩ := h
    rfl
  · obtain ⟨f, ow, w1, he, x, rfl, hF, q⟩ := h
    refine ⟨_, pss_cons (ps_for PassesOwn.never rfl (pi_range1 rfl T.z_range (pa_cons (pe_callB call_len_seq (by rfl) T.z_len PySem.boot_len (pa_cons (pe_fld (pv 0) rfl) pa_nil)) pa_nil)) (pg_name (i := 1) scFillFailing.nd rfl (Or.inl rfl))
        (pss_cons (ps_set (i := 2) scFillFailing.nd rfl (Or.inl rfl) pe_dnewK) (pss_one (ps_if (pt_not (pt_val (pe_meth (pv 0) T.filling_c T.fillPut_m (ok_fillPut T) hr T.fillPut_b .nil pass0 (pa_cons (pv 1) (pa_cons (pv 2) pa_nil))))) (pss_one ps_never) pss_nil))))
      (pss_one (ps_ret pe_non)), ?_⟩
    obtain ⟨⟨dx, h1⟩, h2, h3, h4⟩ := id hF
    refine ⟨_, rfl, f, _, dx, _, _, rfl, h1, T.filling_c, T.filling_own_who, ff_ow _ _, ow, _, rfl, .inl (SqL.of h2), _, rfl, (show -(2 ^ 62) ≤ (1 : Int) by decide), (show (1 : Int) < 2 ^ 62 by decide), ?_⟩
    refine for_it (walk_range (lo := 0) (n := 1)) (fun i σ H' => ∃ v1 v2, σ = [some (.ref f), v1, v2, none] ∧ ((i = 0 ∧ H' = H) ∨ (i = 1 ∧ FlAt T H' f ow w1 he x [(.inr x, .int 0)] ∧ (∀ z o, z ≠ he → H z = some o → H' z = some o)))) ⟨_, _, rfl, .inl ⟨rfl, rfl⟩⟩ (fun _ _ _ _ _ => trivial) ?_ ?_
    · rintro i v σ H2 H3 hi ⟨v1, v2, rfl, hh⟩ ⟨rfl, rfl⟩
      have h0 : i = 0 := by omega
      subst h0
      rcases hh with ⟨_, rfl⟩ | ⟨z, _⟩
      · intro td htd
        have s1 := same_upd (o := .dK []) (Same.refl H3) htd
        have nth : td ≠ he := fun e => by rw [e, h4] at htd; cases htd
        refine ⟨_, rfl, f, dx, _, rfl, s1 _ _ h1, ff_no _ _ (by decide +kernel) (by decide +kernel), _, rfl, _, rfl, f, ow, w1, he, td, x, rfl, hF.same s1, upd_same, nth, fun H4 h4' k4 => ⟨true, rfl, iteF ?_⟩⟩
        refine ⟨_, _, rfl, .inr ⟨rfl, h4', fun z o hz e => ?_⟩⟩
        exact k4 z o hz (fun e2 => by rw [e2, htd] at e; cases e) (s1 z o e)
      · cases z
    · rintro σ H2 ⟨v1, v2, rfl, hh⟩
      rcases hh with ⟨z, _⟩ | ⟨_, hF2, k2⟩
      · cases z
      · exact q _ hF2 k2
def spInOrder (T : TX P K mg) : Sp := fun vs H Q _ => ∃ (f ow w1 he : Addr) (x : Str), vs = [.ref f] ∧ FlAt T H f ow w1 he x [(.inr x, .int 0)] ∧ ∀ H' t, Same H H' → Q (.ref t) H'
theorem ok_fillInOrder (T : TX P K mg) : FnOk P w K mg base CX0 1 T.fillInOrder_f T.fillInOrder_d ["self"] (spInOrder T) := by
  refine T.fillInOrder_F.ok scFillInOrder (fun vs H Q E h => ?_) (fun cdv A outer s H vs Q E hr h => ?_)
  · obtain ⟨f, ow, w1, he, x, rfl, _⟩ := h
    rfl
  · obtain ⟨f, ow, w1, he, x, rfl, hF, q⟩ := h
    refine ⟨_, pss_cons (ps_set (i := 1) scFillInOrder.nd rfl (Or.inl rfl) (pe_callB cr_sort1 (by rfl) T.z_sorted (by decide +kernel) (pa_cons (pe_lock (pe_lc (own := [("person", 2), ("slot", 3)]) (g := gTup K 2 (gCons (gName 2) (gCons (gName 3) gNil))) (tt := tYes) rfl scFillInOrder.nd (pi_items (pe_fld (pv 0) rfl)) (blkOk_by (N := ["self", "rows", "person", "slot"]) (sc := defScope sFillInOrder) (by decide +kernel)) (fun _ _ _ _ _ => pg_tup (by rfl) (pgs_cons (pg_name (i := 2) scFillInOrder.nd rfl (Or.inl rfl)) (pgs_cons (pg_name (i := 3) scFillInOrder.nd rfl (Or.inl rfl)) pgs_nil))) (fun _ _ _ _ _ => pts_nil) (fun _ _ _ _ _ => (pe_tup (pa_cons (pv 3) (pa_cons (pv 2) pa_nil)))))) pa_nil)))
      (pss_one (ps_ret (pe_callTy call_tuple_of (by rfl) T.z_tuple (by decide +kernel) (pa_cons (pe_lc (own := [("slot", 3), ("person", 2)]) (g := gTup K 2 (gCons (gName 3) (gCons (gName 2) gNil))) (tt := tYes) rfl scFillInOrder.nd (pi_list (pv 1)) (blkOk_by (N := ["self", "rows", "person", "slot"]) (sc := defScope sFillInOrder) (by decide +kernel)) (fun _ _ _ _ _ => pg_tup (by rfl) (pgs_cons (pg_name (i := 3) scFillInOrder.nd rfl (Or.inl rfl)) (pgs_cons (pg_name (i := 2) scFillInOrder.nd rfl (Or.inl rfl)) pgs_nil))) (fun _ _ _ _ _ => pts_nil) (fun _ _ _ _ _ => (pv 2))) pa_nil)))), ?_⟩
    obtain ⟨⟨dx, h1⟩, h2, h3, h4⟩ := id hF
    refine ⟨he, _, h4, trivial, fun od => ?_⟩
    have nf : f ≠ he := ne_of h1 h4 (by intro z; cases z)
    refine ⟨_, rfl, f, _, dx, _, _, rfl, by rw [upd_ne nf]; exact h1, T.filling_c, T.filling_held, ff_he _ _, he, od, _, rfl, upd_same, fun D new => ?_⟩
    generalize hH1 : upd H he (.frz od (.dK [(Sum.inr x, V.int 0)])) = H1 at new ⊢
    have hz1 : H1 he = some (.frz od (.dK [(Sum.inr x, V.int 0)])) := by rw [← hH1, upd_same]
    have nD : D ≠ he := fun e => by rw [e, hz1] at new; cases new
    refine lc_it (walk_items (kvs := [(Sum.inr x, V.int 0)])) (fun i H' => Same H1 H' ∧ ((i = 0 ∧ H' D = some (.lst [])) ∨ (i = 1 ∧ ∃ t : Addr, t ≠ D ∧ H' D = some (.lst [.ref t]) ∧ H' t = some (.tup [.int 0, .str x])))) ⟨same_upd (Same.refl _) new, .inl ⟨rfl, upd_same⟩⟩ (fun i H' _ h => h.1 _ _ hz1) (fun i v H2 H3 hi hh y => ?_) (fun H2 hh => ?_)
    · obtain ⟨t0, a, b, rfl, ht0, rfl, ea, eb⟩ := y
      have h0 : i = 0 := by
        have : i < 1 := hi
        omega
      subst h0
      cases ea
      cases eb
      obtain ⟨s2, hh⟩ := hh
      have hD : H2 D = some (.lst []) := by
        rcases hh with ⟨_, h⟩ | ⟨z, _⟩
        · exact h
        · cases z
      have s3 := same_upd (o := .tup [V.str x, V.int 0]) s2 (s2.free ht0)
      have nt0 : D ≠ t0 := fun e => by rw [← e, hD] at ht0; cases ht0
      refine ⟨t0, _, rfl, SqT.of upd_same, rfl, _, _, rfl, _, _, rfl, rfl, rfl, ?_⟩
      dsimp only [tYes]
      rw [if_pos rfl]
      refine ⟨_, rfl, _, rfl, (by show 2 ≤ sizeLine; decide), fun t ht => ?_⟩
      have nt : D ≠ t := fun e => by rw [← e, upd_ne nt0, hD] at ht; cases ht
      refine ⟨[], by rw [upd_ne nt, upd_ne nt0]; exact hD, by decide, same_upd (same_upd s3 (s3.free ht)) new, .inr ⟨rfl, t, nt.symm, upd_same, by rw [upd_ne nt.symm, upd_same] <;> rfl⟩⟩
    · obtain ⟨s2, hh⟩ := hh
      rcases hh with ⟨z, _⟩ | ⟨_, t, nt, hD, ht⟩
      · cases z
      · refine ⟨s2 _ _ hz1, ?_⟩
        have nth : t ≠ he := fun e => by rw [e, s2 _ _ hz1] at ht; cases ht
        have s3 : Same H (upd H2 he (.dK [(Sum.inr x, V.int 0)])) := fun z o e => by
          by_cases hz : z = he
          · subst hz
            rw [upd_same, ← h4, e]
          · rw [upd_ne hz]
            refine s2 z o ?_
            rw [← hH1, upd_ne hz]
            exact e
        refine ⟨D, _, rfl, SqL.of (by rw [upd_ne nD]; exact hD), fun l hl => ?_⟩
        have s4 := same_upd (o := .lst [V.ref t]) s3 (s3.free hl)
        have htl : (upd (upd H2 he (.dK [(Sum.inr x, V.int 0)])) l (.lst [V.ref t])) t = some (.tup [.int 0, .str x]) := by
          have e : (upd H2 he (.dK [(Sum.inr x, V.int 0)])) t = some (.tup [.int 0, .str x]) := by rw [upd_ne nth]; exact ht
          rw [upd_ne (ne_of_none e hl)]
          exact e
        refine ⟨_, rfl, l, rfl, ⟨_, SqL.of upd_same⟩, fun D2 new2 => ?_⟩
        refine lc_map (walk_list (xs := [V.ref t])) (fun _ _ s q => s.seq q) (fun _ => .str x) (SqL.of upd_same) new2 (show 1 < sizeLine by decide) (fun i v H5 H6 Pk hi s5 _ y hP => ?_) (fun H5 s5 h5 => ?_)
        · obtain ⟨rfl, ex⟩ := y
          have h0 : i = 0 := by
            have : i < 1 := hi
            omega
          subst h0
          cases ex
          exact ⟨t, _, rfl, SqT.of (s5 _ _ htl), rfl, _, _, rfl, _, _, rfl, rfl, rfl, _, rfl, hP _ (Same.refl _)⟩
        · exact ⟨D2, _, rfl, .inl ⟨SqL.of h5, fun t2 ht2 => q _ t2 ((s4.trans s5).trans (same_upd (Same.refl _) ht2))⟩⟩
def spTriedOut (T : TX P K mg) : Sp := fun vs H Q _ => ∃ (R : Rnd) (b c lot : Addr) (k : Int) (two : Bool) (nu : Nat) (x : Str), vs = [.ref b, .ref lot, .int (nu : Nat)] ∧ BkAt T H R b c k two ∧ nu < (cls c two).length ∧ SqT K H lot [.str x] ∧ x ∈ R.ps ∧
  ∀ H' t u, Same H H' → SqT K H' t [.ref u, .non] → Q (.ref t) H'
theorem ok_triedOut (T : TX P K mg) : FnOk P w K mg base CX0 5 T.triedOut_f T.triedOut_d ["book", "lot", "number"] (spTriedOut T) := by
  refine T.triedOut_F.ok scTriedOut (fun vs H Q E h => ?_) (fun cdv A outer s H vs Q E hr h => ?_)
  · obtain ⟨R, b, c, lot, k, two, nu, x, rfl, _⟩ := h
    rfl
  · obtain ⟨R, b, c, lot, k, two, nu, x, rfl, hb, hnu, hlot, hx, q⟩ := h
    refine ⟨_, pss_cons (ps_set (i := 3) scTriedOut.nd rfl (Or.inl rfl) (pe_make T.filling_m (ok_fillInit T) hr (by rfl) T.filling_g T.fillInit_b .nil pass0 (pa_cons (pv 0) (pa_cons (pv 1) (pa_cons (pv 2) pa_nil)))))
      (pss_cons (ps_set (i := 4) scTriedOut.nd rfl (Or.inl rfl) (pe_meth0 (pv 3) T.filling_c T.fillFailing_m (ok_fillFailing T) (hr.mono (by decide)) T.fillFailing_b .nil pass0))
      (pss_one (ps_ret (pe_ifExp (pt_cmpR op_isN (pv 4) pe_non (nomark _)) (pe_tup (pa_cons (pe_meth0 (pv 3) T.filling_c T.fillInOrder_m (ok_fillInOrder T) (hr.mono (by decide)) T.fillInOrder_b .nil pass0) (pa_cons pe_non pa_nil))) pe_never)))), ?_⟩
    refine ⟨_, rfl, _, rfl, _, rfl, fun f dx nf ndx ne => ?_⟩
    have s0 : Same H (upd (upd H dx (.own f)) f (.ins T.filling_C dx [])) := same_upd (same_upd (Same.refl H) ndx) nf
    refine ⟨R, f, dx, b, c, lot, k, two, nu, x, rfl, upd_same, Firm.bk (Firm.same s0) hb, hnu, same_seqT s0 hlot, hx, fun H1 ow w1 he hF he0 k1 => ⟨rfl, ?_⟩⟩
    have s1 : Same H H1 := fun z o e => k1 z o (ne_of_none e nf) (s0 z o e)
    obtain ⟨⟨dx1, h1⟩, h2, h3, h4⟩ := id hF
    refine ⟨_, rfl, f, dx1, _, rfl, h1, ff_no _ _ (by decide +kernel) (by decide +kernel), f, ow, w1, he, x, rfl, hF, fun H2 hF2 k2 => ?_⟩
    have nhe : H he = none := s0.free he0
    have s2 : Same H H2 := fun z o e => k2 z o (ne_of_none e nhe) (s1 z o e)
    obtain ⟨⟨dx2, h12⟩, _⟩ := id hF2
    refine ⟨_, rfl, rfl, _, rfl, iteT ⟨_, rfl, f, dx2, _, rfl, h12, ff_no _ _ (by decide +kernel) (by decide +kernel), f, ow, w1, he, x, rfl, hF2, fun H3 t s3 => ⟨(by show 2 ≤ sizeLine; decide), fun p hp => ?_⟩⟩⟩
    exact q _ p t ((s2.trans s3).trans (same_upd (Same.refl _) hp)) (SqT.of upd_same)
end
end Wm
/-! T13 -/
namespace Wm
open PySem PySem.Spec PyProof.Rows L2
section
variable {P : Program} {w : World} {K : PySem.W.Frag} {mg : Str → Option Value} {base : Heap}
def spDoesSign (T : TX P K mg) : Sp := fun vs H Q _ => ∃ (R : Rnd) (b c lot : Addr) (k : Int) (two : Bool) (nu : Nat) (x : Str), vs = [.ref b, .ref lot, .int (nu : Nat)] ∧ BkAt T H R b c k two ∧ nu < (cls c two).length ∧ SqT K H lot [.str x] ∧ x ∈ R.ps ∧
  ∀ H', Same H H' → Q (.bl true) H'
theorem ok_doesSign (T : TX P K mg) : FnOk P w K mg base CX0 6 T.doesSign_f T.doesSign_d ["book", "lot", "number"] (spDoesSign T) := by
  refine T.doesSign_F.ok scDoesSign (fun vs H Q E h => ?_) (fun cdv A outer s H vs Q E hr h => ?_)
  · obtain ⟨R, b, c, lot, k, two, nu, x, rfl, _⟩ := h
    rfl
  · obtain ⟨R, b, c, lot, k, two, nu, x, rfl, hb, hnu, hlot, hx, q⟩ := h
    refine ⟨_, pss_one (ps_ret (pe_cmpR op_notN (pe_ix ix_tup (pe_call (ok_triedOut T) hr (by rfl) T.triedOut_g T.triedOut_F.kp T.triedOut_b .nil pass0 (pa_cons (pv 0) (pa_cons (pv 1) (pa_cons (pv 2) pa_nil)))) pe_int (fun _ _ => rfl)) pe_non (nomark _))), ?_⟩
    exact ⟨_, rfl, _, rfl, _, rfl, R, b, c, lot, k, two, nu, x, rfl, hb, hnu, hlot, hx, fun H1 t u s1 ht => ⟨t, _, 0, _, rfl, rfl, ht, at_of (j := 0) rfl rfl, rfl, q _ s1⟩⟩
/-! ### pay -/
theorem row_snoc {H : Hp} {t pm : Addr} {as : List Addr} {am : List Int} {m : Int} (hl : as.length = am.length) (hp : ∀ (i : Nat) (a : Addr) (m : Int), as[i]? = some a → am[i]? = some m → SqT K H a [.int ((i : Int) + 1), .int 0, .int m]) (hpm : SqT K H pm [.int ((am.length : Int) + 1), .int 0, .int m]) (ht : SqT K H t (as.map V.ref ++ [V.ref pm])) : RowAt K H t (am ++ [m]) := by
  refine ⟨as ++ [pm], by simp [hl], by rw [List.map_append]; exact ht, fun i a m' e1 e2 => ?_⟩
  by_cases hi : i < as.length
  · rw [List.getElem?_append_left hi] at e1
    rw [List.getElem?_append_left (by omega)] at e2
    exact hp i a m' e1 e2
  · rw [List.getElem?_append_right (by omega)] at e1
    rw [List.getElem?_append_right (by omega)] at e2
    have e0 : i = as.length := by
      have := (List.getElem?_eq_some_iff.mp e1).1
      simp at this
      omega
    subst e0
    simp at e1
    rw [hl] at e2
    simp at e2
    subst e1 e2
    rw [hl]
    exact hpm
theorem words_one {R : Rnd} {H : Hp} (h : RndOk K H R) {x : Str} (hx : x ∈ R.ps) : Words [x] := ⟨fun y hy => by rw [List.mem_singleton.mp hy]; exact h.1.w_.1 x hx, List.pairwise_singleton _ _, show 1 ≤ 3 by decide⟩
theorem words_nil : Words [] := ⟨fun y hy => (nomatch hy), List.Pairwise.nil, show 0 ≤ 3 by decide⟩
def spPay (T : TX P K mg) : Sp := fun vs H Q _ => ∃ (R : Rnd) (d b c ro lot pm : Addr) (k : Int) (two : Bool) (am : List Int) (m : Int) (x : Str), vs = [.ref d, .ref lot, .ref pm] ∧ DkAt T H d b ro ∧ BkAt T H R b c k two ∧ RowAt K H ro am ∧ AmOk (am ++ [m]) ∧ SqT K H lot [.str x] ∧ x ∈ R.ps ∧
  SqT K H pm [.int ((am.length : Int) + 1), .int 0, .int m] ∧ ∀ H' ro', DkAt T H' d b ro' → RowAt K H' ro' (am ++ [m]) → (∀ z o, z ≠ d → H z = some o → H' z = some o) → Q .non H'
theorem ok_pay (T : TX P K mg) : FnOk P w K mg base CX0 7 T.deskPay_f T.deskPay_d ["self", "lot", "payment"] (spPay T) := by
  refine T.deskPay_F.ok scDeskPay (fun vs H Q E h => ?_) (fun cdv A outer s H vs Q E hr h => ?_)
  · obtain ⟨R, d, b, c, ro, lot, pm, k, two, am, m, x, rfl, _⟩ := h
    rfl
  · obtain ⟨R, d, b, c, ro, lot, pm, k, two, am, m, x, rfl, ⟨dx, hd⟩, hb, hrow, hm, hlot, hx, hpm, q⟩ := h
    refine ⟨_, pss_cons (ps_expr (pe_call (ok_needLot T) (hr.mono (by decide)) (by rfl) T.needLot_g T.needLot_F.kp T.needLot_b .nil pass0 (pa_cons (pe_fld (pe_fld (pv 0) rfl) rfl) (pa_cons (pv 1) pa_nil))))
      (pss_cons (ps_if (PW.pt (pw_or (pt_not (pt_val (pe_call (ok_isPayment T) (hr.mono (by decide)) (by rfl) T.isPayment_g T.isPayment_F.kp T.isPayment_b .nil pass0 (pa_cons (pe_fld (pv 0) rfl) (pa_cons (pv 2) pa_nil))))) (pw_or1 (pt_not (pt_val (pe_call (ok_keeps T) (hr.mono (by decide)) (by rfl) T.keeps_g T.keeps_F.kp T.keeps_b .nil pass0 (pa_cons (pe_fld (pv 0) rfl) (pa_cons (pe_tup (StX.pa_star (pe_fld (pv 0) rfl) (pa_cons (pv 2) pa_nil))) pa_nil)))))))) (pss_one ps_never) pss_nil)
      (pss_cons (ps_if (pt_not (pt_val (pe_call (ok_doesSign T) hr (by rfl) T.doesSign_g T.doesSign_F.kp T.doesSign_b .nil pass0 (pa_cons (pe_fld (pv 0) rfl) (pa_cons (pv 1) (pa_cons (pe_ix ix_tup (pv 2) pe_int (fun _ _ => rfl)) pa_nil)))))) (pss_one ps_never) pss_nil)
      (pss_one (ps_fld (pv 0) (pe_tup (StX.pa_star (pe_fld (pv 0) rfl) (pa_cons (pv 2) pa_nil))) rfl)))), ?_⟩
    obtain ⟨hcl, hrd, dxb, cs, lt, hob, hcs, hlt⟩ := id hb
    refine ⟨_, rfl, d, _, dx, _, _, rfl, hd, T.desk_c, T.desk_own_book, df_b _ _, b, _, dxb, _, _, rfl, hob, T.book_c, T.book_people, bf_p _ _ _, _, rfl, R.p, lot, R.ps, [x], rfl, hrd.1.p_, hlot, words_one hrd hx, (fun y hy => by rw [List.mem_singleton.mp hy]; exact hx), fun H1 s1 => ?_⟩
    have hpos : 1 ≤ m := (hm.1 m (by simp)).1
    refine ⟨_, rfl, d, _, dx, _, _, rfl, s1 _ _ hd, T.desk_c, T.desk_own_book, df_b _ _, _, rfl, R, b, c, k, two, _, rfl, Firm.bk (Firm.same s1) hb, .inr ⟨pm, _, m, rfl, same_seqT s1 hpm, by omega, hpos, true, rfl, iteF ?_⟩⟩
    obtain ⟨as, hl, hs, hp⟩ := id hrow
    have hsz : (as.map V.ref ++ [V.ref pm]).length ≤ sizeLine := by
      rw [List.length_append, List.length_map, hl]
      have := hm.2
      rw [List.length_append] at this
      exact Nat.le_trans (show am.length + [V.ref pm].length ≤ 12 from this) (by decide)
    refine ⟨_, rfl, d, _, dx, _, _, rfl, s1 _ _ hd, T.desk_c, T.desk_own_book, df_b _ _, _, rfl, d, _, dx, _, _, rfl, s1 _ _ hd, T.desk_c, T.desk_own_row, df_r _ _, ro, _, rfl, .inl (same_seqT s1 hs), _, rfl, hsz, fun t ht => ?_⟩
    have s2 := same_upd (o := .tup (as.map V.ref ++ [V.ref pm])) s1 (s1.free ht)
    have hrow2 : RowAt K (upd H1 t (.tup (as.map V.ref ++ [V.ref pm]))) t (am ++ [m]) := row_snoc hl (fun i a m e1 e2 => same_seqT s2 (hp i a m e1 e2)) (same_seqT s2 hpm) (SqT.of upd_same)
    refine ⟨R, b, c, t, k, two, am ++ [m], rfl, Firm.bk (Firm.same s2) hb, hrow2, hm, fun H2 s3 => ⟨true, rfl, iteF ?_⟩⟩
    have s4 := s2.trans s3
    refine ⟨_, rfl, d, _, dx, _, _, rfl, s4 _ _ hd, T.desk_c, T.desk_own_book, df_b _ _, _, rfl, _, rfl, pm, _, 1, _, rfl, rfl, same_seqT s4 hpm, at_of (j := 1) rfl rfl, R, b, c, lot, k, two, 0, x, rfl, Firm.bk (Firm.same s4) hb, (cls_len c two).1, same_seqT s4 hlot, hx, fun H3 s5 => ⟨true, rfl, iteF ?_⟩⟩
    have s6 := s4.trans s5
    refine ⟨_, rfl, d, _, dx, _, _, rfl, s6 _ _ hd, T.desk_c, T.desk_own_row, df_r _ _, ro, _, rfl, .inl (same_seqT s6 hs), _, rfl, hsz, fun t2 ht2 => ?_⟩
    have s7 := same_upd (o := .tup (as.map V.ref ++ [V.ref pm])) s6 (s6.free ht2)
    have nt : d ≠ t2 := fun e => by rw [← e, s6 _ _ hd] at ht2; cases ht2
    refine ⟨_, rfl, d, _, dx, _, rfl, s7 _ _ hd, T.desk_c, T.desk_own_row, (by rw [df_eq]; show 2 < 1000; decide), ?_⟩
    have hd7 := s7 _ _ hd
    have s8 : ∀ z o, z ≠ d → H z = some o → upd (upd H3 t2 (.tup (as.map V.ref ++ [V.ref pm]))) d (.ins T.desk_C dx (putF "own_row" (.ref t2) (df b ro))) z = some o := but_upd fun z o _ e => s7 z o e
    refine q _ t2 ⟨dx, by rw [upd_same, df_put]⟩ (row_snoc hl (fun i a m e1 e2 => but_seqT hd s8 (hp i a m e1 e2)) (but_seqT hd s8 hpm) (SqT.of (by rw [upd_ne nt.symm, upd_same]))) s8
/-- pay((), None), refused -/
def spPayBad (T : TX P K mg) : Sp := fun vs H _ E => ∃ (R : Rnd) (d b c ro lot : Addr) (k : Int) (two : Bool), vs = [.ref d, .ref lot, .non] ∧ DkAt T H d b ro ∧ BkAt T H R b c k two ∧ SqT K H lot [] ∧
  ∀ H' dd, Same H H' → H' dd = none → E (.ref T.badRow_C) (some dd) (upd H' dd (.xd [("value", .non)]))
theorem ok_payBad (T : TX P K mg) : FnOk P w K mg base (L2.CX P w) 7 T.deskPay_f T.deskPay_d ["self", "lot", "payment"] (spPayBad T) := by
  refine T.deskPay_F.okX scDeskPay (fun vs H Q E h => ?_) (fun cdv A outer s H vs Q E hr h => ?_)
  · obtain ⟨R, d, b, c, ro, lot, k, two, rfl, _⟩ := h
    rfl
  · obtain ⟨R, d, b, c, ro, lot, k, two, rfl, ⟨dx, hd⟩, hb, hlot, q⟩ := h
    refine ⟨_, pss_cons (ps_expr (pe_call (ok_needLot T) (hr.mono (by decide)) (by rfl) T.needLot_g T.needLot_F.kp T.needLot_b .nil pass0 (pa_cons (pe_fld (pe_fld (pv 0) rfl) rfl) (pa_cons (pv 1) pa_nil))))
      (pss_cons (ps_if (PW.pt (pw_or (pt_not (pt_val (pe_call (ok_isPayment T) (hr.mono (by decide)) (by rfl) T.isPayment_g T.isPayment_F.kp T.isPayment_b .nil pass0 (pa_cons (pe_fld (pv 0) rfl) (pa_cons (pv 2) pa_nil))))) (pw_or1 (pt_not (pt_val pe_never))))) (pss_one (ps_raiseBad rfl T.badRow hr (takes_of rfl rfl rfl rfl) (pa_cons (pv 2) pa_nil))) pss_nil)
      pss_never), ?_⟩
    obtain ⟨hcl, hrd, dxb, cs, lt, hob, hcs, hlt⟩ := id hb
    refine ⟨_, rfl, d, _, dx, _, _, rfl, hd, T.desk_c, T.desk_own_book, df_b _ _, b, _, dxb, _, _, rfl, hob, T.book_c, T.book_people, bf_p _ _ _, _, rfl, R.p, lot, R.ps, [], rfl, hrd.1.p_, hlot, words_nil, (fun y hy => nomatch hy), fun H1 s1 => ?_⟩
    refine ⟨_, rfl, d, _, dx, _, _, rfl, s1 _ _ hd, T.desk_c, T.desk_own_book, df_b _ _, _, rfl, R, b, c, k, two, _, rfl, Firm.bk (Firm.same s1) hb, .inl ⟨rfl, false, rfl, iteT (iteT ?_)⟩⟩
    exact ⟨_, rfl, _, rfl, fun dd hdd => q H1 dd s1 hdd⟩
/-! ### undo -/
def spUndo (T : TX P K mg) : Sp := fun vs H Q _ => ∃ (d b ro : Addr) (am : List Int) (k : Nat), vs = [.ref d, .int (k : Nat)] ∧ DkAt T H d b ro ∧ RowAt K H ro am ∧ 1 ≤ k ∧ k ≤ am.length ∧
  ∀ H' ro', DkAt T H' d b ro' → RowAt K H' ro' (am.take (am.length - k)) → (∀ z o, z ≠ d → H z = some o → H' z = some o) → Q .non H'
theorem ok_undo (T : TX P K mg) : FnOk P w K mg base CX0 3 T.deskUndo_f T.deskUndo_d ["self", "many"] (spUndo T) := by
  refine T.deskUndo_F.ok scDeskUndo (fun vs H Q E h => ?_) (fun cdv A outer s H vs Q E hr h => ?_)
  · obtain ⟨d, b, ro, am, k, rfl, _⟩ := h
    rfl
  · obtain ⟨d, b, ro, am, k, rfl, ⟨dx, hd⟩, ⟨as, hl, hs, hp⟩, h1, hk, q⟩ := h
    refine ⟨_, PSs.nox (pss_cons (ps_if (pt_not (pt_val (pe_call (ok_isAmong T) hr (by rfl) T.isAmong_g T.isAmong_F.kp T.isAmong_b .nil pass0 (pa_cons (pv 1) (pa_cons pe_int (pa_cons (pe_callB call_len_seq (by rfl) T.z_len PySem.boot_len (pa_cons (pe_fld (pv 0) rfl) pa_nil)) pa_nil)))))) (pss_one ps_never) pss_nil)
      (pss_one (ps_fld (pv 0) (pe_slice sl_tupA (pe_fld (pv 0) rfl) po_none (po_some (pe_un un_neg (pv 1)))) rfl))), ?_⟩
    refine ⟨_, rfl, _, rfl, d, _, dx, _, _, rfl, hd, T.desk_c, T.desk_own_row, df_r _ _, ro, _, rfl, .inr hs, _, _, _, rfl, by omega, by rw [List.length_map]; omega, true, rfl, iteF ?_⟩
    refine ⟨_, rfl, d, _, dx, _, _, rfl, hd, T.desk_c, T.desk_own_row, df_r _ _, ?_⟩
    dsimp only [tNoPart, tPart]
    have hn : as.length = am.length := hl
    have hcut : cutV (as.map V.ref) none (some (-(k : Int))) = (as.take (am.length - k)).map V.ref := by
      unfold cutV
      rw [HT.sIx_none, List.drop_zero, Nat.sub_zero]
      have e : HT.sIx (as.map V.ref).length (as.map V.ref).length (some (-(k : Int))) = am.length - k := by
        rw [List.length_map, hn]
        show (if -(k : Int) < 0 then (-(k : Int) + (am.length : Int)).toNat else _) = _
        rw [if_pos (by omega)]
        omega
      rw [e, List.map_take]
    refine ⟨_, rfl, _, rfl, _, rfl, ro, _, rfl, hs, fun z => ?_, fun _ t ht => ?_⟩
    · exfalso
      have z2 := z.2
      have e : HT.sIx (as.map V.ref).length (as.map V.ref).length (some (-(k : Int))) = am.length - k := by
        rw [List.length_map, hn]
        show (if -(k : Int) < 0 then (-(k : Int) + (am.length : Int)).toNat else _) = _
        rw [if_pos (by omega)]
        omega
      rw [e, List.length_map] at z2
      omega
    · have s1 := same_upd (o := .tup (cutV (as.map V.ref) none (some (-(k : Int))))) (Same.refl H) ht
      have nt : d ≠ t := fun e => by rw [← e, hd] at ht; cases ht
      refine ⟨_, rfl, d, _, dx, _, rfl, s1 _ _ hd, T.desk_c, T.desk_own_row, (by rw [df_eq]; show 2 < 1000; decide), ?_⟩
      have s2 : ∀ z o, z ≠ d → H z = some o → upd (upd H t (.tup (cutV (as.map V.ref) none (some (-(k : Int)))))) d (.ins T.desk_C dx (putF "own_row" (.ref t) (df b ro))) z = some o := but_upd fun z o _ e => s1 z o e
      refine q _ t ⟨dx, by rw [upd_same, df_put]⟩ ⟨as.take (am.length - k), by rw [List.length_take, List.length_take, hn], SqT.of (by rw [upd_ne nt.symm, upd_same, hcut]), fun i a m e1 e2 => ?_⟩ s2
      rw [List.getElem?_take] at e1 e2
      split at e1
      · rename_i hi
        rw [if_pos hi] at e2
        exact but_seqT hd s2 (hp i a m e1 e2)
      · cases e1
end
end Wm
/-! T14 -/
namespace Wm
open PySem PySem.Spec PyProof.Rows L2
def tf (d ro : Addr) : List (Str × V) := putF "row_ahead" (.ref ro) (putF "held_desk" (.ref d) [])
theorem tf_eq (d ro : Addr) : tf d ro = ([("held_desk", V.ref d), ("row_ahead", V.ref ro)] : List (Str × V)) := by
  unfold tf
  rfl
theorem tf_d (d ro : Addr) : (tf d ro).lookup ("held_desk" : Str) = some (.ref d) := by rw [tf_eq] <;> rfl
theorem tf_r (d ro : Addr) : (tf d ro).lookup ("row_ahead" : Str) = some (.ref ro) := by rw [tf_eq] <;> rfl
theorem tf_put (d ro r2 : Addr) : putF "row_ahead" (.ref r2) (tf d ro) = tf d r2 := by
  rw [tf_eq, tf_eq]
  rfl
theorem tf_no (d ro : Addr) {m : Str} (h1 : (m == ("held_desk" : Str)) = false) (h2 : (m == ("row_ahead" : Str)) = false) : (tf d ro).lookup m = none := by
  rw [tf_eq]
  simp [List.lookup, h1, h2]
section
variable {P : Program} {w : World} {K : PySem.W.Frag} {mg : Str → Option Value} {base : Heap}
def TrAt (T : TX P K mg) (H : Hp) (t d ro : Addr) : Prop := ∃ dx, H t = some (.ins T.trial_C dx (tf d ro))
def spTrialInit (T : TX P K mg) : Sp := fun vs H Q _ => ∃ (t dx d b ro : Addr), vs = [.ref t, .ref d] ∧ H t = some (.ins T.trial_C dx []) ∧ DkAt T H d b ro ∧ ∀ H', TrAt T H' t d ro → (∀ z o, z ≠ t → H z = some o → H' z = some o) → Q .non H'
theorem ok_trialInit (T : TX P K mg) : FnOk P w K mg base CX0 1 T.trialInit_f T.trialInit_d ["self", "desk"] (spTrialInit T) := by
  refine T.trialInit_F.ok scTrialInit (fun vs H Q E h => ?_) (fun cdv A outer s H vs Q E hr h => ?_)
  · obtain ⟨t, dx, d, b, ro, rfl, _⟩ := h
    rfl
  · obtain ⟨t, dx, d, b, ro, rfl, ht, ⟨dd, hd⟩, k⟩ := h
    have n : d ≠ t := fun e => by
      rw [e, ht] at hd
      injection hd with hd
      injection hd with hd
      exact T.ne_dt hd.symm
    refine ⟨_, pss_cons (ps_fld (pv 0) (pv 1) rfl) (pss_one (ps_fld (pv 0) (pe_fld (pv 1) rfl) rfl)), ?_⟩
    refine ⟨_, rfl, _, rfl, t, _, dx, [], rfl, ht, T.trial_c, T.trial_held_desk, (by show 0 < 1000; decide), ?_⟩
    refine ⟨_, rfl, d, _, dd, _, _, rfl, by rw [upd_ne n]; exact hd, T.desk_c, T.desk_own_row, df_r _ _, _, rfl, t, _, dx, _, rfl, upd_same, T.trial_c, T.trial_row_ahead, (by show 1 < 1000; decide), ?_⟩
    exact k _ ⟨dx, upd_same⟩ (but_upd (but_upd fun z o _ e => e))
def spTrial (T : TX P K mg) : Sp := fun vs H Q _ => ∃ (d b ro : Addr), vs = [.ref d] ∧ DkAt T H d b ro ∧ ∀ H' t, Same H H' → H t = none → TrAt T H' t d ro → Q (.ref t) H'
theorem ok_deskTrial (T : TX P K mg) : FnOk P w K mg base CX0 3 T.deskTrial_f T.deskTrial_d ["self"] (spTrial T) := by
  refine T.deskTrial_F.ok scDeskTrial (fun vs H Q E h => ?_) (fun cdv A outer s H vs Q E hr h => ?_)
  · obtain ⟨d, b, ro, rfl, _⟩ := h
    rfl
  · obtain ⟨d, b, ro, rfl, ⟨dd, hd⟩, k⟩ := h
    refine ⟨_, pss_one (ps_ret (pe_make T.trial_m (ok_trialInit T) hr (by rfl) T.trial_g T.trialInit_b .nil pass0 (pa_cons (pv 0) pa_nil))), ?_⟩
    refine ⟨_, rfl, fun t dx nt ndx ne => ?_⟩
    have s0 : Same H (upd (upd H dx (.own t)) t (.ins T.trial_C dx [])) := same_upd (same_upd (Same.refl H) ndx) nt
    exact ⟨t, dx, d, b, ro, rfl, upd_same, ⟨dd, s0 _ _ hd⟩, fun H1 h1 k1 => ⟨rfl, k _ t (fun z o e => k1 z o (ne_of_none e nt) (s0 z o e)) nt h1⟩⟩
def spEnter (T : TX P K mg) : Sp := fun vs H Q _ => ∃ (t d b ro r0 : Addr), vs = [.ref t] ∧ TrAt T H t d r0 ∧ DkAt T H d b ro ∧ ∀ H', TrAt T H' t d ro → (∀ z o, z ≠ t → H z = some o → H' z = some o) → Q (.ref d) H'
theorem ok_trialEnter (T : TX P K mg) : FnOk P w K mg base CX0 3 T.trialEnter_f T.trialEnter_d ["self"] (spEnter T) := by
  refine T.trialEnter_F.ok scTrialEnter (fun vs H Q E h => ?_) (fun cdv A outer s H vs Q E hr h => ?_)
  · obtain ⟨t, d, b, ro, r0, rfl, _⟩ := h
    rfl
  · obtain ⟨t, d, b, ro, r0, rfl, ⟨dx, ht⟩, ⟨dd, hd⟩, k⟩ := h
    refine ⟨_, pss_cons (ps_fld (pv 0) (pe_fld (pe_fld (pv 0) rfl) rfl) rfl) (pss_one (ps_ret (pe_fld (pv 0) rfl))), ?_⟩
    refine ⟨_, rfl, t, _, dx, _, _, rfl, ht, T.trial_c, T.trial_held_desk, tf_d _ _, d, _, dd, _, _, rfl, hd, T.desk_c, T.desk_own_row, df_r _ _, _, rfl, t, _, dx, _, rfl, ht, T.trial_c, T.trial_row_ahead, (by rw [tf_eq]; show 2 < 1000; decide), ?_⟩
    refine ⟨_, rfl, t, _, dx, _, _, rfl, upd_same, T.trial_c, T.trial_held_desk, by rw [tf_put]; exact tf_d _ _, ?_⟩
    exact k _ ⟨dx, by rw [upd_same, tf_put]⟩ (but_upd fun z o _ e => e)
def spExit (T : TX P K mg) : Sp := fun vs H Q _ => ∃ (t d b ro r2 : Addr) (x y z : V), vs = [.ref t, x, y, z] ∧ TrAt T H t d ro ∧ DkAt T H d b r2 ∧ ∀ H', DkAt T H' d b ro → (∀ z o, z ≠ d → H z = some o → H' z = some o) → Q .non H'
theorem ok_trialExit (T : TX P K mg) : FnOk P w K mg base CX0 3 T.trialExit_f T.trialExit_d ["self", "kind", "value", "trace"] (spExit T) := by
  refine T.trialExit_F.ok scTrialExit (fun vs H Q E h => ?_) (fun cdv A outer s H vs Q E hr h => ?_)
  · obtain ⟨t, d, b, ro, r2, x, y, z, rfl, _⟩ := h
    rfl
  · obtain ⟨t, d, b, ro, r2, x, y, z, rfl, ⟨dx, ht⟩, ⟨dd, hd⟩, k⟩ := h
    refine ⟨_, pss_one (ps_fld (pe_fld (pv 0) rfl) (pe_fld (pv 0) rfl) rfl), ?_⟩
    refine ⟨_, rfl, t, _, dx, _, _, rfl, ht, T.trial_c, T.trial_row_ahead, tf_r _ _, _, rfl, t, _, dx, _, _, rfl, ht, T.trial_c, T.trial_held_desk, tf_d _ _, d, _, dd, _, rfl, hd, T.desk_c, T.desk_own_row, (by rw [df_eq]; show 2 < 1000; decide), ?_⟩
    exact k _ ⟨dd, by rw [upd_same, df_put]⟩ (but_upd fun z o _ e => e)
theorem fnS_trialExit (T : TX P K mg) : FnS P w K mg base 3 T.trialExit_f T.trialExit_d ["self", "kind", "value", "trace"] (spExit T) := by
  refine fnS_of T.trialExit_F scTrialExit (fun vs H Q E h => ?_) (fun cdv A outer s H vs Q p hr h => ?_)
  · obtain ⟨t, d, b, ro, r2, x, y, z, rfl, _⟩ := h
    rfl
  · obtain ⟨t, d, b, ro, r2, x, y, z, rfl, ⟨dx, ht⟩, ⟨dd, hd⟩, k⟩ := h
    refine ⟨_, pss_one (ps_fld (pe_fld (pv 0) rfl) (pe_fld (pv 0) rfl) rfl), ?_⟩
    refine ⟨_, rfl, t, _, dx, _, _, rfl, ht, T.trial_c, T.trial_row_ahead, tf_r _ _, _, rfl, t, _, dx, _, _, rfl, ht, T.trial_c, T.trial_held_desk, tf_d _ _, d, _, dd, _, rfl, hd, T.desk_c, T.desk_own_row, (by rw [df_eq]; show 2 < 1000; decide), ?_⟩
    exact k _ ⟨dd, by rw [upd_same, df_put]⟩ (but_upd fun z o _ e => e)
/-! ### tried -/
/-- what a call of tried(d, f) promises: f is called with the desk, whatever it does to it is undone behind it, be it by an answer or by an error -/
def spTried (T : TX P K mg) (SF : Addr → Sp) : Sp := fun vs H Q E => ∃ (d b ro f : Addr), vs = [.ref d, .ref f] ∧ DkAt T H d b ro ∧ FnV K H f ∧ ∀ (H1 : Hp) (t : Addr), Same H H1 → H t = none → TrAt T H1 t d ro → ∀ (QF : VK) (EF : XK),
  (∀ v H2 r2, DkAt T H2 d b r2 → TrAt T H2 t d ro → (∀ H3, DkAt T H3 d b ro → (∀ z o, z ≠ d → H2 z = some o → H3 z = some o) → Q v H3) → QF v H2) →
  (∀ c dd H2 r2, (∃ vc, RelV vc c) → DkAt T H2 d b r2 → TrAt T H2 t d ro → (∀ H3, DkAt T H3 d b ro → (∀ z o, z ≠ d → H2 z = some o → H3 z = some o) → E c dd H3) → EF c dd H2) → SF f [.ref d] H1 QF EF
theorem ok_tried (T : TX P K mg) {SF : Addr → Sp} {k : Nat} (hS : ∀ f, HeldF P w K mg base (L2.CX P w) k f (SF f)) : FnOk P w K mg base (L2.CX P w) (k + 4) T.tried_f T.tried_d ["desk", "function"] (spTried T SF) := by
  refine T.tried_F.okX scTried (fun vs H Q E h => ?_) (fun cdv A outer s H vs Q E hr h => ?_)
  · obtain ⟨d, b, ro, f, rfl, _⟩ := h
    rfl
  · obtain ⟨d, b, ro, f, rfl, ⟨dd, hd⟩, hf, h⟩ := h
    have hr3 : Room 3 _ := hr.mono (by omega)
    have hrk : Room k _ := hr.mono (by omega)
    refine ⟨_, pss_one (ps_with (i := 2) (tb := fun W => tRet (tCallF K 1 SF (WE W) (tCons (tVar 2) tNil))) (Wout := fun cls d σ H => E cls d H) rfl rfl rfl (takes_of rfl rfl rfl rfl) scTried.nd rfl rfl (pe_meth0 (pv 0) T.desk_c T.deskTrial_m (ok_deskTrial T) hr3 T.deskTrial_b .nil pass0) T.trialEnter_m (ok_trialEnter T) T.trialEnter_b T.trialExit_m (ok_trialExit T) T.trialExit_b (fnS_trialExit T) hr3
      (fun W pn xe tk _ => pss_one (ps_ret (pe_callF (i := 1) (SF := SF) (E := WE W) hS hrk (fun σ => passAt tk σ) rfl (Or.inl rfl) (pa_cons (pv 2) pa_nil))))), ?_⟩
    refine ⟨_, rfl, d, dd, _, rfl, hd, df_no _ _ (by decide +kernel) (by decide +kernel), d, b, ro, rfl, ⟨dd, hd⟩, fun H1 t s1 nt ⟨dx, ht⟩ => ?_⟩
    refine ⟨t, dx, _, rfl, ht, t, d, b, ro, ro, rfl, ⟨dx, ht⟩, ⟨dd, s1 _ _ hd⟩, fun H2 ht2 k2 => ?_⟩
    have s2 : Same H H2 := fun z o e => k2 z o (ne_of_none e nt) (s1 z o e)
    have hf2 : FnV K H2 f := hf.ext (LamX.ExtN.of s2)
    refine ⟨f, rfl, hf2, _, rfl, hf2, ?_⟩
    refine h H2 t s2 nt ht2 _ _ (fun v H3 r2 hd3 ht3 q3 => ?_) (fun c d2 H3 r2 ⟨vc, rc⟩ hd3 ht3 q3 => ?_)
    · exact ⟨t, d, b, ro, r2, _, _, _, rfl, ht3, hd3, fun H4 h4 k4 => q3 H4 h4 k4⟩
    · exact ⟨vc, rc, fun ve vt => ⟨t, d, b, ro, r2, _, _, _, rfl, ht3, hd3, fun H4 h4 k4 => ⟨rfl, q3 H4 h4 k4⟩⟩⟩
end
end Wm
/-! T15 -/
namespace Wm
open PySem PySem.Spec PyProof.Rows L2
section
variable {P : Program} {w : World} {K : PySem.W.Frag} {mg : Str → Option Value} {base : Heap}
/-! ### two clauses, two books, two desks -/
def slD (ps : List Str) : PyData := .tuple [strsD ps]
def suD (n S : Int) : PyData := .tuple [.tuple [.int n, .int S]]
def fdD (ps : List Str) (k n S : Int) : PyData := .tuple [slD ps, .int k, suD n S]
theorem fdD_ok {ps : List Str} (k n S : Int) (h : ∀ x ∈ ps, WordOk x) : DOk 3 (fdD ps k n S) := DOk.tup fun d hd => by
  simp only [List.mem_cons, List.not_mem_nil, or_false] at hd
  rcases hd with rfl | rfl | rfl
  · exact DOk.tup fun e he => by
      rw [List.mem_singleton.mp he]
      exact strsD_ok h
  · exact DOk.int 2 _
  · exact DOk.tup fun e he => by
      rw [List.mem_singleton.mp he]
      exact DOk.tup fun f hf => by
        simp only [List.mem_cons, List.not_mem_nil, or_false] at hf
        rcases hf with rfl | rfl <;> exact DOk.int 0 _
theorem fdD_eqv {ps : List Str} (k k' n S : Int) (h : ∀ x ∈ ps, WordOk x) : PyData.eqv (fdD ps k n S) (fdD ps k' n S) = decide (k = k') := by
  by_cases e : k = k'
  · subst e
    rw [decide_eq_true rfl]
    exact (fdD_ok k n S h).refl
  · rw [decide_eq_false e]
    cases z : PyData.eqv (fdD ps k n S) (fdD ps k' n S) with
    | false => rfl
    | true =>
      exfalso
      apply e
      have z' : PyData.eqvAll [slD ps, .int k, suD n S] [slD ps, .int k', suD n S] = true := by
        unfold fdD at z
        rw [PyData.eqv] at z
        exact z
      have q := eqvAll_at (i := 1) (x := .int k) (y := .int k') z' rfl rfl
      simpa [PyData.eqv] using q
def spFields (T : TX P K mg) : Sp := fun vs H Q _ => ∃ (R : Rnd) (c : Addr) (k : Int), vs = [.ref c] ∧ ClAt T H R c k ∧ ∀ H' t, Same H H' → SqT K H' t [.ref R.sl, .int k, .ref R.su] → Q (.ref t) H'
theorem ok_clauseFields (T : TX P K mg) : FnOk P w K mg base CX0 1 T.clauseFields_f T.clauseFields_d ["self"] (spFields T) := by
  refine T.clauseFields_F.ok scClauseFields (fun vs H Q E h => ?_) (fun cdv A outer s H vs Q E hr h => ?_)
  · obtain ⟨R, c, k, rfl, _⟩ := h
    rfl
  · obtain ⟨R, c, k, rfl, ⟨⟨dx, hc⟩, hk⟩, q⟩ := h
    refine ⟨_, pss_one (ps_ret (pe_tup (pa_cons (pe_fld (pv 0) rfl) (pa_cons (pe_fld (pv 0) rfl) (pa_cons (pe_fld (pv 0) rfl) pa_nil))))), ?_⟩
    refine ⟨_, rfl, c, _, dx, _, _, rfl, hc, T.clause_c, T.clause_slots, cf_sl _ _ _ _, _, rfl, c, _, dx, _, _, rfl, hc, T.clause_c, T.clause_cap, cf_cap _ _ _ _, _, rfl, c, _, dx, _, _, rfl, hc, T.clause_c, T.clause_sums, cf_su _ _ _ _, (by show 3 ≤ sizeLine; decide), fun t ht => ?_⟩
    exact q _ t (same_upd (Same.refl H) ht) (SqT.of upd_same)
theorem dp_fd {H : Hp} {R : Rnd} {k : Int} {t : Addr} (hR : RndOk K H R) (ht : SqT K H t [.ref R.sl, .int k, .ref R.su]) : Dp K H (.ref t) (fdD R.ps k 2 R.S) :=
  .tup ht (.cons (.tup hR.1.sl_ (.cons (dp_strs hR.1.p_) .nil)) (.cons (.int _) (.cons (.tup hR.1.su_ (.cons (.tup hR.1.sm_ (.cons (.int _) (.cons (.int _) .nil))) .nil)) .nil)))
def spClauseEq (T : TX P K mg) : Sp := fun vs H Q _ => ∃ (R : Rnd) (c c' : Addr) (k k' : Int), vs = [.ref c, .ref c'] ∧ RndOk K H R ∧ ClAt T H R c k ∧ ClAt T H R c' k' ∧ ∀ H', Same H H' → Q (.bl (decide (k = k'))) H'
theorem ok_clauseEq (T : TX P K mg) : FnOk P w K mg base CX0 2 T.clauseEq_f T.clauseEq_d ["self", "other"] (spClauseEq T) := by
  refine T.clauseEq_F.ok scClauseEq (fun vs H Q E h => ?_) (fun cdv A outer s H vs Q E hr h => ?_)
  · obtain ⟨R, c, c', k, k', rfl, _⟩ := h
    rfl
  · obtain ⟨R, c, c', k, k', rfl, hR, hc, hc', q⟩ := h
    refine ⟨_, pss_one (ps_ret (pe_and (pe_callB call_isi (by rfl) T.z_isinstance (by decide +kernel) (pa_cons (pv 1) (pa_cons (pe_glob (v := .ref T.clause_C) rfl T.clause_g rfl) pa_nil))) (pe_and (pe_cmpR (op_eqD (hu64 hr)) (pe_fld (pv 0) rfl) (pe_fld (pv 1) rfl) (nomark _)) (pe_one (pe_cmpR (op_eqD (hu64 hr)) (pe_meth0 (pv 0) T.clause_c T.clauseFields_m (ok_clauseFields T) hr T.clauseFields_b .nil pass0) (pe_meth0 (pv 1) T.clause_c T.clauseFields_m (ok_clauseFields T) hr T.clauseFields_b .nil pass0) (nomark _)))))), ?_⟩
    obtain ⟨⟨dx, hx⟩, _⟩ := id hc
    obtain ⟨⟨dx', hx'⟩, _⟩ := id hc'
    have hw := hR.1.w_.1
    have dk := strsD_ok hw
    refine ⟨_, rfl, _, .ref T.clause_C, .ref T.clause_C, .ref T.clause_C, true, rfl, .own _, tyx_clause T hx', T.clause_is, true, rfl, iteT ?_⟩
    refine ⟨_, rfl, c, _, dx, _, _, rfl, hx, T.clause_c, T.clause_people, cf_p _ _ _ _, _, rfl, c', _, dx', _, _, rfl, hx', T.clause_c, T.clause_people, cf_p _ _ _ _, strsD R.ps, strsD R.ps, dp_strs hR.1.p_, dp_strs hR.1.p_, dk.shaped (by decide), dk.shaped (by decide), _, rfl, ?_⟩
    rw [dk.refl]
    refine iteT ⟨_, rfl, c, dx, _, rfl, hx, cf_no _ _ _ _, R, c, k, rfl, hc, fun H1 t s1 ht => ?_⟩
    refine ⟨_, rfl, c', dx', _, rfl, s1 _ _ hx', cf_no _ _ _ _, R, c', k', rfl, Firm.cl (Firm.same s1) hc', fun H2 t' s2 ht' => ?_⟩
    have s12 := s1.trans s2
    have hR2 := Firm.rnd (T := T) (Firm.same s12) hR
    have z := fdD_eqv k k' 2 R.S hw
    refine ⟨fdD R.ps k 2 R.S, fdD R.ps k' 2 R.S, dp_fd hR2 (same_seqT s2 ht), dp_fd hR2 ht', (fdD_ok _ _ _ hw).shaped (by decide), (fdD_ok _ _ _ hw).shaped (by decide), ?_⟩
    show Q (.bl (PyData.eqv (fdD R.ps k 2 R.S) (fdD R.ps k' 2 R.S))) H2
    rw [z]
    exact q _ s12
def spBookEq (T : TX P K mg) : Sp := fun vs H Q _ => ∃ (R : Rnd) (b c b' c' : Addr) (k k' : Int) (two : Bool), vs = [.ref b, .ref b'] ∧ BkAt T H R b c k two ∧ BkAt T H R b' c' k' false ∧ ∀ H', Same H H' → Q (.bl (decide (k = k') && !two)) H'
theorem bkD_ok {ps : List Str} (h : ∀ x ∈ ps, WordOk x) : DOk 2 (.tuple [strsD ps, .tuple []]) := DOk.tup fun d hd => by
  simp only [List.mem_cons, List.not_mem_nil, or_false] at hd
  rcases hd with rfl | rfl
  · exact strsD_ok h
  · exact DOk.tup fun e he => nomatch he
theorem ok_bookEq (T : TX P K mg) : FnOk P w K mg base CX0 4 T.bookEq_f T.bookEq_d ["self", "other"] (spBookEq T) := by
  refine T.bookEq_F.ok scBookEq (fun vs H Q E h => ?_) (fun cdv A outer s H vs Q E hr h => ?_)
  · obtain ⟨R, b, c, b', c', k, k', two, rfl, _⟩ := h
    rfl
  · obtain ⟨R, b, c, b', c', k, k', two, rfl, hb, hb', q⟩ := h
    refine ⟨_, pss_cons (ps_if (pt_not (pt_val (pe_callB call_isi (by rfl) T.z_isinstance (by decide +kernel) (pa_cons (pv 1) (pa_cons (pe_glob (v := .ref T.book_C) rfl T.book_g rfl) pa_nil))))) (pss_one ps_never) pss_nil)
      (pss_one (ps_ret (pe_and (pe_cmpR (op_eqD (hu64 hr)) (pe_tup (pa_cons (pe_fld (pv 0) rfl) (pa_cons (pe_fld (pv 0) rfl) pa_nil))) (pe_tup (pa_cons (pe_fld (pv 1) rfl) (pa_cons (pe_fld (pv 1) rfl) pa_nil))) (nomark _))
        (pe_one (pe_cmpR (op_eqT1 T.clause_eq T.clause_ef (FnOk.raw (ok_clauseEq T) T.clauseEq_b .nil) hr pass0) (pe_fld (pv 0) rfl) (pe_fld (pv 1) rfl) (nomark _)))))), ?_⟩
    obtain ⟨hc, hR, dx, cs, lt, hx, hcs, hlt⟩ := id hb
    obtain ⟨hc', hR', dx', cs', lt', hx', hcs', hlt'⟩ := id hb'
    refine ⟨_, rfl, _, .ref T.book_C, .ref T.book_C, .ref T.book_C, true, rfl, .own _, tyx_book T hx', T.book_is, true, rfl, iteF ?_⟩
    refine ⟨_, rfl, b, _, dx, _, _, rfl, hx, T.book_c, T.book_people, bf_p _ _ _, _, rfl, b, _, dx, _, _, rfl, hx, T.book_c, T.book_lent, bf_lt _ _ _, (by show 2 ≤ sizeLine; decide), fun t ht => ?_⟩
    have s1 := same_upd (o := .tup [V.ref R.p, V.ref lt]) (Same.refl H) ht
    refine ⟨_, rfl, b', _, dx', _, _, rfl, s1 _ _ hx', T.book_c, T.book_people, bf_p _ _ _, _, rfl, b', _, dx', _, _, rfl, s1 _ _ hx', T.book_c, T.book_lent, bf_lt _ _ _, (by show 2 ≤ sizeLine; decide), fun t' ht' => ?_⟩
    have s2 := same_upd (o := .tup [V.ref R.p, V.ref lt']) s1 (s1.free ht')
    have hw := hR.1.w_.1
    have dk := bkD_ok hw
    have s12 : Same (upd H t (.tup [V.ref R.p, V.ref lt])) (upd (upd H t (.tup [V.ref R.p, V.ref lt])) t' (.tup [V.ref R.p, V.ref lt'])) := same_upd (Same.refl _) ht'
    refine ⟨.tuple [strsD R.ps, .tuple []], .tuple [strsD R.ps, .tuple []], .tup (SqT.of (s12 _ _ upd_same)) (.cons (dp_strs (same_seqT s2 hR.1.p_)) (.cons (.tup (same_seqT s2 hlt) .nil) .nil)), .tup (SqT.of upd_same) (.cons (dp_strs (same_seqT s2 hR.1.p_)) (.cons (.tup (same_seqT s2 hlt') .nil) .nil)), dk.shaped (by decide), dk.shaped (by decide), _, rfl, ?_⟩
    rw [dk.refl]
    refine iteT ⟨_, rfl, b, _, dx, _, _, rfl, s2 _ _ hx, T.book_c, T.book_clauses, bf_cs _ _ _, _, rfl, b', _, dx', _, _, rfl, s2 _ _ hx', T.book_c, T.book_clauses, bf_cs _ _ _, ?_⟩
    have hr' : cls c two = V.ref c :: (if two = true then [V.ref c] else []) := by cases two <;> rfl
    have he : (if two = true then [V.ref c] else ([] : List V)).isEmpty = !two := by cases two <;> rfl
    refine ⟨cs, cs', V.ref c, V.ref c', if two = true then [V.ref c] else [], rfl, rfl, by rw [← hr']; exact same_seqT s2 hcs, same_seqT s2 hcs', c, c', rfl, rfl, ?_⟩
    obtain ⟨⟨cx, hcx⟩, _⟩ := id hc
    obtain ⟨⟨cx', hcx'⟩, _⟩ := id hc'
    by_cases ec : c = c'
    · refine .inl ⟨ec, ?_⟩
      have ek : k = k' := by
        subst ec
        rw [hcx] at hcx'
        have e2 : cf R.p R.sl k R.su = cf R.p R.sl k' R.su := by
          injection hcx' with z
          injection z
        have e3 := cf_cap R.p R.sl k R.su
        rw [e2, cf_cap] at e3
        exact (V.int.inj (Option.some.inj e3)).symm
      have := q _ s2
      rw [decide_eq_true ek] at this
      rw [he]
      exact this
    · refine .inr ⟨ec, cx, _, cx', _, s2 _ _ hcx, s2 _ _ hcx', R, c, c', k, k', rfl, Firm.rnd (T := T) (Firm.same s2) hR, Firm.cl (Firm.same s2) hc, Firm.cl (Firm.same s2) hc', fun H3 s3 => ⟨_, rfl, ?_⟩⟩
      rw [he]
      exact q _ (s2.trans s3)
def spDeskEq (T : TX P K mg) : Sp := fun vs H Q _ => (∃ (d b ro : Addr) (y : V) (t : Value), vs = [.ref d, y] ∧ DkAt T H d b ro ∧ TyX K H y t ∧ PySem.W.kitOne K t (.ref T.desk_C) = some false ∧ Q (.bl false) H) ∨
  ∃ (R : Rnd) (d b c ro d' b' c' ro' : Addr) (k k' : Int) (two : Bool) (am am' : List Int), vs = [.ref d, .ref d'] ∧ DkAt T H d b ro ∧ DkAt T H d' b' ro' ∧ BkAt T H R b c k two ∧ BkAt T H R b' c' k' false ∧ RowAt K H ro am ∧ RowAt K H ro' am' ∧ ∀ H', Same H H' → Q (.bl (decide (k = k') && !two && decide (am = am'))) H'
theorem ok_deskEq (T : TX P K mg) : FnOk P w K mg base CX0 5 T.deskEq_f T.deskEq_d ["self", "other"] (spDeskEq T) := by
  refine T.deskEq_F.ok scDeskEq (fun vs H Q E h => ?_) (fun cdv A outer s H vs Q E hr h => ?_)
  · rcases h with ⟨d, b, ro, y, t, rfl, _⟩ | ⟨R, d, b, c, ro, d', b', c', ro', k, k', two, am, am', rfl, _⟩ <;> rfl
  · refine ⟨_, pss_one (ps_ret (pe_and (pe_callB call_isi (by rfl) T.z_isinstance (by decide +kernel) (pa_cons (pv 1) (pa_cons (pe_glob (v := .ref T.desk_C) rfl T.desk_g rfl) pa_nil))) (pe_and (pe_cmpR (op_eqI T.book_eq T.book_ef (FnOk.raw (ok_bookEq T) T.bookEq_b .nil) hr pass0) (pe_fld (pv 0) rfl) (pe_fld (pv 1) rfl) (nomark _)) (pe_one (pe_cmpR (op_eqD (hu64 hr)) (pe_fld (pv 0) rfl) (pe_fld (pv 1) rfl) (nomark _)))))), ?_⟩
    rcases h with ⟨d, b, ro, y, t, rfl, ⟨dx, hd⟩, ty, hk, q⟩ | ⟨R, d, b, c, ro, d', b', c', ro', k, k', two, am, am', rfl, ⟨dx, hd⟩, ⟨dx', hd'⟩, hb, hb', hrow, hrow', q⟩
    · exact ⟨_, rfl, _, .ref T.desk_C, t, .ref T.desk_C, false, rfl, .own _, ty, hk, false, rfl, iteF q⟩
    · refine ⟨_, rfl, _, .ref T.desk_C, .ref T.desk_C, .ref T.desk_C, true, rfl, .own _, tyx_desk T hd', T.desk_is, true, rfl, iteT ?_⟩
      obtain ⟨_, _, bx, _, _, hbx, _⟩ := id hb
      obtain ⟨_, _, bx', _, _, hbx', _⟩ := id hb'
      refine ⟨_, rfl, d, _, dx, _, _, rfl, hd, T.desk_c, T.desk_own_book, df_b _ _, _, rfl, d', _, dx', _, _, rfl, hd', T.desk_c, T.desk_own_book, df_b _ _, b, bx, _, .ref T.book_C, rfl, hbx, tyx_book T hbx', by simp [PySem.W.notFirst], R, b, c, b', c', k, k', two, rfl, hb, hb', fun H1 s1 => ⟨_, rfl, ?_⟩⟩
      cases hz : (decide (k = k') && !two) with
      | false =>
        refine iteF ?_
        have := q _ s1
        rw [hz] at this
        exact this
      | true =>
        refine iteT ⟨_, rfl, d, _, dx, _, _, rfl, s1 _ _ hd, T.desk_c, T.desk_own_row, df_r _ _, _, rfl, d', _, dx', _, _, rfl, s1 _ _ hd', T.desk_c, T.desk_own_row, df_r _ _, rowD am, rowD am', (hrow.same s1).dp, (hrow'.same s1).dp, (rowD_ok _).shaped (by decide), (rowD_ok _).shaped (by decide), ?_⟩
        rw [row_eqv]
        have := q _ s1
        rw [hz] at this
        exact this
end
end Wm
/-! T16 -/
namespace Wm
open PySem PySem.Spec PyProof.Rows L2
section
variable {P : Program} {w : World} {K : PySem.W.Frag} {mg : Str → Option Value} {base : Heap}
/-! ### Book.__getitem__, Book.adding -/
def spBookGet (T : TX P K mg) : Sp := fun vs H Q _ => ∃ (R : Rnd) (b c : Addr) (k : Int), vs = [.ref b, .int 0] ∧ BkAt T H R b c k false ∧ Q (.ref c) H
theorem ok_bookGet (T : TX P K mg) : FnOk P w K mg base CX0 3 T.bookGet_f T.bookGet_d ["self", "number"] (spBookGet T) := by
  refine T.bookGet_F.ok scBookGet (fun vs H Q E h => ?_) (fun cdv A outer s H vs Q E hr h => ?_)
  · obtain ⟨R, b, c, k, rfl, _⟩ := h
    rfl
  · obtain ⟨R, b, c, k, rfl, hb, q⟩ := h
    refine ⟨_, pss_cons (ps_if (pt_not (pt_val (pe_call (ok_isAmong T) hr (by rfl) T.isAmong_g T.isAmong_F.kp T.isAmong_b .nil pass0 (pa_cons (pv 1) (pa_cons pe_int (pa_cons (pe_op op_sub (pe_callB call_len_seq (by rfl) T.z_len PySem.boot_len (pa_cons (pe_fld (pv 0) rfl) pa_nil)) pe_int) pa_nil)))))) (pss_one ps_never) pss_nil) (pss_one (ps_ret (pe_ix ix_tup (pe_fld (pv 0) rfl) (pv 1) (fun _ _ => rfl)))), ?_⟩
    obtain ⟨hc, hR, dx, cs, lt, hx, hcs, hlt⟩ := id hb
    refine ⟨_, rfl, _, rfl, b, _, dx, _, _, rfl, hx, T.book_c, T.book_clauses, bf_cs _ _ _, cs, _, rfl, .inr hcs, _, _, rfl, rfl, (0 : Int), (0 : Int), _, rfl, (by show (0 : Int) ≤ 0; decide), (by show (0 : Int) ≤ 1 - 1; decide), true, rfl, iteF ?_⟩
    exact ⟨_, rfl, b, _, dx, _, _, rfl, hx, T.book_c, T.book_clauses, bf_cs _ _ _, _, rfl, cs, _, _, _, rfl, rfl, hcs, at_of (j := 0) rfl rfl, q⟩
def spAdding (T : TX P K mg) : Sp := fun vs H Q _ => ∃ (R : Rnd) (b c : Addr) (k : Int), vs = [.ref b, .ref c] ∧ BkAt T H R b c k false ∧ ∀ H' b2, Same H H' → BkAt T H' R b2 c k true → Q (.ref b2) H'
theorem ok_bookAdding (T : TX P K mg) : FnOk P w K mg base CX0 6 T.bookAdding_f T.bookAdding_d ["self", "clause"] (spAdding T) := by
  obtain ⟨tM, hM⟩ := T.k_MOST_CLAUSES
  obtain ⟨ds, hds, hbd⟩ := T.bookInit_b3
  refine T.bookAdding_F.ok scBookAdding (fun vs H Q E h => ?_) (fun cdv A outer s H vs Q E hr h => ?_)
  · obtain ⟨R, b, c, k, rfl, _⟩ := h
    rfl
  · obtain ⟨R, b, c, k, rfl, hb, q⟩ := h
    refine ⟨_, pss_cons (ps_if (pt_not (pt_val (pe_call (ok_isClause T) (hr.mono (by decide)) (by rfl) T.isClause_g T.isClause_F.kp T.isClause_b .nil pass0 (pa_cons (pe_fld (pv 0) rfl) (pa_cons (pv 1) pa_nil))))) (pss_one ps_never) pss_nil)
      (pss_cons (ps_if (pt_cmpR op_eq (pe_callB call_len_seq (by rfl) T.z_len PySem.boot_len (pa_cons (pe_fld (pv 0) rfl) pa_nil)) (pe_glob (v := .int 5) rfl hM ⟨_, rfl⟩) (nomark _)) (pss_one ps_never) pss_nil)
      (pss_one (ps_ret (pe_make T.book_m (ok_bookInit T) hr (by rfl) T.book_g hbd hds pass0 (pa_cons (pe_fld (pv 0) rfl) (pa_cons (pe_tup (StX.pa_star (pe_fld (pv 0) rfl) (pa_cons (pv 1) pa_nil))) (pa_cons (pe_fld (pv 0) rfl) pa_nil))))))), ?_⟩
    obtain ⟨hc, hR, dx, cs, lt, hx, hcs, hlt⟩ := id hb
    refine ⟨_, rfl, b, _, dx, _, _, rfl, hx, T.book_c, T.book_people, bf_p _ _ _, _, rfl, R, c, k, rfl, hR, hc, true, rfl, iteF ?_⟩
    refine ⟨_, rfl, b, _, dx, _, _, rfl, hx, T.book_c, T.book_clauses, bf_cs _ _ _, cs, _, rfl, .inr hcs, rfl, _, rfl, ifF (by rw [dec_int] <;> rfl) ?_⟩
    refine ⟨_, rfl, b, _, dx, _, _, rfl, hx, T.book_c, T.book_people, bf_p _ _ _, _, rfl, b, _, dx, _, _, rfl, hx, T.book_c, T.book_clauses, bf_cs _ _ _, cs, _, rfl, .inl hcs, _, rfl, (by show 2 ≤ sizeLine; decide), fun t ht => ?_⟩
    have s1 := same_upd (o := .tup [V.ref c, V.ref c]) (Same.refl H) ht
    refine ⟨_, rfl, b, _, dx, _, _, rfl, s1 _ _ hx, T.book_c, T.book_lent, bf_lt _ _ _, fun b2 dy nb ndy ne => ?_⟩
    have s2 := same_upd (o := .own b2) s1 (s1.free ndy)
    have nb2 : upd (upd H t (.tup [V.ref c, V.ref c])) dy (.own b2) b2 = none := by
      rw [upd_ne ne.symm]
      exact nb
    have s3 := same_upd (o := .ins T.book_C dy []) s2 (s2.free nb2)
    refine ⟨R, b2, dy, c, t, lt, k, true, rfl, upd_same, Firm.rnd (T := T) (Firm.same s3) hR, Firm.cl (Firm.same s3) hc, .inr ⟨rfl, ?_⟩, same_seqT s3 hlt, fun H1 h1 k1 => ⟨rfl, q _ b2 (fun z o e => k1 z o (ne_of_none (s2 _ _ e) nb2) (s3 z o e)) h1⟩⟩
    have s23 : Same (upd H t (.tup [V.ref c, V.ref c])) (upd (upd (upd H t (.tup [V.ref c, V.ref c])) dy (.own b2)) b2 (.ins T.book_C dy [])) := same_upd (same_upd (Same.refl _) ndy) nb
    exact SqT.of (s23 _ _ upd_same)
/-! ### what is shown of a desk -/
def shD (am : List Int) : PyData := .list [rowD am, .int am.length, .int am.length]
theorem shD_ok (am : List Int) : DOk 3 (shD am) := DOk.lst fun d hd => by
  simp only [List.mem_cons, List.not_mem_nil, or_false] at hd
  rcases hd with rfl | rfl | rfl
  · exact rowD_ok am
  · exact DOk.int 2 _
  · exact DOk.int 2 _
/-- the list at l shows a row of am -/
def ShAt (K : PySem.W.Frag) (H : Hp) (l : Addr) (am : List Int) : Prop := ∃ ro, SqL K H l [.ref ro, .int am.length, .int am.length] ∧ RowAt K H ro am
theorem ShAt.dp {H : Hp} {l : Addr} {am : List Int} (h : ShAt K H l am) : Dp K H (.ref l) (shD am) := by
  obtain ⟨ro, h1, h2⟩ := h
  exact .lst h1 (.cons h2.dp (.cons (.int _) (.cons (.int _) .nil)))
theorem ShAt.same {H H' : Hp} (s : Same H H') {l : Addr} {am : List Int} (h : ShAt K H l am) : ShAt K H' l am := by
  obtain ⟨ro, h1, h2⟩ := h
  exact ⟨ro, s.seq h1, h2.same s⟩
theorem sh_eqv (am bm : List Int) : PyData.eqv (shD am) (shD bm) = decide (am = bm) := by
  by_cases h : am = bm
  · subst h
    rw [decide_eq_true rfl]
    exact (shD_ok am).refl
  · rw [decide_eq_false h]
    cases e : PyData.eqv (shD am) (shD bm) with
    | false => rfl
    | true =>
      exfalso
      have e' : PyData.eqvAll [rowD am, .int am.length, .int am.length] [rowD bm, .int bm.length, .int bm.length] = true := by
        unfold shD at e
        rw [PyData.eqv] at e
        exact e
      have q := eqvAll_at (i := 0) (x := rowD am) (y := rowD bm) e' rfl rfl
      rw [row_eqv] at q
      exact h (of_decide_eq_true q)
def spShown (T : TX P K mg) : Sp := fun vs H Q _ => ∃ (d b ro : Addr) (am : List Int), vs = [.ref d] ∧ DkAt T H d b ro ∧ RowAt K H ro am ∧ AmOk am ∧ ∀ H' l, Same H H' → H l = none → H' l = some (.lst [.ref ro, .int am.length, .int am.length]) → Q (.ref l) H'
theorem ok_shown (T : TX P K mg) : FnOk P w K mg base CX0 3 T.shown_f T.shown_d ["live"] (spShown T) := by
  refine T.shown_F.ok scShown (fun vs H Q E h => ?_) (fun cdv A outer s H vs Q E hr h => ?_)
  · obtain ⟨d, b, ro, am, rfl, _⟩ := h
    rfl
  · obtain ⟨d, b, ro, am, rfl, ⟨dx, hd⟩, hrow, ⟨_, hl⟩, q⟩ := h
    refine ⟨_, pss_one (ps_ret (pe_lst (pa_cons (pe_prop (pv 0) T.desk_c T.desk_row (ok_deskRow T) (hr.mono (by decide)) T.deskRow_b .nil pass0 rfl) (pa_cons (pe_callB (call_lenI T.desk_len T.desk_lf (FnOk.raw (ok_deskLen T) T.deskLen_b .nil) (hr.mono (by decide)) pass0) (by rfl) T.z_len PySem.boot_len (pa_cons (pv 0) pa_nil)) (pa_cons (pe_meth0 (pv 0) T.desk_c T.deskDay_m (ok_deskDay T) (hr.mono (by decide)) T.deskDay_b .nil pass0) pa_nil))))), ?_⟩
    refine ⟨_, rfl, d, dx, _, rfl, hd, d, b, ro, rfl, ⟨dx, hd⟩, ?_⟩
    have hb63 : ((am.length : Nat) : Int) < 2 ^ 63 := by
      have : am.length ≤ 12 := hl
      omega
    refine ⟨_, rfl, d, dx, _, rfl, hd, d, b, ro, am, rfl, ⟨dx, hd⟩, hrow, _, rfl, Int.natCast_nonneg _, hb63, ?_⟩
    refine ⟨_, rfl, d, dx, _, rfl, hd, df_no _ _ (by decide +kernel) (by decide +kernel), d, b, ro, am, rfl, ⟨dx, hd⟩, hrow, fun H1 s1 => ⟨(by show 3 ≤ sizeLine; decide), fun l hl => ?_⟩⟩
    exact q _ l (same_upd s1 (s1.free hl)) (by
      cases e : H l with
      | none => rfl
      | some o =>
        rw [s1 _ _ e] at hl
        cases hl) upd_same
theorem ok_deskPay (T : TX P K mg) : FnOk P w K mg base CX0 7 T.deskPay_f T.deskPay_d ["self", "lot", "payment"] (spPay T) := ok_pay T
theorem ok_deskUndo (T : TX P K mg) : FnOk P w K mg base CX0 3 T.deskUndo_f T.deskUndo_d ["self", "many"] (spUndo T) := ok_undo T
/-! ### a desk that is led through amounts -/
def spLed (T : TX P K mg) : Sp := fun vs H Q _ => ∃ (R : Rnd) (d b c ro lot l : Addr) (k : Int) (two : Bool) (am ms : List Int) (x : Str), vs = [.ref d, .ref lot, .ref l] ∧ DkAt T H d b ro ∧ BkAt T H R b c k two ∧ RowAt K H ro am ∧ AmOk (am ++ ms) ∧ SqT K H lot [.str x] ∧ x ∈ R.ps ∧
  SqL K H l (ms.map V.int) ∧ ∀ H' ro', DkAt T H' d b ro' → RowAt K H' ro' (am ++ ms) → (∀ z o, z ≠ d → H z = some o → H' z = some o) → Q (.ref d) H'
theorem AmOk.pre {am bm : List Int} (h : AmOk (am ++ bm)) : AmOk am := ⟨fun m hm => h.1 m (List.mem_append_left _ hm), by have := h.2; rw [List.length_append] at this; omega⟩
theorem ok_led (T : TX P K mg) : FnOk P w K mg base CX0 8 T.led_f T.led_d ["live", "lot", "amounts"] (spLed T) := by
  refine T.led_F.ok scLed (fun vs H Q E h => ?_) (fun cdv A outer s H vs Q E hr h => ?_)
  · obtain ⟨R, d, b, c, ro, lot, l, k, two, am, ms, x, rfl, _⟩ := h
    rfl
  · obtain ⟨R, d, b, c, ro, lot, l, k, two, am, ms, x, rfl, ⟨dx, hd⟩, hb, hrow, hm, hlot, hx, hl, q⟩ := h
    refine ⟨_, pss_cons (ps_for PassesOwn.never rfl (pi_list (pv 2)) (pg_name (i := 3) scLed.nd rfl (Or.inl rfl))
      (pss_one (ps_expr (pe_meth (pv 0) T.desk_c T.deskPay_m (ok_deskPay T) hr T.deskPay_b .nil pass0 (pa_cons (pv 1) (pa_cons (pe_tup (pa_cons (pe_op op_add (pe_meth0 (pv 0) T.desk_c T.deskDay_m (ok_deskDay T) (hr.mono (by decide)) T.deskDay_b .nil pass0) pe_int) (pa_cons pe_int (pa_cons (pv 3) pa_nil)))) pa_nil))))))
      (pss_one (ps_ret (pv 0))), ?_⟩
    refine ⟨_, rfl, l, rfl, ⟨_, hl⟩, for_it (walk_list (K := K) (a := l) (xs := ms.map V.int)) (fun i σ H' => (∃ ro', DkAt T H' d b ro' ∧ RowAt K H' ro' (am ++ ms.take i)) ∧ (∀ z o, z ≠ d → H z = some o → H' z = some o) ∧ ∃ v, σ = [some (.ref d), some (.ref lot), some (.ref l), v]) ⟨⟨ro, ⟨dx, hd⟩, by simpa using hrow⟩, fun z o _ e => e, _, rfl⟩ (fun i σ H' _ h => but_seqL hd h.2.1 hl) ?_ ?_⟩
    · rintro i v σ H2 H3 hi ⟨⟨r1, ⟨d1, hd1⟩, hrow1⟩, s1, v0, rfl⟩ y
      obtain ⟨rfl, hv⟩ := y
      rw [List.getElem?_map] at hv
      obtain ⟨m, em, rfl⟩ := Option.map_eq_some_iff.mp hv
      rw [List.length_map] at hi
      have etake : am ++ ms.take (i + 1) = (am ++ ms.take i) ++ [m] := by
        rw [List.take_add_one, em, List.append_assoc]
        rfl
      have hm1 : AmOk ((am ++ ms.take i) ++ [m]) := by
        rw [← etake]
        refine AmOk.pre (bm := ms.drop (i + 1)) ?_
        rw [List.append_assoc, List.take_append_drop]
        exact hm
      refine ⟨_, rfl, d, d1, _, rfl, hd1, df_no _ _ (by decide +kernel) (by decide +kernel), _, rfl, _, rfl, d, d1, _, rfl, hd1, df_no _ _ (by decide +kernel) (by decide +kernel), d, b, r1, _, rfl, ⟨d1, hd1⟩, hrow1, fun H4 s4 => ?_⟩
      refine ⟨_, _, rfl, rfl, _, rfl, (by show 3 ≤ sizeLine; decide), fun t ht => ?_⟩
      have f1 := Firm.desk (T := T) ⟨dx, hd⟩ s1
      have s5 := same_upd (o := .tup [V.int (((am ++ ms.take i).length : Int) + 1), V.int 0, V.int m]) s4 (s4.free ht)
      have f5 : Firm T H (upd H4 t (.tup [V.int (((am ++ ms.take i).length : Int) + 1), V.int 0, V.int m])) := f1.trans (Firm.same s5)
      refine ⟨R, d, b, c, r1, lot, t, k, two, am ++ ms.take i, m, x, rfl, ⟨d1, s5 _ _ hd1⟩, f5.bk hb, hrow1.same s5, hm1, f5.seqT hlot, hx, SqT.of upd_same, fun H6 r2 hd6 hr6 k6 => ?_⟩
      refine ⟨⟨r2, hd6, by rw [etake]; exact hr6⟩, fun z o hz e => k6 z o hz (s5 z o (s1 z o hz e)), _, rfl⟩
    · rintro σ H2 ⟨⟨r1, hd1, hrow1⟩, s1, v0, rfl⟩
      rw [List.length_map, List.take_length] at hrow1
      exact ⟨_, rfl, q _ r1 hd1 hrow1 s1⟩
end
end Wm
/-! T17 -/
namespace Wm
open PySem PySem.Spec PyProof.Rows L2
theorem PS_nox {X : Cx} {st : Stmt} {t : TS} (h : PS X.nox st t) : PS X st t := ⟨fun pins s σ H D I hw =>
  wpAny_mono (h.run pins s σ H D (I.wish _) hw) (fun _ _ q => q.unwish) fun _ _ z => False.elim z⟩
theorem passes_E {X : Cx} {E : XK} (tk : Takes X (fun c d _ H => E c d H)) : Passes (L2.CX X.prog X.w) X E := fun pins σ H s e s' I h => passAt tk σ pins H s e s' I h
theorem no_cx {P : Program} {w : World} {outer : List Env} : ∀ H s e s', L2.CX P w outer H s E0 e s' → False := fun H s e s' h => by
  obtain ⟨_, _, _, _, _, _, _, _, _, _, _, _, z⟩ := h
  exact z
theorem hu64H {k : Nat} {A : Around} (hr : L2H.RoomH k A) : A.units + 64 < cLine := by
  have := hr.un
  omega
section
variable {P : Program} {w : World} {K : PySem.W.Frag} {mg : Str → Option Value} {base : Heap}
/-! ### what is shown, in an except suite -/
theorem fnS_deskRow (T : TX P K mg) : FnS P w K mg base 1 T.deskRow_f T.deskRow_d ["self"] (spDeskRow T) := by
  refine fnS_of T.deskRow_F scDeskRow (fun vs H Q E h => ?_) (fun cdv A outer s H vs Q p hr h => ?_)
  · obtain ⟨d, b, ro, rfl, _⟩ := h
    rfl
  · obtain ⟨d, b, ro, rfl, ⟨dx, hd⟩, k⟩ := h
    exact ⟨_, pss_one (ps_ret (pe_fld (pv 0) rfl)), _, rfl, d, _, dx, _, _, rfl, hd, T.desk_c, T.desk_own_row, df_r _ _, k⟩
theorem fnS_deskLen (T : TX P K mg) : FnS P w K mg base 1 T.deskLen_f T.deskLen_d ["self"] (spDeskLen T) := by
  refine fnS_of T.deskLen_F scDeskLen (fun vs H Q E h => ?_) (fun cdv A outer s H vs Q p hr h => ?_)
  · obtain ⟨d, b, ro, am, rfl, _⟩ := h
    rfl
  · obtain ⟨d, b, ro, am, rfl, ⟨dx, hd⟩, ⟨as, hl, hs, hp⟩, k⟩ := h
    refine ⟨_, pss_one (ps_ret (pe_callB call_len_seq (by rfl) T.z_len PySem.boot_len (pa_cons (pe_fld (pv 0) rfl) pa_nil))), _, rfl, d, _, dx, _, _, rfl, hd, T.desk_c, T.desk_own_row, df_r _ _, ro, _, rfl, .inr hs, ?_⟩
    rw [List.length_map, hl]
    exact k
theorem fnS_deskDay (T : TX P K mg) : FnS P w K mg base 1 T.deskDay_f T.deskDay_d ["self"] (spDeskDay T) := by
  refine fnS_of T.deskDay_F scDeskDay (fun vs H Q E h => ?_) (fun cdv A outer s H vs Q p hr h => ?_)
  · obtain ⟨d, b, ro, am, rfl, _⟩ := h
    rfl
  · obtain ⟨d, b, ro, am, rfl, ⟨dx, hd⟩, hrow, k⟩ := h
    refine ⟨_, pss_one (ps_ret (pe_ifExp (pt_cmpR (op_neD (hu64H hr)) (pe_fld (pv 0) rfl) (pe_tup pa_nil) (nomark _)) (pe_ix ix_tup (pe_ix ix_tup (pe_fld (pv 0) rfl) (pe_un un_neg pe_int) (fun _ _ => rfl)) pe_int (fun _ _ => rfl)) pe_int)), ?_⟩
    refine ⟨_, rfl, d, _, dx, _, _, rfl, hd, T.desk_c, T.desk_own_row, df_r _ _, Nat.zero_le _, fun e he => ?_⟩
    have s1 : Same H (upd H e (.tup [])) := same_upd (Same.refl H) he
    refine ⟨rowD am, rowD [], (hrow.same s1).dp, (RowAt.nil (SqT.of upd_same)).dp, (rowD_ok _).shaped (by decide), (rowD_ok _).shaped (by decide), _, rfl, ?_⟩
    rw [row_eqv]
    by_cases h0 : am = []
    · subst h0
      rw [decide_eq_true rfl]
      refine iteF (k _ s1)
    · rw [decide_eq_false h0]
      obtain ⟨as, hl, hs, hp⟩ := hrow.same s1
      have hpos : 0 < am.length := List.length_pos_iff.mpr h0
      obtain ⟨a, ea⟩ : ∃ a, as[am.length - 1]? = some a := ⟨as[am.length - 1]'(by omega), List.getElem?_eq_getElem (by omega)⟩
      obtain ⟨m, em⟩ : ∃ m, am[am.length - 1]? = some m := ⟨am[am.length - 1]'(by omega), List.getElem?_eq_getElem (by omega)⟩
      have ht := hp _ a m ea em
      refine iteT ⟨_, rfl, d, _, dx, _, _, rfl, s1 _ _ hd, T.desk_c, T.desk_own_row, df_r _ _, 1, rfl, ro, _, _, V.ref a, rfl, rfl, hs, ?_, a, _, 0, _, rfl, rfl, ht, at_of (j := 0) rfl rfl, ?_⟩
      · unfold atI
        rw [List.length_map]
        have e : ixN as.length (-1) = some (am.length - 1) := by
          unfold ixN
          rw [if_neg (by omega), if_pos (by omega)]
          congr 1
          omega
        rw [e]
        show (as.map V.ref)[am.length - 1]? = some (V.ref a)
        rw [List.getElem?_map, ea]
        rfl
      · have e : (((am.length - 1 : Nat) : Int) + 1) = (am.length : Int) := by omega
        rw [e]
        exact k _ s1
theorem fnS_shown (T : TX P K mg) : FnS P w K mg base 3 T.shown_f T.shown_d ["live"] (spShown T) := by
  refine fnS_of T.shown_F scShown (fun vs H Q E h => ?_) (fun cdv A outer s H vs Q p hr h => ?_)
  · obtain ⟨d, b, ro, am, rfl, _⟩ := h
    rfl
  · obtain ⟨d, b, ro, am, rfl, ⟨dx, hd⟩, hrow, ⟨_, hl⟩, q⟩ := h
    refine ⟨_, pss_one (ps_ret (pe_lst (pa_cons (pe_propHS (pv 0) T.desk_c T.desk_row (fnS_deskRow T) (hr.mono (by decide)) ⟨p, List.mem_singleton.mpr rfl⟩ T.deskRow_b rfl) (pa_cons (pe_callB (call_lenHS T.desk_len T.desk_lf (fnS_deskLen T) (hr.mono (by decide)) ⟨p, List.mem_singleton.mpr rfl⟩ T.deskLen_b) (by rfl) T.z_len PySem.boot_len (pa_cons (pv 0) pa_nil)) (pa_cons (pe_methHS (pv 0) T.desk_c T.deskDay_m (fnS_deskDay T) (hr.mono (by decide)) ⟨p, List.mem_singleton.mpr rfl⟩ T.deskDay_b) pa_nil))))), ?_⟩
    refine ⟨_, rfl, d, dx, _, rfl, hd, d, b, ro, rfl, ⟨dx, hd⟩, ?_⟩
    have hb63 : ((am.length : Nat) : Int) < 2 ^ 63 := by
      have : am.length ≤ 12 := hl
      omega
    refine ⟨_, rfl, d, dx, _, rfl, hd, d, b, ro, am, rfl, ⟨dx, hd⟩, hrow, _, rfl, Int.natCast_nonneg _, hb63, ?_⟩
    refine ⟨_, rfl, d, dx, _, rfl, hd, df_no _ _ (by decide +kernel) (by decide +kernel), d, b, ro, am, rfl, ⟨dx, hd⟩, hrow, fun H1 s1 => ⟨(by show 3 ≤ sizeLine; decide), fun l hl => ?_⟩⟩
    exact q _ l (same_upd s1 (s1.free hl)) (by
      cases e : H l with
      | none => rfl
      | some o =>
        rw [s1 _ _ e] at hl
        cases hl) upd_same
/-! ### _law_fails, _law_breaks -/
theorem hb63_of {am : List Int} (hm : AmOk am) : ((am.length : Nat) : Int) < 2 ^ 63 ∧ ((am.length : Nat) : Int) < 2 ^ 62 ∧ -(2 ^ 62) ≤ ((am.length : Nat) : Int) := by
  have : am.length ≤ 12 := hm.2
  omega
def spFails (T : TX P K mg) : Sp := fun vs H _ E => ∃ (R : Rnd) (d b c ro : Addr) (k : Int) (two : Bool) (am : List Int), vs = [.ref d] ∧ DkAt T H d b ro ∧ BkAt T H R b c k two ∧ RowAt K H ro am ∧ AmOk am ∧
  ∀ H' dd r2, DkAt T H' d b r2 → (∀ z o, z ≠ d → H z = some o → H' z = some o) → H' dd = none → E (.ref T.badRow_C) (some dd) (upd H' dd (.xd [("value", .non)]))
theorem ok_fails (T : TX P K mg) : FnOk P w K mg base (L2.CX P w) 8 T.fails_f T.fails_d ["live"] (spFails T) := by
  obtain ⟨ds, hds, hbd⟩ := T.deskUndo_b0
  refine T.fails_F.okX scFails (fun vs H Q E h => ?_) (fun cdv A outer s H vs Q E hr h => ?_)
  · obtain ⟨R, d, b, c, ro, k, two, am, rfl, _⟩ := h
    rfl
  · obtain ⟨R, d, b, c, ro, k, two, am, rfl, ⟨dx, hd⟩, hb, hrow, hm, q⟩ := h
    obtain ⟨hb63, hb62, hb61⟩ := hb63_of hm
    refine ⟨_, pss_cons (PS_nox (ps_for PassesOwn.never rfl (pi_range1 (by rfl) T.z_range (pa_cons (pe_callB (call_lenI T.desk_len T.desk_lf (FnOk.raw (ok_deskLen T) T.deskLen_b .nil) (hr.mono (by decide)) pass0) (by rfl) T.z_len PySem.boot_len (pa_cons (pv 0) pa_nil)) pa_nil)) (pg_name (i := 1) scFails.nd rfl (Or.inl rfl))
      (pss_one (ps_expr (pe_meth0 (pv 0) T.desk_c T.deskUndo_m (ok_deskUndo T) (hr.mono (by decide)) hbd hds pass0)))))
      (pss_one (ps_expr (pe_meth (pv 0) T.desk_c T.deskPay_m (ok_payBad T) hr T.deskPay_b .nil (passes_E (takes_of rfl rfl rfl rfl)) (pa_cons (pe_tup pa_nil) (pa_cons pe_non pa_nil))))), ?_⟩
    refine ⟨_, rfl, d, dx, _, rfl, hd, d, b, ro, am, rfl, ⟨dx, hd⟩, hrow, _, rfl, Int.natCast_nonneg _, hb63, _, rfl, by omega, by omega, for_it (walk_range (lo := 0) (n := am.length)) (fun i σ H' => (∃ r2, DkAt T H' d b r2 ∧ RowAt K H' r2 (am.take (am.length - i))) ∧ (∀ z o, z ≠ d → H z = some o → H' z = some o) ∧ ∃ v, σ = [some (.ref d), v]) ⟨⟨ro, ⟨dx, hd⟩, by simpa using hrow⟩, fun z o _ e => e, _, rfl⟩ (fun _ _ _ _ _ => trivial) ?_ ?_⟩
    · rintro i v σ H2 H3 hi ⟨⟨r1, ⟨d1, hd1⟩, hrow1⟩, s1, v0, rfl⟩ y
      obtain ⟨rfl, rfl⟩ := y
      have hlen : (am.take (am.length - i)).length = am.length - i := by
        rw [List.length_take]
        omega
      refine ⟨_, rfl, d, d1, _, rfl, hd1, df_no _ _ (by decide +kernel) (by decide +kernel), d, b, r1, am.take (am.length - i), 1, rfl, ⟨d1, hd1⟩, hrow1, Nat.le_refl 1, by omega, fun H4 r4 hd4 hrow4 k4 => ⟨⟨r4, hd4, ?_⟩, fun z o hz e => k4 z o hz (s1 z o hz e), _, rfl⟩⟩
      have e1 : (am.take (am.length - i)).take ((am.take (am.length - i)).length - 1) = am.take (am.length - (i + 1)) := by
        rw [hlen, List.take_take]
        congr 1
        omega
      rw [← e1]
      exact hrow4
    · rintro σ H2 ⟨⟨r1, ⟨d1, hd1⟩, hrow1⟩, s1, v0, rfl⟩
      rw [Nat.sub_self, List.take_zero] at hrow1
      refine ⟨_, rfl, d, d1, _, rfl, hd1, df_no _ _ (by decide +kernel) (by decide +kernel), Nat.zero_le _, fun t ht => ?_⟩
      have s2 := same_upd (o := .tup []) (Same.refl H2) ht
      have f1 := Firm.desk (T := T) ⟨dx, hd⟩ s1
      refine ⟨R, d, b, c, r1, t, k, two, rfl, ⟨d1, s2 _ _ hd1⟩, (f1.trans (Firm.same s2)).bk hb, SqT.of upd_same, fun H3 dd s3 hdd => q H3 dd r1 ⟨d1, s3 _ _ (s2 _ _ hd1)⟩ (fun z o hz e => s3 z o (s2 z o (s1 z o hz e))) hdd⟩
def spBreaks (T : TX P K mg) : Sp := fun vs H _ E => ∃ (d b ro : Addr) (am : List Int), vs = [.ref d] ∧ DkAt T H d b ro ∧ RowAt K H ro am ∧ AmOk am ∧
  ∀ H' dd r2, DkAt T H' d b r2 → (∀ z o, z ≠ d → H z = some o → H' z = some o) → E (.type "KeyError") dd H'
theorem ok_breaks (T : TX P K mg) : FnOk P w K mg base (L2.CX P w) 8 T.breaks_f T.breaks_d ["live"] (spBreaks T) := by
  obtain ⟨ds, hds, hbd⟩ := T.deskUndo_b0
  refine T.breaks_F.okX scBreaks (fun vs H Q E h => ?_) (fun cdv A outer s H vs Q E hr h => ?_)
  · obtain ⟨d, b, ro, am, rfl, _⟩ := h
    rfl
  · obtain ⟨d, b, ro, am, rfl, ⟨dx, hd⟩, hrow, hm, q⟩ := h
    obtain ⟨hb63, hb62, hb61⟩ := hb63_of hm
    have hu := hu64 hr
    refine ⟨_, pss_cons (PS_nox (ps_for PassesOwn.never rfl (pi_range1 (by rfl) T.z_range (pa_cons (pe_callB (call_lenI T.desk_len T.desk_lf (FnOk.raw (ok_deskLen T) T.deskLen_b .nil) (hr.mono (by decide)) pass0) (by rfl) T.z_len PySem.boot_len (pa_cons (pv 0) pa_nil)) pa_nil)) (pg_name (i := 1) scBreaks.nd rfl (Or.inl rfl))
      (pss_one (ps_expr (pe_meth0 (pv 0) T.desk_c T.deskUndo_m (ok_deskUndo T) (hr.mono (by decide)) hbd hds pass0)))))
      (pss_one (ps_ret (pe_dgetX rfl (hu_of hr) (takes_of rfl rfl rfl rfl) (pe_disp (pps_cons pe_str pe_int pps_nil) rfl rfl (by simp) (by decide)) (pe_op op_add_str pe_str (pe_callTy call_str_int (by rfl) T.z_str (by decide +kernel) (pa_cons (pe_callB (call_lenI T.desk_len T.desk_lf (FnOk.raw (ok_deskLen T) T.deskLen_b .nil) (hr.mono (by decide)) pass0) (by rfl) T.z_len PySem.boot_len (pa_cons (pv 0) pa_nil)) pa_nil))) (fun _ _ => rfl)))), ?_⟩
    refine ⟨_, rfl, d, dx, _, rfl, hd, d, b, ro, am, rfl, ⟨dx, hd⟩, hrow, _, rfl, Int.natCast_nonneg _, hb63, _, rfl, by omega, by omega, for_it (walk_range (lo := 0) (n := am.length)) (fun i σ H' => (∃ r2, DkAt T H' d b r2 ∧ RowAt K H' r2 (am.take (am.length - i))) ∧ (∀ z o, z ≠ d → H z = some o → H' z = some o) ∧ ∃ v, σ = [some (.ref d), v]) ⟨⟨ro, ⟨dx, hd⟩, by simpa using hrow⟩, fun z o _ e => e, _, rfl⟩ (fun _ _ _ _ _ => trivial) ?_ ?_⟩
    · rintro i v σ H2 H3 hi ⟨⟨r1, ⟨d1, hd1⟩, hrow1⟩, s1, v0, rfl⟩ y
      obtain ⟨rfl, rfl⟩ := y
      have hlen : (am.take (am.length - i)).length = am.length - i := by
        rw [List.length_take]
        omega
      refine ⟨_, rfl, d, d1, _, rfl, hd1, df_no _ _ (by decide +kernel) (by decide +kernel), d, b, r1, am.take (am.length - i), 1, rfl, ⟨d1, hd1⟩, hrow1, Nat.le_refl 1, by omega, fun H4 r4 hd4 hrow4 k4 => ⟨⟨r4, hd4, ?_⟩, fun z o hz e => k4 z o hz (s1 z o hz e), _, rfl⟩⟩
      have e1 : (am.take (am.length - i)).take ((am.take (am.length - i)).length - 1) = am.take (am.length - (i + 1)) := by
        rw [hlen, List.take_take]
        congr 1
        omega
      rw [← e1]
      exact hrow4
    · rintro σ H2 ⟨⟨r1, ⟨d1, hd1⟩, hrow1⟩, s1, v0, rfl⟩
      rw [Nat.sub_self, List.take_zero] at hrow1
      refine fun p hp => ⟨upd_same, [(.inr "none", .int 0)], rfl, (by show 1 ≤ 15; decide), ?_⟩
      have s2 : Same H2 (upd (upd H2 p (.dK [])) p (.dK (mergeK [] [(.inr "none", .int 0)]))) := fun z o e => by
        have n := ne_of_none e hp
        rw [upd_ne n, upd_ne n]
        exact e
      refine ⟨_, rfl, d, d1, _, rfl, s2 _ _ hd1, d, b, r1, [], rfl, ⟨d1, s2 _ _ hd1⟩, hrow1.same s2, 0, rfl, (by decide), (by decide), 0, rfl, (by decide), _, _, rfl, rfl, (by decide +kernel), p, none, rfl, .inl ⟨_, .inr ("some" ++ toString (0 : Int)), .inl upd_same, rfl, ?_⟩, (fun v z => nomatch z), fun _ dd => q _ dd r1 ⟨d1, s2 _ _ hd1⟩ (fun z o hz e => s2 z o (s1 z o hz e))⟩
      decide +kernel
end
end Wm
/-! T18 -/
namespace Wm
open PySem PySem.Spec PyProof.Rows L2
section
variable {P : Program} {w : World} {K : PySem.W.Frag} {mg : Str → Option Value} {base : Heap}
/-- what a desk is tried with, in _law_ends_right -/
def SFe (T : TX P K mg) (f : Addr) : Sp := fun vs H Q E => (f = T.fails_f ∧ spFails T vs H Q E) ∨ (f = T.breaks_f ∧ spBreaks T vs H Q E)
theorem held_e (T : TX P K mg) : ∀ f, HeldF P w K mg base (L2.CX P w) 8 f (SFe T f) := fun f A outer s H us vs Q E hr e0 r h => by
  rcases h with ⟨rfl, h⟩ | ⟨rfl, h⟩
  · exact heldF_of (ok_fails T) T.fails_b A outer s H us vs Q E hr e0 r h
  · exact heldF_of (ok_breaks T) T.breaks_b A outer s H us vs Q E hr e0 r h
def endD : PyData := .list [.list [.none, .bool true], .list [.none, .bool true]]
theorem endD_ok : DOk 2 endD := DOk.lst fun d hd => by
  simp only [List.mem_cons, List.not_mem_nil, or_false, or_self] at hd
  subst hd
  exact DOk.lst fun e he => by
    simp only [List.mem_cons, List.not_mem_nil, or_false] at he
    rcases he with rfl | rfl
    · exact DOk.none 0
    · exact DOk.bool 0 _
def spEnds (T : TX P K mg) : Sp := fun vs H Q _ => ∃ (R : Rnd) (d b c ro due : Addr) (k : Int) (two : Bool) (am : List Int), vs = [.ref d, .ref due] ∧ DkAt T H d b ro ∧ BkAt T H R b c k two ∧ RowAt K H ro am ∧ AmOk am ∧ ShAt K H due am ∧
  ∀ H', DkAt T H' d b ro → (∀ z o, z ≠ d → H z = some o → H' z = some o) → Q (.bl true) H'
theorem sh_but {H H' : Hp} {d C dx : Addr} {fs : List (Str × V)} (hd : H d = some (.ins C dx fs)) (s : ∀ z o, z ≠ d → H z = some o → H' z = some o) {l : Addr} {am : List Int} (h : ShAt K H l am) : ShAt K H' l am := by
  obtain ⟨ro, h1, h2⟩ := h
  exact ⟨ro, but_seqL hd s h1, h2.by_seq fun _ _ => but_seqT hd s⟩
theorem ok_endsRight (T : TX P K mg) : FnOk P w K mg base CX0 13 T.endsRight_f T.endsRight_d ["live", "due"] (spEnds T) := by
  refine T.endsRight_F.ok scEndsRight (fun vs H Q E h => ?_) (fun cdv A outer s H vs Q E hr h => ?_)
  · obtain ⟨R, d, b, c, ro, due, k, two, am, rfl, _⟩ := h
    rfl
  · obtain ⟨R, d, b, c, ro, due, k, two, am, rfl, ⟨dx, hd⟩, hb, hrow, hm, hdue, q⟩ := h
    have hr12 : Room 12 _ := hr
    refine ⟨_, pss_cons (ps_set (i := 2) scEndsRight.nd rfl (Or.inl rfl) (pe_lst pa_nil))
      (pss_cons (ps_try_as (i := 3) (tb := fun W => tDrop (tCallS (spTried T (SFe T)) (WE W) (tCons (tVar 0) (tCons (tC (.ref T.fails_f)) tNil)))) (ts := fun a cls d => tDrop (tBM K "list" rAppend (tVar 2) (tCons (tLst (tCons (tByBad T.badRow_C a cls d (tVar 3)) (tCons (tOp (rEqD K) (tCallH (spShown T) (tCons (tVar 0) tNil)) (tVar 1)) tNil))) tNil))) (Wout := fun _ _ _ _ => False) rfl rfl scEndsRight.nd rfl rfl ⟨rfl, by decide, Or.inl T.badRow.gC⟩ takes0
        (fun W pn xe tk _ => pss_one (ps_expr (by exact pe_callS (ok_tried T (held_e T)) hr rfl T.tried_g T.tried_F.kp T.tried_b (fun σ => passAt tk σ) (pa_cons (pv 0) (pa_cons (pe_glob (v := .ref T.fails_f) rfl T.fails_g rfl) pa_nil)))))
        (fun a oe cls d pn hz hf => pss_one (ps_expr (by exact pe_bm PySem.F.plainAttrs_list PySem.F.slot_list_append PySem.F.type_list_append mt_append (pv 2) (pa_cons (pe_lst (pa_cons (pe_byBad T.badRow hz hf (pv 3)) (pa_cons (pe_cmpR (op_eqD hr.units) (pe_callHS (fnS_shown T) ⟨(hr.mono (by decide : 3 ≤ 12)).dp, (hr.mono (by decide : 3 ≤ 12)).un⟩ ⟨(a, oe), List.mem_cons_self⟩ (by rfl) T.shown_g T.shown_F.kp T.shown_b (pa_cons (pv 0) pa_nil)) (pv 1) (nomark _)) pa_nil))) pa_nil)))))
      (pss_cons (ps_try_only (c := .type "KeyError") (tb := fun W => tDrop (tCallS (spTried T (SFe T)) (WE W) (tCons (tVar 0) (tCons (tC (.ref T.breaks_f)) tNil)))) (ts := fun a cls d => tDrop (tBM K "list" rAppend (tVar 2) (tCons (tLst (tCons (tC .non) (tCons (tOp (rEqD K) (tCallH (spShown T) (tCons (tVar 0) tNil)) (tVar 1)) tNil))) tNil))) (Wout := fun _ _ _ _ => False) rfl rfl ⟨rfl, by decide, Or.inr ⟨T.z_KeyError, by decide +kernel, by decide⟩⟩ takes0
        (fun W pn xe tk _ => pss_one (ps_expr (by exact pe_callS (ok_tried T (held_e T)) hr rfl T.tried_g T.tried_F.kp T.tried_b (fun σ => passAt tk σ) (pa_cons (pv 0) (pa_cons (pe_glob (v := .ref T.breaks_f) rfl T.breaks_g rfl) pa_nil)))))
        (fun a oe cls d pn hz hf => pss_one (ps_expr (by exact pe_bm PySem.F.plainAttrs_list PySem.F.slot_list_append PySem.F.type_list_append mt_append (pv 2) (pa_cons (pe_lst (pa_cons pe_non (pa_cons (pe_cmpR (op_eqD hr.units) (pe_callHS (fnS_shown T) ⟨(hr.mono (by decide : 3 ≤ 12)).dp, (hr.mono (by decide : 3 ≤ 12)).un⟩ ⟨(a, oe), List.mem_cons_self⟩ (by rfl) T.shown_g T.shown_F.kp T.shown_b (pa_cons (pv 0) pa_nil)) (pv 1) (nomark _)) pa_nil))) pa_nil)))))
      (pss_one (ps_ret (pe_cmpR (op_eqD hr.units) (pv 2) (pe_op op_rep (pe_lst (pa_cons (pe_lst (pa_cons pe_non (pa_cons pe_bl pa_nil))) pa_nil)) pe_int) (nomark _)))))), ?_⟩
    refine ⟨Nat.zero_le _, fun l hl => ?_⟩
    have nl : l ≠ d := fun e => by
      rw [e, hd] at hl
      cases hl
    have hd0 : upd H l (.lst []) d = some (.ins T.desk_C dx (df b ro)) := by
      rw [upd_ne nl.symm]
      exact hd
    have s0 : Same H (upd H l (.lst [])) := same_upd (Same.refl H) hl
    refine ⟨_, rfl, d, b, ro, T.fails_f, rfl, ⟨dx, hd0⟩, Or.inl T.fails_F.kp, fun H1 t s1 nt ⟨tx, ht⟩ QF EF hQ hE => ?_⟩
    have s01 := s0.trans s1
    refine .inl ⟨rfl, R, d, b, c, ro, k, two, am, rfl, ⟨dx, s1 _ _ hd0⟩, Firm.bk (Firm.same s01) hb, hrow.same s01, hm, fun H2 dd r2 ⟨dx2, hd2⟩ k2 hdd => ?_⟩
    have ntd : t ≠ d := fun e => by
      rw [e, hd0] at nt
      cases nt
    refine hE _ _ _ r2 ⟨.ref T.badRow_C, rfl⟩ ⟨dx2, by rw [upd_ne (ne_of_none hd2 hdd)]; exact hd2⟩ ⟨tx, by rw [upd_ne (ne_of_none (k2 _ _ ntd ht) hdd)]; exact k2 _ _ ntd ht⟩ fun H3 hd3 k3 => ?_
    have ndd : dd ≠ d := fun e => by
      rw [e, hd2] at hdd
      cases hdd
    have k03 : ∀ z o, z ≠ d → upd H l (.lst []) z = some o → H3 z = some o := fun z o hz e => by
      have e2 := k2 z o hz (s1 z o e)
      exact k3 z o hz (by rw [upd_ne (ne_of_none e2 hdd)]; exact e2)
    have kH3 : ∀ z o, z ≠ d → H z = some o → H3 z = some o := fun z o hz e => k03 z o hz (s0 z o e)
    have hxd : H3 dd = some (.xd [("value", .non)]) := k3 dd _ ndd upd_same
    have hl3 : H3 l = some (.lst []) := k03 l _ nl upd_same
    obtain ⟨dx3, hd3'⟩ := id hd3
    have hrow3 : RowAt K H3 ro am := hrow.by_seq fun _ _ => but_seqT hd kH3
    have hdue3 : ShAt K H3 due am := sh_but hd kH3 hdue
    refine ⟨true, T.badRow.te, fun _ a ha => ?_, fun q => Bool.noConfusion q⟩
    refine ⟨_, rfl, .inl ⟨rfl, _, SqL.of hl3⟩, _, rfl, rfl, rfl, dd, .non, rfl, hxd, _, rfl, d, b, ro, am, rfl, hd3, hrow3, hm, fun H4 l4 s4 hl4n hl4 => ?_⟩
    have hsh4 : ShAt K H4 l4 am := ⟨ro, SqL.of hl4, hrow3.same s4⟩
    refine ⟨_, rfl, shD am, shD am, hsh4.dp, (hdue3.same s4).dp, (shD_ok _).shaped (by decide), (shD_ok _).shaped (by decide), (by show 2 ≤ sizeLine; decide), fun l1 hl1 => ?_⟩
    have er : PyData.eqv (shD am) (shD am) = true := (shD_ok am).refl
    rw [er]
    have s5 : Same H4 (upd H4 l1 (.lst [.non, .bl true])) := same_upd (Same.refl H4) hl1
    have hl4' := s4 _ _ hl3
    have nl1 : l1 ≠ l := fun e => by
      rw [e, hl4'] at hl1
      cases hl1
    refine ⟨l, [], .ref l1, rfl, rfl, s5 _ _ hl4', (by show 0 < sizeLine; decide), ?_⟩
    -- behind the first try
    have k5 : ∀ z o, z ≠ d → H z = some o → upd (upd H4 l1 (.lst [.non, .bl true])) l (.lst ([] ++ [.ref l1])) z = some o := fun z o hz e => by
      rw [upd_ne (ne_of_none e hl)]
      exact s5 z o (s4 z o (kH3 z o hz e))
    have hd5 : upd (upd H4 l1 (.lst [.non, .bl true])) l (.lst ([] ++ [.ref l1])) d = some (.ins T.desk_C dx3 (df b ro)) := by
      rw [upd_ne nl.symm]
      exact s5 _ _ (s4 _ _ hd3')
    have hl5 : upd (upd H4 l1 (.lst [.non, .bl true])) l (.lst ([] ++ [.ref l1])) l = some (.lst [.ref l1]) := upd_same
    have hl15 : upd (upd H4 l1 (.lst [.non, .bl true])) l (.lst ([] ++ [.ref l1])) l1 = some (.lst [.non, .bl true]) := by
      rw [upd_ne nl1, upd_same]
    generalize upd (upd H4 l1 (.lst [.non, .bl true])) l (.lst ([] ++ [.ref l1])) = H5 at k5 hd5 hl5 hl15 ⊢
    clear hxd hE hQ k3 hl4' hl1 s5 hsh4 hdue3 hrow3 hl4 hl4n s4
    have f5 : Firm T H H5 := Firm.desk ⟨dx, hd⟩ k5
    refine ⟨_, rfl, d, b, ro, T.breaks_f, rfl, ⟨dx3, hd5⟩, Or.inl T.breaks_F.kp, fun H6 t2 s6 nt2 ⟨tx2, ht2⟩ QF EF hQ hE => ?_⟩
    have ntd2 : t2 ≠ d := fun e => by
      rw [e, hd5] at nt2
      cases nt2
    refine .inr ⟨rfl, d, b, ro, am, rfl, ⟨dx3, s6 _ _ hd5⟩, (hrow.by_seq fun _ _ => but_seqT hd k5).same s6, hm, fun H7 d7 r7 ⟨dx7, hd7⟩ k7 => ?_⟩
    refine hE _ _ _ r7 ⟨.ty "KeyError", rfl⟩ ⟨dx7, hd7⟩ ⟨tx2, k7 _ _ ntd2 ht2⟩ fun H8 hd8 k8 => ?_
    have k58 : ∀ z o, z ≠ d → H5 z = some o → H8 z = some o := fun z o hz e => k8 z o hz (k7 z o hz (s6 z o e))
    have kH8 : ∀ z o, z ≠ d → H z = some o → H8 z = some o := fun z o hz e => k58 z o hz (k5 z o hz e)
    have nl1d : l1 ≠ d := fun e => by
      rw [e, hd5] at hl15
      cases hl15
    have hl8 := k58 l _ nl hl5
    have hl18 := k58 l1 _ nl1d hl15
    have hrow8 : RowAt K H8 ro am := hrow.by_seq fun _ _ => but_seqT hd kH8
    have hdue8 : ShAt K H8 due am := sh_but hd kH8 hdue
    obtain ⟨dx8, hd8'⟩ := id hd8
    refine ⟨true, exm_KE, fun _ a ha => ?_, fun q => Bool.noConfusion q⟩
    refine ⟨_, rfl, .inl ⟨rfl, _, SqL.of hl8⟩, _, rfl, d, b, ro, am, rfl, hd8, hrow8, hm, fun H9 l9 s9 hl9n hl9 => ?_⟩
    have hsh9 : ShAt K H9 l9 am := ⟨ro, SqL.of hl9, hrow8.same s9⟩
    refine ⟨_, rfl, shD am, shD am, hsh9.dp, (hdue8.same s9).dp, (shD_ok _).shaped (by decide), (shD_ok _).shaped (by decide), (by show 2 ≤ sizeLine; decide), fun l2 hl2 => ?_⟩
    rw [er]
    have s10 : Same H9 (upd H9 l2 (.lst [.non, .bl true])) := same_upd (Same.refl H9) hl2
    have hl9' := s9 _ _ hl8
    have nl2 : l2 ≠ l := fun e => by
      rw [e, hl9'] at hl2
      cases hl2
    have nl12 : l1 ≠ l2 := ne_of_none (s9 _ _ hl18) hl2
    refine ⟨l, [.ref l1], .ref l2, rfl, rfl, s10 _ _ hl9', (by show 1 < sizeLine; decide), ?_⟩
    have k11 : ∀ z o, z ≠ d → H z = some o → upd (upd H9 l2 (.lst [.non, .bl true])) l (.lst ([.ref l1] ++ [.ref l2])) z = some o := fun z o hz e => by
      rw [upd_ne (ne_of_none e hl)]
      exact s10 z o (s9 z o (kH8 z o hz e))
    have hd11 : upd (upd H9 l2 (.lst [.non, .bl true])) l (.lst ([.ref l1] ++ [.ref l2])) d = some (.ins T.desk_C dx8 (df b ro)) := by
      rw [upd_ne nl.symm]
      exact s10 _ _ (s9 _ _ hd8')
    have hl11 : upd (upd H9 l2 (.lst [.non, .bl true])) l (.lst ([.ref l1] ++ [.ref l2])) l = some (.lst [.ref l1, .ref l2]) := upd_same
    have hla : upd (upd H9 l2 (.lst [.non, .bl true])) l (.lst ([.ref l1] ++ [.ref l2])) l1 = some (.lst [.non, .bl true]) := by
      rw [upd_ne nl1]
      exact s10 _ _ (s9 _ _ hl18)
    have hlb : upd (upd H9 l2 (.lst [.non, .bl true])) l (.lst ([.ref l1] ++ [.ref l2])) l2 = some (.lst [.non, .bl true]) := by
      rw [upd_ne nl2, upd_same]
    generalize upd (upd H9 l2 (.lst [.non, .bl true])) l (.lst ([.ref l1] ++ [.ref l2])) = H11 at k11 hd11 hl11 hla hlb ⊢
    -- the answer
    refine ⟨_, rfl, (by show 2 ≤ sizeLine; decide), fun p hp => ⟨(by show 1 ≤ sizeLine; decide), fun p2 hp2 => ⟨p2, 2, [.ref p], rfl, rfl, upd_same, by decide, by decide, (by show 2 ≤ sizeLine; decide), fun p3 hp3 => ?_⟩⟩⟩
    have t1 : Same H11 (upd H11 p (.lst [.non, .bl true])) := same_upd (Same.refl _) hp
    have t2 : Same H11 (upd (upd H11 p (.lst [.non, .bl true])) p2 (.lst [.ref p])) := fun z o e => by
      rw [upd_ne (ne_of_none (t1 z o e) hp2)]
      exact t1 z o e
    have t3 : Same H11 (upd (upd (upd H11 p (.lst [.non, .bl true])) p2 (.lst [.ref p])) p3 (.lst (List.replicate (2 : Int).toNat [V.ref p]).flatten)) := fun z o e => by
      rw [upd_ne (ne_of_none (t2 z o e) hp3)]
      exact t2 z o e
    have hp4 : upd (upd (upd H11 p (.lst [.non, .bl true])) p2 (.lst [.ref p])) p3 (.lst (List.replicate (2 : Int).toNat [V.ref p]).flatten) p = some (.lst [.non, .bl true]) := by
      have e1 : upd H11 p (.lst [.non, .bl true]) p = some (.lst [.non, .bl true]) := upd_same
      have n2 := ne_of_none e1 hp2
      have e2 : upd (upd H11 p (.lst [.non, .bl true])) p2 (.lst [.ref p]) p = some (.lst [.non, .bl true]) := by
        rw [upd_ne n2]
        exact e1
      rw [upd_ne (ne_of_none e2 hp3)]
      exact e2
    have pair : ∀ {H' : Hp} {a : Addr}, H' a = some (.lst [.non, .bl true]) → Dp K H' (.ref a) (.list [.none, .bool true]) := fun h => .lst (SqL.of h) (.cons .non (.cons (.bl _) .nil))
    refine ⟨endD, endD, .lst (SqL.of (t3 _ _ hl11)) (.cons (pair (t3 _ _ hla)) (.cons (pair (t3 _ _ hlb)) .nil)), .lst (xs := [.ref p, .ref p]) (SqL.of upd_same) (.cons (pair hp4) (.cons (pair hp4) .nil)), endD_ok.shaped (by decide), endD_ok.shaped (by decide), ?_⟩
    have ee : PyData.eqv endD endD = true := endD_ok.refl
    rw [ee]
    exact q _ ⟨dx8, t3 _ _ hd11⟩ fun z o hz e => t3 z o (k11 z o hz e)
end
end Wm
/-! T19a -/
namespace Wm
open PySem PySem.Spec PyProof.Rows L2 LamX NdefX
def eNo : Expr := .Constant .none 0 ⟨0, 0, 0, 0⟩
def argE : Expr → Nat → Expr
  | .Call _ es _ _, i => es.getD i eNo
  | .Compare a _ _ _, i => argE a i
  | .List es _ , i => es.getD i eNo
  | _, _ => eNo
def valE : Stmt → Expr
  | .If t _ _ _ => t
  | .Assign _ e _ => e
  | .Return (some e) _ => e
  | _ => eNo
def thenS : Stmt → List Stmt
  | .If _ b _ _ => b
  | _ => []
def lamPar : Expr → Arguments
  | .Lambda p _ _ _ => p
  | _ => { posonlyargs := [], args := [], vararg := none, kwonlyargs := [], kw_defaults := [], kwarg := none, defaults := [] }
def lamBod : Expr → Expr
  | .Lambda _ b _ _ => b
  | _ => eNo
def lamSco : Expr → Scope
  | .Lambda _ _ s _ => s
  | _ => { kind := .function, names := [], isGenerator := false, isCoroutine := false, more := [] }
def trS (i : Nat) : Stmt := (defBody sTrialRight).getD i (.Pass ⟨0, 0, 0, 0⟩)
abbrev lam1 : Expr := argE (valE (trS 1)) 1
abbrev lam2 : Expr := valE (trS 2)
abbrev lam3 : Expr := argE (valE (trS 3)) 1
abbrev lam4 : Expr := argE (valE (trS 4)) 1
abbrev lam5 : Expr := argE (valE ((thenS (trS 6)).getD 0 (.Pass ⟨0, 0, 0, 0⟩))) 1
abbrev lam2a : Expr := argE (lamBod lam2) 1
theorem nsc1 : NScope ["one", "live", "lot", "some"] ["one"] ["live", "lot", "some"] (lamSco lam1) := nscope_by (by decide +kernel)
theorem nsc2 : NScope ["one", "lot", "more"] ["one"] ["lot", "more"] (lamSco lam2) := nscope_by (by decide +kernel)
theorem nsc3 : NScope ["same", "lot", "some", "_law_inner_by"] ["same"] ["lot", "some", "_law_inner_by"] (lamSco lam3) := nscope_by (by decide +kernel)
theorem nsc4 : NScope ["far", "lot", "some", "more"] ["far"] ["lot", "some", "more"] (lamSco lam4) := nscope_by (by decide +kernel)
theorem nsc5 : NScope ["near", "size"] ["near"] ["size"] (lamSco lam5) := nscope_by (by decide +kernel)
theorem nsc2a : NScope ["two", "lot", "more"] ["two"] ["lot", "more"] (lamSco lam2a) := nscope_by (by decide +kernel)
end Wm
/-! T19 -/
namespace Wm
open PySem PySem.Spec PyProof.Rows L2 LamX NdefX
/-! ### what is kept -/
/-- tuples, lists, instances -/
def soft (o : HO) : Prop := (∃ xs, o = .tup xs) ∨ (∃ xs, o = .lst xs) ∨ (∃ a xs, o = .frz a (.tup xs)) ∨ (∃ a xs, o = .frz a (.lst xs)) ∨ ∃ C dx fs, o = .ins C dx fs
def Mv (d : Addr) (H H' : Hp) : Prop := ∀ z o, z ≠ d → H z = some o → soft o → H' z = some o
theorem Mv.refl (d : Addr) (H : Hp) : Mv d H H := fun _ _ _ e _ => e
theorem Mv.trans {d : Addr} {H H1 H2 : Hp} (a : Mv d H H1) (b : Mv d H1 H2) : Mv d H H2 := fun z o n e s => b z o n (a z o n e s) s
theorem Mv.same {d : Addr} {H H' : Hp} (s : Same H H') : Mv d H H' := fun z o _ e _ => s z o e
theorem Mv.of {d : Addr} {H H' : Hp} (s : ∀ z o, z ≠ d → H z = some o → H' z = some o) : Mv d H H' := fun z o n e _ => s z o n e
section
variable {P : Program} {w : World} {K : PySem.W.Frag} {mg : Str → Option Value} {base : Heap}
theorem Mv.seqT {H H' : Hp} {d C dx : Addr} {fs : List (Str × V)} (m : Mv d H H') (hd : H d = some (.ins C dx fs)) {a : Addr} {xs : List V} (h : SqT K H a xs) : SqT K H' a xs := by
  rcases h with h | h
  · rcases h with h | ⟨o, h⟩
    · exact .inl (.inl (m _ _ (ne_of h hd (by intro z; cases z)) h (.inl ⟨_, rfl⟩)))
    · exact .inl (.inr ⟨o, m _ _ (ne_of h hd (by intro z; cases z)) h (.inr (.inr (.inl ⟨_, _, rfl⟩)))⟩)
  · exact .inr h
theorem Mv.seqL {H H' : Hp} {d C dx : Addr} {fs : List (Str × V)} (m : Mv d H H') (hd : H d = some (.ins C dx fs)) {a : Addr} {xs : List V} (h : SqL K H a xs) : SqL K H' a xs := by
  rcases h with h | h
  · rcases h with h | ⟨o, h⟩
    · exact .inl (.inl (m _ _ (ne_of h hd (by intro z; cases z)) h (.inr (.inl ⟨_, rfl⟩))))
    · exact .inl (.inr ⟨o, m _ _ (ne_of h hd (by intro z; cases z)) h (.inr (.inr (.inr (.inl ⟨_, _, rfl⟩))))⟩)
  · exact .inr h
theorem Mv.row {H H' : Hp} {d C dx : Addr} {fs : List (Str × V)} (m : Mv d H H') (hd : H d = some (.ins C dx fs)) {ro : Addr} {am : List Int} (h : RowAt K H ro am) : RowAt K H' ro am := h.by_seq fun _ _ => m.seqT hd
theorem Mv.sh {H H' : Hp} {d C dx : Addr} {fs : List (Str × V)} (m : Mv d H H') (hd : H d = some (.ins C dx fs)) {l : Addr} {am : List Int} (h : ShAt K H l am) : ShAt K H' l am := by
  obtain ⟨ro, h1, h2⟩ := h
  exact ⟨ro, m.seqL hd h1, m.row hd h2⟩
theorem Mv.bk {T : TX P K mg} {H H' : Hp} {d dx : Addr} {fs : List (Str × V)} (m : Mv d H H') (hd : H d = some (.ins T.desk_C dx fs)) {R : Rnd} {b c : Addr} {k : Int} {two : Bool} (h : BkAt T H R b c k two) : BkAt T H' R b c k two := by
  obtain ⟨⟨⟨cx, h1⟩, h1'⟩, ⟨h2, h2'⟩, bx, cs, lt, h3, h4, h5⟩ := h
  have nc : c ≠ d := fun e => by
    rw [e, hd] at h1
    injection h1 with z
    injection z with z
    exact T.ne_dc z
  have nb : b ≠ d := fun e => by
    rw [e, hd] at h3
    injection h3 with z
    injection z with z
    exact T.ne_db z
  exact ⟨⟨⟨cx, m _ _ nc h1 (.inr (.inr (.inr (.inr ⟨_, _, _, rfl⟩))))⟩, h1'⟩, ⟨⟨m.seqT hd h2.p_, m.seqT hd h2.sl_, m.seqT hd h2.su_, m.seqT hd h2.sm_, h2.w_, h2.w1, h2.c1, h2.n1, h2.n7, h2.S1⟩, h2'⟩, bx, cs, lt, m _ _ nb h3 (.inr (.inr (.inr (.inr ⟨_, _, _, rfl⟩)))), m.seqT hd h4, m.seqT hd h5⟩
/-- a desk that can be led through amounts -/
structure LdAt (T : TX P K mg) (H : Hp) (R : Rnd) (d b c ro lot : Addr) (k : Int) (two : Bool) (am : List Int) (x : Str) : Prop where
  dk : DkAt T H d b ro
  bk : BkAt T H R b c k two
  row : RowAt K H ro am
  lot : SqT K H lot [.str x]
  x : x ∈ R.ps
theorem LdAt.mv {T : TX P K mg} {H H' : Hp} {R : Rnd} {d b c ro lot ro' : Addr} {k : Int} {two : Bool} {am am' : List Int} {x : Str} (h : LdAt T H R d b c ro lot k two am x) (m : Mv d H H') (dk : DkAt T H' d b ro') (row : RowAt K H' ro' am') : LdAt T H' R d b c ro' lot k two am' x := by
  obtain ⟨dx, hd⟩ := h.dk
  exact ⟨dk, m.bk hd h.bk, row, m.seqT hd h.lot, h.x⟩
theorem LdAt.same {T : TX P K mg} {H H' : Hp} {R : Rnd} {d b c ro lot : Addr} {k : Int} {two : Bool} {am : List Int} {x : Str} (h : LdAt T H R d b c ro lot k two am x) (s : Same H H') : LdAt T H' R d b c ro lot k two am x := by
  obtain ⟨dx, hd⟩ := h.dk
  exact ⟨⟨dx, s _ _ hd⟩, Mv.bk (Mv.same s) hd h.bk, h.row.same s, same_seqT s h.lot, h.x⟩
/-- all but d stand, and d is led -/
theorem LdAt.back {T : TX P K mg} {H H' : Hp} {R : Rnd} {d b c ro lot : Addr} {k : Int} {two : Bool} {am : List Int} {x : Str} (h : LdAt T H R d b c ro lot k two am x) (m : Mv d H H') (dk : DkAt T H' d b ro) : LdAt T H' R d b c ro lot k two am x := by
  obtain ⟨dx, hd⟩ := id h.dk
  exact h.mv m dk (m.row hd h.row)
/-! ### cells out of and in the frozen -/
/-- no cell -/
def ncl (o : HO) : Prop := ∀ u v, o = .frz u (.own 0) → u.data ≠ .cell v
theorem soft_ncl {o : HO} (s : soft o) : ncl o := fun u v e => by
  rcases s with ⟨_, z⟩ | ⟨_, z⟩ | ⟨_, _, z⟩ | ⟨_, _, z⟩ | ⟨_, _, _, z⟩ <;> rw [e] at z <;> cases z
theorem CloAt.cells {H : Hp} {f : Addr} {params : Arguments} {body : Expr} {scope : Scope} {q : Str} {fr : List Str} {ws : List V} {cl : List (Str × Addr)} {c' P2 : Addr} (C : CloAt H f params body scope q fr ws cl c' P2) :
    ∀ c ∈ clocs cl fr, ∃ o v, o.data = .cell v ∧ H c = some (.frz o (.own 0)) := fun c hc => by
  obtain ⟨y, hy, e⟩ := mem_clocs.mp hc
  obtain ⟨i, hi⟩ := List.mem_iff_getElem?.mp hy
  obtain ⟨c1, o, u, v, h1, _, _, h4, h5⟩ := C.has i y hi
  rw [e] at h1
  cases h1
  exact ⟨o, _, h4, h5⟩
theorem thaw_kp {cs : List Addr} {H : Hp} (hc : ∀ c ∈ cs, ∃ o v, o.data = .cell v ∧ H c = some (.frz o (.own 0))) {z : Addr} {o : HO} (e : H z = some o) (n : ncl o) : thaw cs H z = some o := by
  rw [thaw_out fun m => ?_]
  · exact e
  · obtain ⟨o', v, h1, h2⟩ := hc z m
    rw [e] at h2
    exact n o' v (Option.some.inj h2) h1
theorem thaw_mv {cs : List Addr} {H : Hp} (hc : ∀ c ∈ cs, ∃ o v, o.data = .cell v ∧ H c = some (.frz o (.own 0))) (d : Addr) : Mv d H (thaw cs H) := fun z o _ e s => thaw_kp hc e (soft_ncl s)
theorem refr_same {cs : List Addr} {H H' : Hp} (hn : ∀ c ∈ cs, H' c = none) : Same H' (refr cs H H') := fun z o e => by
  rw [refr_out fun m => ?_]
  · exact e
  · rw [hn z m] at e
    cases e
/-- what a body kept, seen from outside -/
theorem refr_kp {cs : List Addr} {H H' : Hp} {S : Addr → Prop} (k : ∀ z o, ¬ S z → thaw cs H z = some o → H' z = some o) : ∀ z o, ¬ S z → H z = some o → refr cs H H' z = some o := fun z o hz e => by
  by_cases m : z ∈ cs
  · rw [refr_in m]
    exact e
  · rw [refr_out m]
    exact k z o hz (by rw [thaw_out m]; exact e)
theorem HeldF.up {k : Nat} {f : Addr} {sp : Sp} (h : HeldF P w K mg base CX0 k f sp) : HeldF P w K mg base (L2.CX P w) k f sp := fun A outer s H us vs Q E hr e0 r q => codeAny_mono (h A outer s H us vs Q E hr e0 r q) fun r s' z => by
  cases r with
  | error e => exact False.elim z
  | ok fl => cases fl <;> exact z
/-! ### the lambdas -/
def q1 : Str := "_law_trial_right.<locals>.<lambda>"
def q2 : Str := "_law_trial_right.<locals>.<lambda>.<locals>.<lambda>"
/-- lambda one: shown(led(one, lot, some)) == shown(live) -/
def spL1 (T : TX P K mg) (f : Addr) : Sp := fun vs H Q _ => ∃ (R : Rnd) (d b c ro lot so : Addr) (k : Int) (two : Bool) (am ms : List Int) (x : Str) (cl : List (Str × Addr)) (c' P' : Addr), vs = [.ref d] ∧
  CloAt H f (lamPar lam1) (lamBod lam1) (lamSco lam1) q1 ["live", "lot", "some"] [.ref d, .ref lot, .ref so] cl c' P' ∧ LdAt T H R d b c ro lot k two am x ∧ AmOk (am ++ ms) ∧ SqL K H so (ms.map V.int) ∧
  ∀ H' ro', DkAt T H' d b ro' → (∀ z o, z ≠ d → H z = some o → H' z = some o) → Q (.bl true) H'
theorem held1 (T : TX P K mg) (f : Addr) : HeldF P w K mg base CX0 9 f (spL1 T f) := by
  intro A outer s H us vs Q E hr e0 r h
  obtain ⟨R, d, b, c, ro, lot, so, k, two, am, ms, x, cl, c', P', rfl, C, L, hm, hso, q⟩ := h
  have hcs := C.cells
  obtain ⟨dx, hd⟩ := id L.dk
  have mv := thaw_mv hcs d
  have hdT := thaw_kp hcs hd (soft_ncl (.inr (.inr (.inr (.inr ⟨_, _, _, rfl⟩)))))
  have LT := L.back mv ⟨dx, hdT⟩
  refine clo_run nsc1 (fun _ _ _ _ us hl => match us, hl with | [_], _ => rfl) C hr e0 r rfl fun hnf hr8 => ?_
  refine ⟨_, pe_cmpR (op_eqD (hu64 hr8)) (pe_call (ok_shown T) (hr8.mono (by decide)) (by rfl) T.shown_g T.shown_F.kp T.shown_b .nil pass0 (pa_cons (pe_call (ok_led T) hr8 (by rfl) T.led_g T.led_F.kp T.led_b .nil pass0 (pa_cons (pv 0) (pa_cons (pv 2) (pa_cons (pv 3) pa_nil)))) pa_nil)) (pe_call (ok_shown T) (hr8.mono (by decide)) (by rfl) T.shown_g T.shown_F.kp T.shown_b .nil pass0 (pa_cons (pv 1) pa_nil)) (nomark _), ?_⟩
  refine ⟨_, rfl, _, rfl, _, rfl, R, d, b, c, ro, lot, so, k, two, am, ms, x, rfl, LT.dk, LT.bk, LT.row, hm, LT.lot, LT.x, mv.seqL hd hso, fun H2 r2 hd2 hrow2 k2 => ?_⟩
  refine ⟨d, b, r2, am ++ ms, rfl, hd2, hrow2, hm, fun H3 l3 s3 _ hl3 => ?_⟩
  obtain ⟨dx2, hd2'⟩ := id hd2
  refine ⟨_, rfl, d, b, r2, am ++ ms, rfl, ⟨dx2, s3 _ _ hd2'⟩, hrow2.same s3, hm, fun H4 l4 s4 _ hl4 => ?_⟩
  have h3 : ShAt K H3 l3 (am ++ ms) := ⟨r2, SqL.of hl3, hrow2.same s3⟩
  have h4 : ShAt K H4 l4 (am ++ ms) := ⟨r2, SqL.of hl4, (hrow2.same s3).same s4⟩
  have er : PyData.eqv (shD (am ++ ms)) (shD (am ++ ms)) = true := (shD_ok _).refl
  refine ⟨shD (am ++ ms), shD (am ++ ms), (h3.same s4).dp, h4.dp, (shD_ok _).shaped (by decide), (shD_ok _).shaped (by decide), fun hn => ?_⟩
  rw [er]
  refine q _ r2 ⟨dx2, refr_same hn _ _ (s4 _ _ (s3 _ _ hd2'))⟩ (refr_kp (S := fun z => z = d) fun z o hz e => s4 z o (s3 z o (k2 z o hz e)))
/-- lambda two: shown(led(two, lot, more)), within a lambda -/
def spL2a (T : TX P K mg) (f : Addr) : Sp := fun vs H Q _ => ∃ (R : Rnd) (d b c ro lot so : Addr) (k : Int) (two : Bool) (am ms : List Int) (x : Str) (cl : List (Str × Addr)) (c' P' : Addr), vs = [.ref d] ∧
  CloAt H f (lamPar lam2a) (lamBod lam2a) (lamSco lam2a) q2 ["lot", "more"] [.ref lot, .ref so] cl c' P' ∧ LdAt T H R d b c ro lot k two am x ∧ AmOk (am ++ ms) ∧ SqL K H so (ms.map V.int) ∧
  ∀ H' ro' l, DkAt T H' d b ro' → (∀ z o, z ≠ d → H z = some o → H' z = some o) → ShAt K H' l (am ++ ms) → Q (.ref l) H'
theorem held2a (T : TX P K mg) (f : Addr) : HeldF P w K mg base CX0 9 f (spL2a T f) := by
  intro A outer s H us vs Q E hr e0 r h
  obtain ⟨R, d, b, c, ro, lot, so, k, two, am, ms, x, cl, c', P', rfl, C, L, hm, hso, q⟩ := h
  have hcs := C.cells
  obtain ⟨dx, hd⟩ := id L.dk
  have mv := thaw_mv hcs d
  have hdT := thaw_kp hcs hd (soft_ncl (.inr (.inr (.inr (.inr ⟨_, _, _, rfl⟩)))))
  have LT := L.back mv ⟨dx, hdT⟩
  refine clo_run nsc2a (fun _ _ _ _ us hl => match us, hl with | [_], _ => rfl) C hr e0 r rfl fun hnf hr8 => ?_
  refine ⟨_, (pe_call (ok_shown T) (hr8.mono (by decide)) (by rfl) T.shown_g T.shown_F.kp T.shown_b .nil pass0 (pa_cons (pe_call (ok_led T) hr8 (by rfl) T.led_g T.led_F.kp T.led_b .nil pass0 (pa_cons (pv 0) (pa_cons (pv 1) (pa_cons (pv 2) pa_nil)))) pa_nil)), ?_⟩
  refine ⟨_, rfl, _, rfl, _, rfl, R, d, b, c, ro, lot, so, k, two, am, ms, x, rfl, LT.dk, LT.bk, LT.row, hm, LT.lot, LT.x, mv.seqL hd hso, fun H2 r2 hd2 hrow2 k2 => ?_⟩
  refine ⟨d, b, r2, am ++ ms, rfl, hd2, hrow2, hm, fun H3 l3 s3 _ hl3 hn => ?_⟩
  obtain ⟨dx2, hd2'⟩ := id hd2
  have h3 : ShAt K H3 l3 (am ++ ms) := ⟨r2, SqL.of hl3, hrow2.same s3⟩
  have sR := refr_same (H := H) hn
  exact q _ r2 l3 ⟨dx2, sR _ _ (s3 _ _ hd2')⟩ (refr_kp (S := fun z => z = d) fun z o hz e => s3 z o (k2 z o hz e)) (h3.same sR)
/-- lambda far: [shown(led(far, lot, some)), shown(led(far, lot, more))] -/
def spL4 (T : TX P K mg) (f : Addr) : Sp := fun vs H Q _ => ∃ (R : Rnd) (d b c ro lot so mo : Addr) (k : Int) (two : Bool) (am ms ns : List Int) (x : Str) (cl : List (Str × Addr)) (c' P' : Addr), vs = [.ref d] ∧
  CloAt H f (lamPar lam4) (lamBod lam4) (lamSco lam4) q1 ["lot", "some", "more"] [.ref lot, .ref so, .ref mo] cl c' P' ∧ LdAt T H R d b c ro lot k two am x ∧ AmOk ((am ++ ms) ++ ns) ∧ SqL K H so (ms.map V.int) ∧ SqL K H mo (ns.map V.int) ∧
  ∀ H' ro' l l1 l2, DkAt T H' d b ro' → (∀ z o, z ≠ d → H z = some o → H' z = some o) → H' l = some (.lst [.ref l1, .ref l2]) → ShAt K H' l1 (am ++ ms) → ShAt K H' l2 ((am ++ ms) ++ ns) → Q (.ref l) H'
theorem held4 (T : TX P K mg) (f : Addr) : HeldF P w K mg base CX0 9 f (spL4 T f) := by
  intro A outer s H us vs Q E hr e0 r h
  obtain ⟨R, d, b, c, ro, lot, so, mo, k, two, am, ms, ns, x, cl, c', P', rfl, C, L, hm, hso, hmo, q⟩ := h
  have hcs := C.cells
  obtain ⟨dx, hd⟩ := id L.dk
  have mv := thaw_mv hcs d
  have hdT := thaw_kp hcs hd (soft_ncl (.inr (.inr (.inr (.inr ⟨_, _, _, rfl⟩)))))
  have LT := L.back mv ⟨dx, hdT⟩
  refine clo_run nsc4 (fun _ _ _ _ us hl => match us, hl with | [_], _ => rfl) C hr e0 r rfl fun hnf hr8 => ?_
  refine ⟨_, pe_lst (pa_cons (pe_call (ok_shown T) (hr8.mono (by decide)) (by rfl) T.shown_g T.shown_F.kp T.shown_b .nil pass0 (pa_cons (pe_call (ok_led T) hr8 (by rfl) T.led_g T.led_F.kp T.led_b .nil pass0 (pa_cons (pv 0) (pa_cons (pv 1) (pa_cons (pv 2) pa_nil)))) pa_nil)) (pa_cons (pe_call (ok_shown T) (hr8.mono (by decide)) (by rfl) T.shown_g T.shown_F.kp T.shown_b .nil pass0 (pa_cons (pe_call (ok_led T) hr8 (by rfl) T.led_g T.led_F.kp T.led_b .nil pass0 (pa_cons (pv 0) (pa_cons (pv 1) (pa_cons (pv 3) pa_nil)))) pa_nil)) pa_nil)), ?_⟩
  refine ⟨_, rfl, _, rfl, _, rfl, R, d, b, c, ro, lot, so, k, two, am, ms, x, rfl, LT.dk, LT.bk, LT.row, hm.pre, LT.lot, LT.x, mv.seqL hd hso, fun H2 r2 hd2 hrow2 k2 => ?_⟩
  refine ⟨d, b, r2, am ++ ms, rfl, hd2, hrow2, hm.pre, fun H3 l3 s3 _ hl3 => ?_⟩
  obtain ⟨dx2, hd2'⟩ := id hd2
  have h3 : ShAt K H3 l3 (am ++ ms) := ⟨r2, SqL.of hl3, hrow2.same s3⟩
  have k3 : ∀ z o, z ≠ d → thaw (clocs cl ["lot", "some", "more"]) H z = some o → H3 z = some o := fun z o hz e => s3 z o (k2 z o hz e)
  have L3 := LT.mv (Mv.of k3) ⟨dx2, s3 _ _ hd2'⟩ (hrow2.same s3)
  refine ⟨_, rfl, _, rfl, _, rfl, R, d, b, c, r2, lot, mo, k, two, am ++ ms, ns, x, rfl, L3.dk, L3.bk, L3.row, hm, L3.lot, L3.x, (Mv.of k3).seqL hdT (mv.seqL hd hmo), fun H4 r4 hd4 hrow4 k4 => ?_⟩
  refine ⟨d, b, r4, (am ++ ms) ++ ns, rfl, hd4, hrow4, hm, fun H5 l5 s5 _ hl5 => ⟨(by show 2 ≤ sizeLine; decide), fun l hl => fun hn => ?_⟩⟩
  obtain ⟨dx4, hd4'⟩ := id hd4
  have h5 : ShAt K H5 l5 ((am ++ ms) ++ ns) := ⟨r4, SqL.of hl5, hrow4.same s5⟩
  have h35 : ShAt K H5 l3 (am ++ ms) := (Mv.of (d := d) fun z o hz e => s5 z o (k4 z o hz e)).sh (s3 _ _ hd2') h3
  have sR := refr_same (H := H) hn
  have s6 : Same H5 (upd H5 l (.lst [.ref l3, .ref l5])) := same_upd (Same.refl _) hl
  exact q _ r4 l l3 l5 ⟨dx4, sR _ _ (s6 _ _ (s5 _ _ hd4'))⟩ (refr_kp (S := fun z => z = d) fun z o hz e => s6 z o (s5 z o (k4 z o hz (k3 z o hz e)))) (sR _ _ upd_same) ((h35.same s6).same sR) ((h5.same s6).same sR)
/-- lambda near: [near.undo(size), len(near)] -/
def spL5 (T : TX P K mg) (f : Addr) : Sp := fun vs H Q _ => ∃ (d b ro : Addr) (am : List Int) (n : Nat) (cl : List (Str × Addr)) (c' P' : Addr), vs = [.ref d] ∧
  CloAt H f (lamPar lam5) (lamBod lam5) (lamSco lam5) q1 ["size"] [.int (n : Nat)] cl c' P' ∧ DkAt T H d b ro ∧ RowAt K H ro am ∧ AmOk am ∧ n = am.length ∧ 1 ≤ n ∧
  ∀ H' ro' l, DkAt T H' d b ro' → (∀ z o, z ≠ d → H z = some o → H' z = some o) → H' l = some (.lst [.non, .int 0]) → Q (.ref l) H'
theorem held5 (T : TX P K mg) (f : Addr) : HeldF P w K mg base CX0 9 f (spL5 T f) := by
  intro A outer s H us vs Q E hr e0 r h
  obtain ⟨d, b, ro, am, n, cl, c', P', rfl, C, ⟨dx, hd⟩, hrow, hm, hn, h1, q⟩ := h
  have hcs := C.cells
  have mv := thaw_mv hcs d
  have hdT := thaw_kp hcs hd (soft_ncl (.inr (.inr (.inr (.inr ⟨_, _, _, rfl⟩)))))
  refine clo_run nsc5 (fun _ _ _ _ us hl => match us, hl with | [_], _ => rfl) C hr e0 r rfl fun hnf hr8 => ?_
  obtain ⟨ds, hds, hbd⟩ := T.deskUndo_b1
  refine ⟨_, pe_lst (pa_cons (pe_meth (pv 0) T.desk_c T.deskUndo_m (ok_deskUndo T) (hr8.mono (by decide)) hbd hds pass0 (pa_cons (pv 1) pa_nil)) (pa_cons (pe_callB (call_lenI T.desk_len T.desk_lf (FnOk.raw (ok_deskLen T) T.deskLen_b .nil) (hr8.mono (by decide)) pass0) (by rfl) T.z_len PySem.boot_len (pa_cons (pv 0) pa_nil)) pa_nil)), ?_⟩
  refine ⟨_, rfl, d, dx, _, rfl, hdT, df_no _ _ (by decide +kernel) (by decide +kernel), _, rfl, d, b, ro, am, n, rfl, ⟨dx, hdT⟩, mv.row hd hrow, h1, Nat.le_of_eq hn, fun H2 r2 hd2 hrow2 k2 => ?_⟩
  rw [hn, Nat.sub_self, List.take_zero] at hrow2
  obtain ⟨dx2, hd2'⟩ := id hd2
  refine ⟨_, rfl, d, dx2, _, rfl, hd2', d, b, r2, [], rfl, hd2, hrow2, 0, rfl, (by decide), (by decide), (by show 2 ≤ sizeLine; decide), fun l hl => fun hnn => ?_⟩
  have sR := refr_same (H := H) hnn
  have s6 : Same H2 (upd H2 l (.lst [.non, .int 0])) := same_upd (Same.refl _) hl
  exact q _ r2 l ⟨dx2, sR _ _ (s6 _ _ hd2')⟩ (refr_kp (S := fun z => z = d) fun z o hz e => s6 z o (k2 z o hz e)) (sR _ _ upd_same)
end
end Wm
/-! T20 -/
namespace Wm
open PySem PySem.Spec PyProof.Rows L2 LamX NdefX
/-- all but cells stand -/
def Ncm (H H' : Hp) : Prop := ∀ z o, H z = some o → ncl o → H' z = some o
theorem Ncm.code {H H' : Hp} (m : Ncm H H') {c P : Addr} {q : Str} (h : CodeT H c q P) : CodeT H' c q P := by
  obtain ⟨oc, e, ok, n⟩ := h
  refine ⟨oc, m _ _ e fun u v z => ?_, ok, n⟩
  cases z
  obtain ⟨vs, _, _, _, _, _, _, _, _, _, hd, _⟩ := ok
  rw [hd]
  intro y
  cases y
theorem Ncm.tab0 {H H' : Hp} (m : Ncm H H') {P : Addr} {q : Str} (h : Tab0 H P q) : Tab0 H' P q := by
  obtain ⟨ps, e, _⟩ := id h
  refine TabR.ext h ?_ fun c ⟨P2, a, b⟩ => ⟨P2, m.code a, b⟩
  rw [e]
  exact m _ _ e fun u v z => by cases z
theorem Ncm.tab1 {H H' : Hp} (m : Ncm H H') {P : Addr} {q q' : Str} (h : Tab1 H P q q') : Tab1 H' P q q' := by
  obtain ⟨ps, e, _⟩ := id h
  refine TabR.ext h ?_ fun c ⟨P2, a, b, t⟩ => ⟨P2, m.code a, b, m.tab0 t⟩
  rw [e]
  exact m _ _ e fun u v z => by cases z
theorem Ncm.lam {H H' : Hp} (m : Ncm H H') {f : Addr} {params : Arguments} {body : Expr} {scope : Scope} {q : Str} {cl : List (Str × Addr)} {c' P2 : Addr} (x : LamAt H f params body scope q cl c' P2) : LamAt H' f params body scope q cl c' P2 := by
  obtain ⟨⟨pm, ctv, h⟩, c⟩ := x
  exact ⟨⟨pm, ctv, m _ _ h fun u v z => by cases z; intro y; cases y⟩, m.code c⟩
theorem Ncm.same {H H' : Hp} (s : Same H H') : Ncm H H' := fun z o e _ => s z o e
theorem Ncm.trans {H H1 H2 : Hp} (a : Ncm H H1) (b : Ncm H1 H2) : Ncm H H2 := fun z o e n => b z o (a z o e n) n
/-- what stands but for a desk: codes and lambdas stand -/
theorem code_but {H H' : Hp} {d C dx : Addr} {fs : List (Str × V)} (hd : H d = some (.ins C dx fs)) (k : ∀ z o, z ≠ d → H z = some o → (∀ ps, o ≠ .tbl ps) → H' z = some o) {c P : Addr} {q : Str} (h : CodeT H c q P) : CodeT H' c q P := by
  obtain ⟨oc, e, ok, n⟩ := h
  exact ⟨oc, k _ _ (ne_of e hd (by intro z; cases z)) e (fun ps z => by cases z), ok, n⟩
theorem tab0_but {H H' : Hp} {d C dx : Addr} {fs : List (Str × V)} (hd : H d = some (.ins C dx fs)) (k : ∀ z o, z ≠ d → H z = some o → H' z = some o) {P : Addr} {q : Str} (h : Tab0 H P q) : Tab0 H' P q := by
  obtain ⟨ps, e, _⟩ := id h
  refine TabR.ext h ?_ fun c ⟨P2, a, b⟩ => ⟨P2, code_but hd (fun z o n e _ => k z o n e) a, b⟩
  rw [e]
  exact k _ _ (ne_of e hd (by intro z; cases z)) e
theorem lam_but {H H' : Hp} {d C dx : Addr} {fs : List (Str × V)} (hd : H d = some (.ins C dx fs)) (k : ∀ z o, z ≠ d → H z = some o → (∀ ps, o ≠ .tbl ps) → H' z = some o) {f : Addr} {params : Arguments} {body : Expr} {scope : Scope} {q : Str} {cl : List (Str × Addr)} {c' P2 : Addr}
    (x : LamAt H f params body scope q cl c' P2) : LamAt H' f params body scope q cl c' P2 := by
  obtain ⟨⟨pm, ctv, h⟩, c⟩ := x
  exact ⟨⟨pm, ctv, k _ _ (ne_of h hd (by intro z; cases z)) h (fun ps z => by cases z)⟩, code_but hd k c⟩
theorem thaw_ncm {cs : List Addr} {H : Hp} (hc : ∀ c ∈ cs, ∃ o v, o.data = .cell v ∧ H c = some (.frz o (.own 0))) : Ncm H (thaw cs H) := fun _ _ e n => thaw_kp hc e n
theorem Fz.out {cells : List (Str × Addr)} {N : List Str} {σ : L2.St} {fr : List Str} {cs : List Addr} {H1 H2 : Hp} (z : Fz cells N σ fr cs H1 H2) {b : Addr} {o : HO} (e : H1 b = some o) : b ∉ cs := fun m => by
  rw [z.2.1 b m] at e
  cases e
section
variable {P : Program} {w : World} {K : PySem.W.Frag} {mg : Str → Option Value} {base : Heap} {P0 : Addr}
/-- lambda one: tried(one, lambda two: ..) -/
def spL2 (T : TX P K mg) (f : Addr) : Sp := fun vs H Q _ => ∃ (R : Rnd) (d b c ro lot mo : Addr) (k : Int) (two : Bool) (am ns : List Int) (x : Str) (cl : List (Str × Addr)) (c' P' : Addr), vs = [.ref d] ∧
  CloAt H f (lamPar lam2) (lamBod lam2) (lamSco lam2) q1 ["lot", "more"] [.ref lot, .ref mo] cl c' P' ∧ Tab0 H P' q2 ∧ LdAt T H R d b c ro lot k two am x ∧ AmOk (am ++ ns) ∧ SqL K H mo (ns.map V.int) ∧
  ∀ H' l, DkAt T H' d b ro → (∀ z o, z ≠ d → z ≠ P' → H z = some o → H' z = some o) → Tab0 H' P' q2 → ShAt K H' l (am ++ ns) → Q (.ref l) H'
theorem held2 (T : TX P K mg) (BM : base.BuiltinsAt mg P0) (f : Addr) : HeldF P w K mg base CX0 14 f (spL2 T f) := by
  intro A outer s H us vs Q E hr e0 r h
  obtain ⟨R, d, b, c, ro, lot, mo, k, two, am, ns, x, cl, c', P', rfl, C, tb, L, hm, hmo, q⟩ := h
  have hcs := C.cells
  obtain ⟨dx, hd⟩ := id L.dk
  have mv := thaw_mv hcs d
  have hdT := thaw_kp hcs hd (soft_ncl (.inr (.inr (.inr (.inr ⟨_, _, _, rfl⟩)))))
  have LT := L.back mv ⟨dx, hdT⟩
  have nm := thaw_ncm hcs
  refine clo_run nsc2 (fun _ _ _ _ us hl => match us, hl with | [_], _ => rfl) C hr e0 r rfl fun hnf hr8 => ?_
  refine ⟨_, pe_callZ (fr := ["lot", "more"]) (ok_tried (w := w) (base := base) T (fun f => (held2a T f).up)) hr8 rfl T.tried_g T.tried_F.kp T.tried_b .nil no_cx (fun y hy => .inr (nsc2.frk y hy)) (fun _ => hnf)
    (pa_cons (pv 0) (pa_cons (pe_lam0 (c := c') (P := P') (q := q2) (params := lamPar lam2a) (body := lamBod lam2a) (scope := lamSco lam2a) BM rfl (by rfl) rfl (fun y hy e => .inr (nsc2.frk y.1 (nsc2a.free y hy e)))) pa_nil)), ?_⟩
  refine ⟨_, rfl, ⟨q1, nm.code C.lam.2⟩, nm.tab0 tb, fun f2 c2 P2 H1 LA tb1 kp gn f0 cs H2 fz => ?_⟩
  obtain ⟨ps', hP', _⟩ := id (nm.tab0 tb)
  have nP : P' ≠ d := fun e => by
    rw [e, hdT] at hP'
    cases hP'
  have hd1 : H1 d = some (.ins T.desk_C dx (df b ro)) := kp _ _ hdT nP.symm
  have m1 : Mv d (thaw (clocs cl ["lot", "more"]) H) H1 := fun z o _ e sf => kp z o e fun ez => by
    rw [ez, hP'] at e
    cases e
    rcases sf with ⟨_, z⟩ | ⟨_, z⟩ | ⟨_, _, z⟩ | ⟨_, _, z⟩ | ⟨_, _, _, z⟩ <;> cases z
  have e12 : Same H1 H2 := fun z o e => fz.ext e
  have CA : CloAt H2 f2 (lamPar lam2a) (lamBod lam2a) (lamSco lam2a) q2 ["lot", "more"] [.ref lot, .ref mo] (cloFrom cl (lamSco lam2a).names []) c2 P2 :=
    clo_of fz LA (fun y hy => ⟨hy, PySem.mem_of_lookup (nsc2a.frk y hy)⟩) nsc2a.free rfl fun i y hi => by
      match i, hi with
      | 0, hi => cases hi; exact ⟨1, .ref lot, rfl, rfl, rfl⟩
      | 1, hi => cases hi; exact ⟨2, .ref mo, rfl, rfl, rfl⟩
  have L2 := (LT.back m1 ⟨dx, hd1⟩).same e12
  have hmo2 : SqL K H2 mo (ns.map V.int) := e12.seq (m1.seqL hdT (mv.seqL hd hmo))
  refine ⟨d, b, ro, f2, rfl, L2.dk, CA.lam.fn, fun H3 t s3 nt ⟨tx, ht⟩ QF EF hQ hE => ?_⟩
  refine ⟨R, d, b, c, ro, lot, mo, k, two, am, ns, x, _, c2, P2, rfl, CA.ext (fun z o e _ => s3 z o e), L2.same s3, hm, s3.seq hmo2, fun H4 r4 l hd4 k4 hsh => ?_⟩
  have hd2 : H2 d = some (.ins T.desk_C dx (df b ro)) := e12 _ _ hd1
  have ntd : t ≠ d := fun e => by
    rw [e, hd2] at nt
    cases nt
  refine hQ (.ref l) H4 r4 hd4 ⟨tx, k4 _ _ ntd ht⟩ fun H5 hd5 k5 hfz hn => ?_
  obtain ⟨dx4, hd4'⟩ := id hd4
  obtain ⟨dx5, hd5'⟩ := id hd5
  have k15 : ∀ z o, z ≠ d → H1 z = some o → thaw cs H5 z = some o := fun z o hz e => fz.back e (k5 z o hz (k4 z o hz (s3 z o (e12 z o e))))
  have hd6 : thaw cs H5 d = some (.ins T.desk_C dx5 (df b ro)) := by
    rw [thaw_out (fz.out hd1)]
    exact hd5'
  have sR := refr_same (H := H) hn
  refine q _ l ⟨dx5, sR _ _ hd6⟩ (fun z o hz hz2 e => refr_kp (S := fun z => z = d ∨ z = P') (fun z o hz e => k15 z o (fun y => hz (.inl y)) (kp z o e fun y => hz (.inr y))) z o (fun y => y.elim hz hz2) e) ?_ ?_
  · exact (Ncm.same sR).tab0 (tab0_but hd1 k15 tb1)
  · exact (((Mv.of (d := d) k5).sh hd4' hsh |> (thaw_mv hfz d).sh hd5').same sR)
/-- lambda same: [shown(led(same, lot, some)), _law_inner_by(same), shown(same)] -/
def spL3 (T : TX P K mg) (f : Addr) : Sp := fun vs H Q _ => ∃ (R : Rnd) (d b c ro lot so mo : Addr) (k : Int) (two : Bool) (am ms ns : List Int) (x : Str) (cells : List (Str × Addr)) (f2 c' P' c2 P2 : Addr), vs = [.ref d] ∧
  CloAt H f (lamPar lam3) (lamBod lam3) (lamSco lam3) q1 ["lot", "some", "_law_inner_by"] [.ref lot, .ref so, .ref f2] (cloFrom cells (lamSco lam3).names []) c' P' ∧
  CloAt H f2 (lamPar lam2) (lamBod lam2) (lamSco lam2) q1 ["lot", "more"] [.ref lot, .ref mo] (cloFrom cells (lamSco lam2).names []) c2 P2 ∧
  (∀ x y c, cells.lookup x = some c → cells.lookup y = some c → x = y) ∧ (∀ y ∈ (lamSco lam3).names, y.2 = .free → ∃ c, cells.lookup y.1 = some c) ∧ (∀ y ∈ (lamSco lam2).names, y.2 = .free → ∃ c, cells.lookup y.1 = some c) ∧
  Tab0 H P2 q2 ∧ LdAt T H R d b c ro lot k two am x ∧ AmOk ((am ++ ms) ++ ns) ∧ SqL K H so (ms.map V.int) ∧ SqL K H mo (ns.map V.int) ∧
  ∀ H' r' l l1 l2 l3, DkAt T H' d b r' → (∀ z o, z ≠ d → z ≠ P2 → H z = some o → H' z = some o) → Tab0 H' P2 q2 → H' l = some (.lst [.ref l1, .ref l2, .ref l3]) → ShAt K H' l1 (am ++ ms) → ShAt K H' l2 ((am ++ ms) ++ ns) → ShAt K H' l3 (am ++ ms) → Q (.ref l) H'
theorem held3 (T : TX P K mg) (BM : base.BuiltinsAt mg P0) (f : Addr) : HeldF P w K mg base CX0 15 f (spL3 T f) := by
  intro A outer s H us vs Q E hr e0 r h
  obtain ⟨R, d, b, c, ro, lot, so, mo, k, two, am, ms, ns, x, cells, f2, c', P', c2, P2, rfl, C, C2, hinj, hf3, hf2, tb, L, hm, hso, hmo, q⟩ := h
  have hcs := C.cells
  obtain ⟨dx, hd⟩ := id L.dk
  have mv := thaw_mv hcs d
  have hdT := thaw_kp hcs hd (soft_ncl (.inr (.inr (.inr (.inr ⟨_, _, _, rfl⟩)))))
  have LT := L.back mv ⟨dx, hdT⟩
  have nm := thaw_ncm hcs
  refine clo_run nsc3 (fun _ _ _ _ us hl => match us, hl with | [_], _ => rfl) C hr e0 r rfl fun hnf hr8 => ?_
  refine ⟨_, pe_lst (pa_cons (pe_call (ok_shown T) (hr8.mono (by decide)) (by rfl) T.shown_g T.shown_F.kp T.shown_b .nil pass0 (pa_cons (pe_call (ok_led T) (hr8.mono (by decide)) (by rfl) T.led_g T.led_F.kp T.led_b .nil pass0 (pa_cons (pv 0) (pa_cons (pv 1) (pa_cons (pv 2) pa_nil)))) pa_nil)) (pa_cons (pe_callFZ (fr := ["lot"]) (i := 3) (CXT := CX0) (SF := fun f => spL2 T f) (fun f => held2 T BM f) hr8 (fun _ _ _ _ h => h) rfl (Or.inr (Or.inr rfl)) (fun y hy => .inr (nsc3.frk y (by rw [List.mem_singleton.mp hy]; exact List.mem_cons_self))) (fun _ => hnf) (pa_cons (pv 0) pa_nil)) (pa_cons (pe_call (ok_shown T) (hr8.mono (by decide)) (by rfl) T.shown_g T.shown_F.kp T.shown_b .nil pass0 (pa_cons (pv 0) pa_nil)) pa_nil))), ?_⟩
  refine ⟨_, rfl, _, rfl, _, rfl, R, d, b, c, ro, lot, so, k, two, am, ms, x, rfl, LT.dk, LT.bk, LT.row, hm.pre, LT.lot, LT.x, mv.seqL hd hso, fun H2 r2 hd2 hrow2 k2 => ?_⟩
  refine ⟨d, b, r2, am ++ ms, rfl, hd2, hrow2, hm.pre, fun H3 l3 s3 _ hl3 => ?_⟩
  obtain ⟨dx2, hd2'⟩ := id hd2
  have hd3 := s3 _ _ hd2'
  have k3 : ∀ z o, z ≠ d → thaw (clocs (cloFrom cells (lamSco lam3).names []) ["lot", "some", "_law_inner_by"]) H z = some o → H3 z = some o := fun z o hz e => s3 z o (k2 z o hz e)
  have h3 : ShAt K H3 l3 (am ++ ms) := ⟨r2, SqL.of hl3, hrow2.same s3⟩
  have L3 := LT.mv (Mv.of k3) ⟨dx2, hd3⟩ (hrow2.same s3)
  have LA3 := lam_but hdT (fun z o hz e _ => k3 z o hz e) (nm.lam C2.lam)
  have tb3 := tab0_but hdT k3 (nm.tab0 tb)
  obtain ⟨ps3, hP3, _⟩ := id tb3
  refine ⟨f2, rfl, LA3.fn, _, rfl, LA3.fn, fun cs H4 fz => ?_⟩
  have e34 : Same H3 H4 := fun z o e => fz.ext e
  have cin : ∀ y, (y, NameKind.free) ∈ (lamSco lam3).names → ∀ c0, cells.lookup y = some c0 → (cloFrom cells (lamSco lam3).names []).lookup y = some c0 := fun y hy c0 e => clo_has hf3 hy e
  have C4 : CloAt H4 f2 (lamPar lam2) (lamBod lam2) (lamSco lam2) q1 ["lot", "more"] [.ref lot, .ref mo] (cloFrom cells (lamSco lam2).names []) c2 P2 := by
    refine ⟨(Ncm.same e34).lam LA3, C2.inj, C2.len, fun i y hi => ?_, C2.dom⟩
    match i, hi with
    | 0, hi =>
      cases hi
      obtain ⟨c0, o0, u0, v0, g1, g2, _, _, _⟩ := C2.has 0 "lot" rfl
      have e1 := clo_cm hf2 g1
      have e2 := cin "lot" (PySem.mem_of_lookup (nsc3.frk "lot" List.mem_cons_self)) c0 e1
      obtain ⟨c9, e9, _, g9⟩ := fz.1 "lot" List.mem_cons_self
      obtain rfl : c0 = c9 := Option.some.inj (e2.symm.trans e9)
      obtain ⟨o, u, r9, hd9, hh⟩ := g9 1 (.ref lot) rfl rfl
      exact ⟨c0, o, u, .ref lot, g1, rfl, r9, hd9, hh⟩
    | 1, hi =>
      cases hi
      obtain ⟨c0, o0, u0, v0, g1, g2, g3, g4, g5⟩ := C2.has 1 "more" rfl
      have e1 := clo_cm hf2 g1
      have nin : c0 ∉ clocs (cloFrom cells (lamSco lam3).names []) ["lot", "some", "_law_inner_by"] := fun hm0 => by
        obtain ⟨y, hy, e⟩ := mem_clocs.mp hm0
        have e3 := clo_cm hf3 e
        have := hinj _ _ _ e3 e1
        subst this
        revert hy
        decide
      refine ⟨c0, o0, u0, v0, g1, g2, g3, g4, e34 _ _ (k3 _ _ (ne_of g5 hd (by intro z; cases z)) ?_)⟩
      rw [thaw_out nin]
      exact g5
  have L4 := L3.same e34
  refine ⟨R, d, b, c, r2, lot, mo, k, two, am ++ ms, ns, x, _, c2, P2, rfl, C4, (Ncm.same e34).tab0 tb3, L4, hm, e34.seq ((Mv.of k3).seqL hdT (mv.seqL hd hmo)), fun H5 l5 hd5 k5 tb5 hsh5 hfz => ?_⟩
  obtain ⟨dx5, hd5'⟩ := id hd5
  have k36 : ∀ z o, z ≠ d → z ≠ P2 → H3 z = some o → thaw cs H5 z = some o := fun z o hz hz2 e => fz.back e (k5 z o hz hz2 (e34 z o e))
  have m36 : Mv d H3 (thaw cs H5) := fun z o hz e sf => k36 z o hz (fun ez => by
    rw [ez, hP3] at e
    cases e
    rcases sf with ⟨_, z⟩ | ⟨_, z⟩ | ⟨_, _, z⟩ | ⟨_, _, z⟩ | ⟨_, _, _, z⟩ <;> cases z) e
  have n56 := thaw_ncm hfz
  have hd6 := n56 _ _ hd5' (soft_ncl (.inr (.inr (.inr (.inr ⟨_, _, _, rfl⟩)))))
  have h36 := m36.sh hd3 h3
  have h56 : ShAt K (thaw cs H5) l5 ((am ++ ms) ++ ns) := (thaw_mv hfz d).sh hd5' hsh5
  have hrow6 : RowAt K (thaw cs H5) r2 (am ++ ms) := m36.row hd3 (hrow2.same s3)
  refine ⟨_, rfl, d, b, r2, am ++ ms, rfl, ⟨dx5, hd6⟩, hrow6, hm.pre, fun H7 l7 s7 _ hl7 => ⟨(by show 3 ≤ sizeLine; decide), fun l hl => fun hn => ?_⟩⟩
  have h7 : ShAt K H7 l7 (am ++ ms) := ⟨r2, SqL.of hl7, hrow6.same s7⟩
  have s8 : Same H7 (upd H7 l (.lst [.ref l3, .ref l5, .ref l7])) := same_upd (Same.refl _) hl
  have sR := refr_same (H := H) hn
  refine q _ r2 l l3 l5 l7 ⟨dx5, sR _ _ (s8 _ _ (s7 _ _ hd6))⟩ (fun z o hz hz2 e => refr_kp (S := fun z => z = d ∨ z = P2) (fun z o hz e => s8 z o (s7 z o (k36 z o (fun y => hz (.inl y)) (fun y => hz (.inr y)) (k3 z o (fun y => hz (.inl y)) e)))) z o (fun y => y.elim hz hz2) e) ?_ (sR _ _ upd_same) ?_ ?_ ?_
  · exact (Ncm.same sR).tab0 ((Ncm.same s8).tab0 ((Ncm.same s7).tab0 (n56.tab0 tb5)))
  · exact ((h36.same s7).same s8).same sR
  · exact ((h56.same s7).same s8).same sR
  · exact (h7.same s8).same sR
end
end Wm
/-! T21 -/
namespace Wm
open PySem PySem.Spec PyProof.Rows L2 LamX NdefX
theorem HeldF.mono {P : Program} {w : World} {K : PySem.W.Frag} {mg : Str → Option Value} {base : Heap} {CX : CXT} {j k : Nat} {f : Addr} {sp : Sp} (h : HeldF P w K mg base CX j f sp) (e : j ≤ k) : HeldF P w K mg base CX k f sp := fun A outer s H us vs Q E hr => h A outer s H us vs Q E (hr.mono e)
/-- a def, its code object told -/
structure FunC (K : PySem.W.Frag) (x qual : Str) (st : Stmt) (f : Addr) (fd : FuncData) (c : Addr) : Prop where
  ex : ∃ (oc : Value) (od : Option Addr) (kV doc pm : Value) (an : Option Addr) (ct : Value) (osl : Array (Option Value)),
    fd = PySem.W.fnOf x qual (defArgs st) (defBody st) (defScope st) .none kV doc pm an (.ref c) ct ∧ K.lookup f = some ⟨oc, od, .func fd, osl⟩ ∧ PySem.W.codeIn K (.ref c) qual = true
section
variable {P : Program} {w : World} {K : PySem.W.Frag} {mg : Str → Option Value} {base : Heap}
theorem FunC.ok {x qual : Str} {st : Stmt} {f : Addr} {fd : FuncData} {c : Addr} {N ps : List Str} {k : Nat} {sp : Sp} (F : FunC K x qual st f fd c) (S : FnScope N ps (defScope st)) (len : ∀ vs H Q E, sp vs H Q E → vs.length = ps.length)
    (hbody : ∀ (A : Around) (outer : List Env) (s : Shared) (H : Hp) (vs : List V) (Q : VK) (E : XK), Room k (A.deeper (envOfC qual (defScope st) s.heap.objs.size f (.ref c))) → sp vs H Q E →
      ∃ t, PSs (cxOf CX0 P w K mg base N qual (defScope st) f (.ref c) A outer s H E).nox (defBody st) t ∧ t { nx := fun _ H' => Q .non H', rt := Q } (start N vs) H) : FnOk P w K mg base CX0 (k + 1) f fd ps sp := by
  obtain ⟨oc, od, kV, doc, pm, an, ct, osl, rfl, lk, hcd⟩ := F.ex
  refine fn_of lk hcd S len fun A outer s H vs Q E hr hsp => ?_
  obtain ⟨t, h, q⟩ := hbody A outer s H vs Q E hr hsp
  exact ⟨t, h.nox, q⟩
/-! ### behind a call of tried -/
def FN (d : Addr) (H H' : Hp) : Prop := ∀ z o, z ≠ d → (∀ ps, o ≠ .tbl ps) → H z = some o → H' z = some o
theorem FN.trans {d : Addr} {H H1 H2 : Hp} (a : FN d H H1) (b : FN d H1 H2) : FN d H H2 := fun z o n t e => b z o n t (a z o n t e)
theorem FN.same {d : Addr} {H H' : Hp} (s : Same H H') : FN d H H' := fun z o _ _ e => s z o e
theorem FN.of {d : Addr} {H H' : Hp} (s : ∀ z o, z ≠ d → H z = some o → H' z = some o) : FN d H H' := fun z o n _ e => s z o n e
theorem FN.mv {d : Addr} {H H' : Hp} (a : FN d H H') : Mv d H H' := fun z o n e s => a z o n (fun ps y => by
  rcases s with ⟨_, z⟩ | ⟨_, z⟩ | ⟨_, _, z⟩ | ⟨_, _, z⟩ | ⟨_, _, _, z⟩ <;> rw [y] at z <;> cases z) e
theorem FN.kp {d P : Addr} {H H1 : Hp} (hP : ∃ ps, H P = some (.tbl ps)) (kp : ∀ b o, H b = some o → b ≠ P → H1 b = some o) : FN d H H1 := fun z o _ t e => kp z o e fun y => by
  obtain ⟨ps, hP⟩ := hP
  rw [y, hP] at e
  exact t ps (Option.some.inj e).symm
theorem after_tried {T : TX P K mg} {cells : List (Str × Addr)} {N : List Str} {σ : L2.St} {fr : List Str} {cs : List Addr} {H H1 H2 H3 H4 H5 : Hp} {d b ro r4 C dx Pt : Addr} {fs : List (Str × V)} (hd : H d = some (.ins C dx fs)) (hP : ∃ ps, H Pt = some (.tbl ps))
    (kp : ∀ b o, H b = some o → b ≠ Pt → H1 b = some o) (tb1 : Tab1 H1 Pt q1 q2) (fz : Fz cells N σ fr cs H1 H2) (s3 : Same H2 H3) (kN : FN d H3 H4) (kP : ∀ ps, H3 Pt = some (.tbl ps) → H4 Pt = some (.tbl ps)) (kT : ∀ P', Tab0 H3 P' q2 → Tab0 H4 P' q2)
    (hd4 : DkAt T H4 d b r4) (hd5 : DkAt T H5 d b ro) (k5 : ∀ z o, z ≠ d → H4 z = some o → H5 z = some o) (hfz : ∀ c ∈ cs, ∃ o v, o.data = .cell v ∧ H5 c = some (.frz o (.own 0))) :
    DkAt T (thaw cs H5) d b ro ∧ FN d H (thaw cs H5) ∧ Tab1 (thaw cs H5) Pt q1 q2 ∧ Mv d H4 (thaw cs H5) := by
  obtain ⟨dx4, hd4⟩ := hd4
  obtain ⟨dx5, hd5⟩ := hd5
  have n56 := thaw_ncm hfz
  have nPd : Pt ≠ d := fun e => by
    obtain ⟨ps, hP⟩ := hP
    rw [e, hd] at hP
    cases hP
  have hd1 := kp _ _ hd nPd.symm
  have s13 : Same H1 H3 := fun z o e => s3 z o (fz.ext e)
  have hd3 := s13 _ _ hd1
  refine ⟨⟨dx5, n56 _ _ hd5 (soft_ncl (.inr (.inr (.inr (.inr ⟨_, _, _, rfl⟩)))))⟩, fun z o hz t e => ?_, ?_, (Mv.of k5).trans (thaw_mv hfz d)⟩
  · have e1 := FN.kp (d := d) hP kp z o hz t e
    exact fz.back e1 (k5 z o hz (kN z o hz t (s13 z o e1)))
  · obtain ⟨ps, e1, _⟩ := id tb1
    refine TabR.ext tb1 ?_ fun c ⟨P2, a, n, t⟩ => ⟨P2, ?_, n, ?_⟩
    · rw [e1]
      exact fz.back e1 (k5 _ _ nPd (kP _ (s13 _ _ e1)))
    · exact n56.code (code_but hd4 (fun z o n e _ => k5 z o n e) (code_but hd3 (fun z o n e t => kN z o n t e) ((Ncm.same s13).code a)))
    · exact n56.tab0 (tab0_but hd4 k5 (kT _ ((Ncm.same s13).tab0 t)))
/-! ### _law_trial_right -/
def SFt (T : TX P K mg) (f : Addr) : Sp := fun vs H Q E => spL1 T f vs H Q E ∨ spL3 T f vs H Q E ∨ spL4 T f vs H Q E ∨ spL5 T f vs H Q E
theorem held_t (T : TX P K mg) {P0 : Addr} (BM : base.BuiltinsAt mg P0) : ∀ f, HeldF P w K mg base (L2.CX P w) 15 f (SFt T f) := fun f A outer s H us vs Q E hr e0 r h => by
  rcases h with h | h | h | h
  · exact (held1 T f).up A outer s H us vs Q E (hr.mono (by decide)) e0 r h
  · exact (held3 T BM f).up A outer s H us vs Q E hr e0 r h
  · exact (held4 T f).up A outer s H us vs Q E (hr.mono (by decide)) e0 r h
  · exact (held5 T f).up A outer s H us vs Q E (hr.mono (by decide)) e0 r h
theorem tab1_but {H H' : Hp} {d C dx : Addr} {fs : List (Str × V)} (hd : H d = some (.ins C dx fs)) (k : ∀ z o, z ≠ d → H z = some o → H' z = some o) {P : Addr} {q q' : Str} (h : Tab1 H P q q') : Tab1 H' P q q' := by
  obtain ⟨ps, e, _⟩ := id h
  refine TabR.ext h ?_ fun c ⟨P2, a, b, t⟩ => ⟨P2, code_but hd (fun z o n e _ => k z o n e) a, b, tab0_but hd k t⟩
  rw [e]
  exact k _ _ (ne_of e hd (by intro z; cases z)) e
/-- THE RULE: tried(live, lambda ..), within _law_trial_right -/
theorem tz (T : TX P K mg) {cells : List (Str × Addr)} {N : List Str} {σ : L2.St} {fr : List Str} {params : Arguments} {body : Expr} {scope : Scope} {H : Hp} {d b ro Pt : Addr} {Q : VK} (hσ : σ[0]? = some (some (.ref d))) (tb : Tab1 H Pt q1 q2) (dk : DkAt T H d b ro)
    (hS : ∀ (f1 c1 P1 : Addr) (cs : List Addr) (H1 H2 H3 : Hp), LamAt H1 f1 params body scope q1 (cloFrom cells scope.names []) c1 P1 → FN d H H1 → DkAt T H1 d b ro → (∀ P', P' ≠ Pt → Tab0 H P' q2 → Tab0 H1 P' q2) → Pt ≠ d → Fz cells N σ fr cs H1 H2 → Same H2 H3 → ∀ (QF : VK) (EF : XK),
      (∀ v H4 r4, DkAt T H4 d b r4 → FN d H3 H4 → (∀ ps, H3 Pt = some (.tbl ps) → H4 Pt = some (.tbl ps)) → (∀ P', Tab0 H3 P' q2 → Tab0 H4 P' q2) → (∀ H6, DkAt T H6 d b ro → FN d H H6 → Tab1 H6 Pt q1 q2 → Mv d H4 H6 → Q v H6) → QF v H4) → SFt T f1 [.ref d] H3 QF EF) :
    tCallZ cells N fr (spTried T (SFt T)) [] (tCons (tVar 0) (tCons (tLam1 Pt q1 q2 params body scope (cloFrom cells scope.names [])) tNil)) σ H Q := by
  obtain ⟨dx, hd⟩ := id dk
  have hP : ∃ ps, H Pt = some (.tbl ps) := by
    obtain ⟨ps, e, _⟩ := id tb
    exact ⟨ps, e⟩
  have nPd : Pt ≠ d := fun e => by
    obtain ⟨ps, hP⟩ := hP
    rw [e, hd] at hP
    cases hP
  refine ⟨_, hσ, tb, fun f1 c1 P1 H1 LA nP tb0 tb1 kp gn f0 cs H2 fz => ?_⟩
  have hd1 := kp _ _ hd nPd.symm
  have hd2 : H2 d = some (.ins T.desk_C dx (df b ro)) := fz.ext hd1
  refine ⟨d, b, ro, f1, rfl, ⟨dx, hd2⟩, ((Ncm.same fun z o e => fz.ext e).lam LA).fn, fun H3 t s3 nt ⟨tx, ht⟩ QF EF hQ hE => hS f1 c1 P1 cs H1 H2 H3 LA (FN.kp hP kp) ⟨dx, hd1⟩ (fun P' n t => ?_) nPd fz s3 QF EF (fun v H4 r4 hd4 kN kP kT hgo => ?_)⟩
  · obtain ⟨ps, e, _⟩ := id t
    refine TabR.ext t ?_ fun c ⟨P2, a, n⟩ => ⟨P2, a.ext fun z o e t => ?_, n⟩
    · rw [e]
      exact kp _ _ e n
    · refine kp z o e fun y => ?_
      obtain ⟨ps, hP⟩ := hP
      rw [y, hP] at e
      exact t ps (Option.some.inj e).symm
  have ntd : t ≠ d := fun e => by
    rw [e, hd2] at nt
    cases nt
  refine hQ v H4 r4 hd4 ⟨tx, kN _ _ ntd (fun ps z => by cases z) ht⟩ fun H5 hd5 k5 hfz => ?_
  obtain ⟨a1, a2, a3, a4⟩ := after_tried hd hP kp tb1 fz s3 kN kP kT hd4 hd5 k5 hfz
  exact hgo _ a1 a2 a3 a4
def gotD (am ms ns : List Int) : PyData := .list [shD (am ++ ms), shD ((am ++ ms) ++ ns), shD (am ++ ms)]
theorem gotD_ok (am ms ns : List Int) : DOk 4 (gotD am ms ns) := DOk.lst fun d hd => by
  simp only [List.mem_cons, List.not_mem_nil, or_false] at hd
  rcases hd with rfl | rfl | rfl <;> exact shD_ok _
def bkD : PyData := .list [.none, .int 0]
theorem bkD0_ok : DOk 1 bkD := DOk.lst fun d hd => by
  simp only [List.mem_cons, List.not_mem_nil, or_false] at hd
  rcases hd with rfl | rfl
  · exact DOk.none 0
  · exact DOk.int 0 _
theorem rdSeq {a b : TS} {D : Ends} {σ : L2.St} {H : Hp} (h : a { D with nx := b D } σ H) : tSeq a b D σ H := h
theorem rdIf {c : TT} {u v : TS} {D : Ends} {σ : L2.St} {H : Hp} (h : c σ H fun b H1 => if b = true then u D σ H1 else v D σ H1) : tIfS c u v D σ H := h
theorem rdTest {t : TE} {σ : L2.St} {H : Hp} {Q : Bool → Hp → Prop} (h : t σ H fun x H' => ∃ k, x = .bl k ∧ Q k H') : tTest t σ H Q := h
theorem rdOp {r : R2} {ta tb : TE} {σ : L2.St} {H : Hp} {Q : VK} (h : ta σ H fun x H1 => tb σ H1 fun y H2 => r x y H2 Q) : tOp r ta tb σ H Q := h
theorem rdAsg {te : TE} {g : TG} {D : Ends} {σ : L2.St} {H : Hp} (h : te σ H fun x H1 => g x σ H1 D.nx) : tAsg te g D σ H := h
theorem rdName {i : Nat} {v : V} {σ : L2.St} {H : Hp} {Q : L2.St → Hp → Prop} (h : Q (σ.set i (some v)) H) : gName i v σ H Q := h
def spTR (T : TX P K mg) (Pt : Addr) : Sp := fun vs H Q _ => ∃ (R : Rnd) (d b c ro lot so mo : Addr) (k : Int) (two : Bool) (am ms ns : List Int) (x : Str), vs = [.ref d, .ref lot, .ref so, .ref mo] ∧ Tab1 H Pt q1 q2 ∧ LdAt T H R d b c ro lot k two am x ∧
  AmOk ((am ++ ms) ++ ns) ∧ SqL K H so (ms.map V.int) ∧ SqL K H mo (ns.map V.int) ∧ ∀ H', DkAt T H' d b ro → FN d H H' → Tab1 H' Pt q1 q2 → Q (.bl true) H'
theorem ok_trialRight (T : TX P K mg) {cd Pt : Addr} (FC : FunC K "_law_trial_right" "_law_trial_right" sTrialRight T.trialRight_f T.trialRight_d cd) (TB : LamX.TabB base mg cd Pt) : FnOk P w K mg base CX0 20 T.trialRight_f T.trialRight_d ["live", "lot", "some", "more"] (spTR T Pt) := by
  refine FC.ok scTrialRight (fun vs H Q E h => ?_) (fun A outer s H vs Q E hr h => ?_)
  · obtain ⟨R, d, b, c, ro, lot, so, mo, k, two, am, ms, ns, x, rfl, _⟩ := h
    rfl
  · obtain ⟨R, d, b, c, ro, lot, so, mo, k, two, am, ms, ns, x, rfl, tb, L, hm, hso, hmo, q⟩ := h
    have TRD := ok_tried (w := w) (base := base) T (held_t T TB.bm)
    have cp : ∀ y ∈ (["live", "lot", "some", "more", "_law_inner_by", "size"] : List Str), (defScope sTrialRight).names.lookup y = some .cell := by decide +kernel
    refine ⟨_, pss_cons (ps_asg (pe_tup (pa_cons (pe_call (ok_shown T) (hr.mono (by decide)) (by rfl) T.shown_g T.shown_F.kp T.shown_b .nil pass0 (pa_cons (pv 0) pa_nil)) (pa_cons (pe_callB (call_lenI T.desk_len T.desk_lf (FnOk.raw (ok_deskLen T) T.deskLen_b .nil) (hr.mono (by decide)) pass0) (by rfl) T.z_len PySem.boot_len (pa_cons (pv 0) pa_nil)) pa_nil)))
        (pg_tup (by rfl) (pgs_cons (pg_name (i := 4) scTrialRight.nd rfl (Or.inl rfl)) (pgs_cons (pg_name (i := 9) scTrialRight.nd rfl (Or.inr rfl)) pgs_nil))))
      (pss_cons (ps_if (pt_cmpR op_notBl (pe_callZ (fr := ["live", "lot", "some"]) TRD hr rfl T.tried_g T.tried_F.kp T.tried_b .nil no_cx (fun y hy => .inl (cp y ((by decide : ∀ y ∈ (["live", "lot", "some"] : List Str), y ∈ (["live", "lot", "some", "more", "_law_inner_by", "size"] : List Str)) y hy))) (fun ok => own_cells ok.unwish)
          (pa_cons (pv 0) (pa_cons (pe_lam1 (c := cd) (P := Pt) (q := q1) (q2 := q2) (params := lamPar lam1) (body := lamBod lam1) (scope := lamSco lam1) TB rfl (by rfl) rfl (fun y hy e => .inl (cp _ ((by decide : ∀ y ∈ (["live", "lot", "some"] : List Str), y ∈ (["live", "lot", "some", "more", "_law_inner_by", "size"] : List Str)) _ (nsc1.free y hy e))))) pa_nil))) pe_bl (nomark _)) (pss_one (ps_ret pe_bl)) pss_nil)
      (pss_cons (ps_set (i := 8) scTrialRight.nd rfl (Or.inr rfl) (pe_lam1 (c := cd) (P := Pt) (q := q1) (q2 := q2) (params := lamPar lam2) (body := lamBod lam2) (scope := lamSco lam2) TB rfl (by rfl) rfl (fun y hy e => .inl (cp _ ((by decide : ∀ y ∈ (["lot", "more"] : List Str), y ∈ (["live", "lot", "some", "more", "_law_inner_by", "size"] : List Str)) _ (nsc2.free y hy e))))))
      (pss_cons (ps_set (i := 5) scTrialRight.nd rfl (Or.inl rfl) (pe_callZ (fr := ["lot", "some", "more", "_law_inner_by"]) TRD hr rfl T.tried_g T.tried_F.kp T.tried_b .nil no_cx (fun y hy => .inl (cp y ((by decide : ∀ y ∈ (["lot", "some", "more", "_law_inner_by"] : List Str), y ∈ (["live", "lot", "some", "more", "_law_inner_by", "size"] : List Str)) y hy))) (fun ok => own_cells ok.unwish)
          (pa_cons (pv 0) (pa_cons (pe_lam1 (c := cd) (P := Pt) (q := q1) (q2 := q2) (params := lamPar lam3) (body := lamBod lam3) (scope := lamSco lam3) TB rfl (by rfl) rfl (fun y hy e => .inl (cp _ ((by decide : ∀ y ∈ (["lot", "some", "_law_inner_by"] : List Str), y ∈ (["live", "lot", "some", "more", "_law_inner_by", "size"] : List Str)) _ (nsc3.free y hy e))))) pa_nil))))
      (pss_cons (ps_set (i := 6) scTrialRight.nd rfl (Or.inl rfl) (pe_callZ (fr := ["lot", "some", "more"]) TRD hr rfl T.tried_g T.tried_F.kp T.tried_b .nil no_cx (fun y hy => .inl (cp y ((by decide : ∀ y ∈ (["lot", "some", "more"] : List Str), y ∈ (["live", "lot", "some", "more", "_law_inner_by", "size"] : List Str)) y hy))) (fun ok => own_cells ok.unwish)
          (pa_cons (pv 0) (pa_cons (pe_lam1 (c := cd) (P := Pt) (q := q1) (q2 := q2) (params := lamPar lam4) (body := lamBod lam4) (scope := lamSco lam4) TB rfl (by rfl) rfl (fun y hy e => .inl (cp _ ((by decide : ∀ y ∈ (["lot", "some", "more"] : List Str), y ∈ (["live", "lot", "some", "more", "_law_inner_by", "size"] : List Str)) _ (nsc4.free y hy e))))) pa_nil))))
      (pss_cons (ps_if (PW.pt (pw_or (pt_cmpR (op_neD (hu64 hr)) (pv 5) (pe_op op_cat (pv 6) (pe_lst (pa_cons (pe_ix ix_list (pv 5) pe_int (fun _ _ => rfl)) pa_nil))) (nomark _)) (pw_or (pt_cmpR op_ne (pe_ix ix_list (pe_ix ix_list (pv 5) pe_int (fun _ _ => rfl)) pe_int (fun _ _ => rfl)) (pe_op op_add (pv 9) (pe_callB call_len_seq (by rfl) T.z_len PySem.boot_len (pa_cons (pv 2) pa_nil))) (nomark _)) (pw_or1 (pt_cmpR (op_neD (hu64 hr)) (pe_call (ok_shown T) (hr.mono (by decide)) (by rfl) T.shown_g T.shown_F.kp T.shown_b .nil pass0 (pa_cons (pv 0) pa_nil)) (pv 4) (nomark _)))))) (pss_one (ps_ret pe_bl)) pss_nil)
      (pss_cons (ps_if (pt_cmpR op_gt (pv 9) pe_int (nomark _))
        (pss_cons (ps_set (i := 7) scTrialRight.nd rfl (Or.inl rfl) (pe_callZ (fr := ["size"]) TRD hr rfl T.tried_g T.tried_F.kp T.tried_b .nil no_cx (fun y hy => .inl (cp y ((by decide : ∀ y ∈ (["size"] : List Str), y ∈ (["live", "lot", "some", "more", "_law_inner_by", "size"] : List Str)) y hy))) (fun ok => own_cells ok.unwish)
          (pa_cons (pv 0) (pa_cons (pe_lam1 (c := cd) (P := Pt) (q := q1) (q2 := q2) (params := lamPar lam5) (body := lamBod lam5) (scope := lamSco lam5) TB rfl (by rfl) rfl (fun y hy e => .inl (cp _ ((by decide : ∀ y ∈ (["size"] : List Str), y ∈ (["live", "lot", "some", "more", "_law_inner_by", "size"] : List Str)) _ (nsc5.free y hy e))))) pa_nil))))
        (pss_one (ps_if (PW.pt (pw_or (pt_cmpR (op_neD (hu64 hr)) (pv 7) (pe_lst (pa_cons pe_non (pa_cons pe_int pa_nil))) (nomark _)) (pw_or1 (pt_cmpR (op_neD (hu64 hr)) (pe_call (ok_shown T) (hr.mono (by decide)) (by rfl) T.shown_g T.shown_F.kp T.shown_b .nil pass0 (pa_cons (pv 0) pa_nil)) (pv 4) (nomark _))))) (pss_one (ps_ret pe_bl)) pss_nil))) pss_nil)
      (pss_one (ps_ret (pe_call (ok_endsRight T) (hr.mono (by decide)) (by rfl) T.endsRight_g T.endsRight_F.kp T.endsRight_b .nil pass0 (pa_cons (pv 0) (pa_cons (pv 4) pa_nil))))))))))), ?_⟩
    have hma := hm.pre.pre
    obtain ⟨hb63, _, _⟩ := hb63_of hma
    refine ⟨_, rfl, d, b, ro, am, rfl, L.dk, L.row, hma, fun H1 due s1 ndue hdue => ?_⟩
    obtain ⟨dx1, hd1⟩ := id (L.same s1).dk
    refine ⟨_, rfl, d, dx1, _, rfl, hd1, d, b, ro, am, rfl, ⟨dx1, hd1⟩, L.row.same s1, _, rfl, Int.natCast_nonneg _, hb63, (by show 2 ≤ sizeLine; decide), fun tp htp => ?_⟩
    have s2 : Same H (upd H1 tp (.tup [.ref due, .int am.length])) := same_upd s1 (s1.free htp)
    have s12 : Same H1 (upd H1 tp (.tup [.ref due, .int am.length])) := same_upd (Same.refl _) htp
    refine ⟨tp, _, rfl, SqT.of upd_same, rfl, _, _, rfl, _, _, rfl, rfl, ?_⟩
    have hdueA : ShAt K (upd H1 tp (.tup [.ref due, .int am.length])) due am := ⟨ro, SqL.of (s12 _ _ hdue), L.row.same s2⟩
    have LA := L.same s2
    have hsoA := s2.seq hso
    have hmoA := s2.seq hmo
    have tbA := (Ncm.same s2).tab1 tb
    have fnA : FN d H _ := FN.same s2
    generalize upd H1 tp (.tup [.ref due, .int am.length]) = HA at hdueA LA hsoA hmoA tbA fnA ⊢
    clear s2 s12 hdue hd1 dx1 s1 ndue htp
    obtain ⟨dxA, hdA⟩ := id LA.dk
    -- the first call of tried
    dsimp only
    refine rdSeq (rdIf (rdTest (rdOp ?_)))
    refine tz T (by exact rfl) tbA LA.dk fun f1 c1 P1 cs H1 H2 H3 lam fn1 dk1 kT1 nPd fz s3 QF EF go => ?_
    have L1 := LA.back fn1.mv dk1
    have s13 : Same H1 H3 := fun z o e => s3 z o (fz.ext e)
    have L3 := L1.same s13
    obtain ⟨dx3, hd3⟩ := id L3.dk
    refine .inl ⟨R, d, b, c, ro, lot, so, k, two, am, ms, x, _, c1, P1, rfl, (clo_of fz lam (fun y hy => ⟨hy, PySem.mem_of_lookup (nsc1.frk y hy)⟩) nsc1.free rfl fun i y hi => ?_).ext (fun z o e _ => s3 z o e), L3, hm.pre, s13.seq (fn1.mv.seqL hdA hsoA),
      fun H4 r4 hd4 k4 => go _ H4 r4 hd4 (FN.of k4) (fun ps e => k4 _ _ nPd e) (fun P' t => tab0_but hd3 k4 t) fun H6 dk6 fn6 tb6 mv6 => ?_⟩
    · match i, hi with
      | 0, hi => cases hi; exact ⟨0, .ref d, rfl, rfl, rfl⟩
      | 1, hi => cases hi; exact ⟨1, .ref lot, rfl, rfl, rfl⟩
      | 2, hi => cases hi; exact ⟨2, .ref so, rfl, rfl, rfl⟩
    refine ⟨true, true, rfl, rfl, _, rfl, ifF (by decide) ?_⟩
    have fnB := fnA.trans fn6
    have LB := LA.back fn6.mv dk6
    have hsoB := fn6.mv.seqL hdA hsoA
    have hmoB := fn6.mv.seqL hdA hmoA
    have hdueB := fn6.mv.sh hdA hdueA
    obtain ⟨dxB, hdB⟩ := id LB.dk
    clear go fn1 dk1 fz s3 L1 s13 L3 hd3 mv6 hd4 k4 lam
    -- the inner function
    refine ⟨tb6, fun f2 c2 P2 HC lam2C nP2 tb02 tbC kpC gnC f0C => ?_⟩
    have hPC : ∃ ps, H6 Pt = some (.tbl ps) := by
      obtain ⟨ps, e, _⟩ := id tb6
      exact ⟨ps, e⟩
    have fnC6 : FN d H6 HC := FN.kp hPC kpC
    have dkC : DkAt T HC d b ro := ⟨dxB, kpC _ _ hdB nPd.symm⟩
    have fnC := fnB.trans fnC6
    have LC := LB.back fnC6.mv dkC
    have hsoC := fnC6.mv.seqL hdB hsoB
    have hmoC := fnC6.mv.seqL hdB hmoB
    have hdueC := fnC6.mv.sh hdB hdueB
    obtain ⟨dxC, hdC⟩ := id LC.dk
    -- got
    refine rdName ?_
    dsimp only
    refine rdSeq (rdAsg ?_)
    refine tz T (by exact rfl) tbC LC.dk fun f3 c3 P3 cs H1 H2 H3 lam fn1 dk1 kT1 _ fz s3 QF EF go => ?_
    have L1 := LC.back fn1.mv dk1
    have s13 : Same H1 H3 := fun z o e => s3 z o (fz.ext e)
    have L3 := L1.same s13
    obtain ⟨dx3, hd3⟩ := id L3.dk
    have fn2 : FN d HC H2 := fn1.trans (FN.same fun z o e => fz.ext e)
    have hcl : ∀ y ∈ (["lot", "some", "more", "_law_inner_by"] : List Str), ∃ c, _ = some c := fun y hy => (fz.1 y hy).imp fun c h => h.1
    refine .inr (.inl ⟨R, d, b, c, ro, lot, so, mo, k, two, am, ms, ns, x, _, f2, c3, P3, c2, P2, rfl, (clo_of fz lam (fun y hy => ⟨(by decide : ∀ y ∈ (["lot", "some", "_law_inner_by"] : List Str), y ∈ (["lot", "some", "more", "_law_inner_by"] : List Str)) y hy, PySem.mem_of_lookup (nsc3.frk y hy)⟩) nsc3.free rfl fun i y hi => ?_).ext (fun z o e _ => s3 z o e),
      (clo_of fz (lam_but hdC (fun z o n e t => fn1 z o n t e) lam2C) (fun y hy => ⟨(by decide : ∀ y ∈ (["lot", "more"] : List Str), y ∈ (["lot", "some", "more", "_law_inner_by"] : List Str)) y hy, PySem.mem_of_lookup (nsc2.frk y hy)⟩) nsc2.free rfl fun i y hi => ?_).ext (fun z o e _ => s3 z o e),
      fz.2.2.2, fun y hy e => hcl _ ((by decide : ∀ y ∈ (["lot", "some", "_law_inner_by"] : List Str), y ∈ (["lot", "some", "more", "_law_inner_by"] : List Str)) _ (nsc3.free y hy e)), fun y hy e => hcl _ ((by decide : ∀ y ∈ (["lot", "more"] : List Str), y ∈ (["lot", "some", "more", "_law_inner_by"] : List Str)) _ (nsc2.free y hy e)),
      ?_, L3, hm, s13.seq (fn1.mv.seqL hdC hsoC), s13.seq (fn1.mv.seqL hdC hmoC), fun H4 r4 l l1 l2 l3 hd4 k4 tb4 hl hl1 hl2 hl3 => ?_⟩)
    · match i, hi with
      | 0, hi => cases hi; exact ⟨1, .ref lot, rfl, rfl, rfl⟩
      | 1, hi => cases hi; exact ⟨2, .ref so, rfl, rfl, rfl⟩
      | 2, hi => cases hi; exact ⟨8, .ref f2, rfl, rfl, rfl⟩
    · match i, hi with
      | 0, hi => cases hi; exact ⟨1, .ref lot, rfl, rfl, rfl⟩
      | 1, hi => cases hi; exact ⟨3, .ref mo, rfl, rfl, rfl⟩
    · exact (Ncm.same s13).tab0 (kT1 _ nP2 tb02)
    obtain ⟨psP, hP2, _⟩ := id ((Ncm.same s13).tab0 (kT1 _ nP2 tb02))
    have kN : FN d H3 H4 := fun z o hz t e => k4 z o hz (fun y => by
      rw [y, hP2] at e
      exact t _ (Option.some.inj e).symm) e
    refine go _ H4 r4 hd4 kN (fun ps e => k4 _ _ nPd nP2.symm e) (fun P' t => ?_) fun H7 dk7 fn7 tb7 mv7 => ?_
    · by_cases ep : P' = P2
      · rw [ep]
        exact tb4
      · obtain ⟨ps, e, _⟩ := id t
        refine TabR.ext t ?_ fun c ⟨P5, a, n⟩ => ⟨P5, code_but hd3 (fun z o n e t => kN z o n t e) a, n⟩
        rw [e]
        exact k4 _ _ (ne_of e hd3 (by intro z; cases z)) ep e
    obtain ⟨dx4, hd4'⟩ := id hd4
    have nl : l ≠ d := ne_of hl hd4' (by intro z; cases z)
    have hl7 := mv7 _ _ nl hl (.inr (.inl ⟨_, rfl⟩))
    have hl17 := mv7.sh hd4' hl1
    have hl27 := mv7.sh hd4' hl2
    have hl37 := mv7.sh hd4' hl3
    have fnD := fnC.trans fn7
    have LD := LC.back fn7.mv dk7
    have hsoD := fn7.mv.seqL hdC hsoC
    have hmoD := fn7.mv.seqL hdC hmoC
    have hdueD := fn7.mv.sh hdC hdueC
    obtain ⟨dxD, hdD⟩ := id LD.dk
    clear go fn1 dk1 fz s3 L1 s13 L3 hd3 mv7 hd4 k4 lam kN hP2 hd4' nl hl hl1 hl2 hl3 tb4 kT1 hcl fn2
    -- once
    refine rdName ?_
    dsimp only
    refine rdSeq (rdAsg ?_)
    refine tz T (by exact rfl) tb7 LD.dk fun f4 c4 P4 cs H1 H2 H3 lam fn1 dk1 kT1 _ fz s3 QF EF go => ?_
    have L1 := LD.back fn1.mv dk1
    have s13 : Same H1 H3 := fun z o e => s3 z o (fz.ext e)
    have L3 := L1.same s13
    obtain ⟨dx3, hd3⟩ := id L3.dk
    refine .inr (.inr (.inl ⟨R, d, b, c, ro, lot, so, mo, k, two, am, ms, ns, x, _, c4, P4, rfl, (clo_of fz lam (fun y hy => ⟨hy, PySem.mem_of_lookup (nsc4.frk y hy)⟩) nsc4.free rfl fun i y hi => ?_).ext (fun z o e _ => s3 z o e),
      L3, hm, s13.seq (fn1.mv.seqL hdD hsoD), s13.seq (fn1.mv.seqL hdD hmoD), fun H4 r4 m m1 m2 hd4 k4 hm0 hm1 hm2 => go _ H4 r4 hd4 (FN.of k4) (fun ps e => k4 _ _ nPd e) (fun P' t => tab0_but hd3 k4 t) fun H8 dk8 fn8 tb8 mv8 => ?_⟩))
    · match i, hi with
      | 0, hi => cases hi; exact ⟨1, .ref lot, rfl, rfl, rfl⟩
      | 1, hi => cases hi; exact ⟨2, .ref so, rfl, rfl, rfl⟩
      | 2, hi => cases hi; exact ⟨3, .ref mo, rfl, rfl, rfl⟩
    obtain ⟨dx4, hd4'⟩ := id hd4
    have nm : m ≠ d := ne_of hm0 hd4' (by intro z; cases z)
    have hm8 := mv8 _ _ nm hm0 (.inr (.inl ⟨_, rfl⟩))
    have hm18 := mv8.sh hd4' hm1
    have hm28 := mv8.sh hd4' hm2
    have nl : l ≠ d := ne_of hl7 hdD (by intro z; cases z)
    have hl8 := fn8.mv _ _ nl hl7 (.inr (.inl ⟨_, rfl⟩))
    have hl18 := fn8.mv.sh hdD hl17
    have hl28 := fn8.mv.sh hdD hl27
    have hl38 := fn8.mv.sh hdD hl37
    have fnE := fnD.trans fn8
    have LE := LD.back fn8.mv dk8
    have hsoE := fn8.mv.seqL hdD hsoD
    have hdueE := fn8.mv.sh hdD hdueD
    obtain ⟨dxE, hdE⟩ := id LE.dk
    clear go fn1 dk1 fz s3 L1 s13 L3 hd3 mv8 hd4 k4 lam hd4' nm hm0 hm1 hm2 kT1 hl7 hl17 hl27 hl37
    -- the comparisons
    refine rdName ?_
    dsimp only
    refine rdSeq (rdIf ?_)
    obtain ⟨ro1, hq1, hr1⟩ := id hl18
    refine ⟨_, rfl, _, rfl, _, rfl, l, _, 0, .ref l1, rfl, rfl, SqL.of hl8, at_of (j := 0) rfl rfl, (by show 1 ≤ sizeLine; decide), fun p1 hp1 => ?_⟩
    have t1 : Same H8 (upd H8 p1 (.lst [.ref l1])) := same_upd (Same.refl _) hp1
    refine ⟨m, p1, _, _, rfl, rfl, t1 _ _ hm8, upd_same, (by show 3 ≤ sizeLine; decide), fun p2 hp2 => ?_⟩
    have t2 : Same H8 (upd (upd H8 p1 (.lst [.ref l1])) p2 (.lst ([.ref m1, .ref m2] ++ [.ref l1]))) := same_upd t1 (t1.free hp2)
    have er : PyData.eqv (gotD am ms ns) (gotD am ms ns) = true := (gotD_ok am ms ns).refl
    refine ⟨gotD am ms ns, gotD am ms ns, .lst (SqL.of (t2 _ _ hl8)) (.cons (hl18.same t2).dp (.cons (hl28.same t2).dp (.cons (hl38.same t2).dp .nil))), .lst (xs := [.ref m1, .ref m2, .ref l1]) (SqL.of upd_same) (.cons (hm18.same t2).dp (.cons (hm28.same t2).dp (.cons (hl18.same t2).dp .nil))), (gotD_ok _ _ _).shaped (by decide), (gotD_ok _ _ _).shaped (by decide), _, rfl, ?_⟩
    rw [er]
    refine iteF ?_
    refine ⟨_, rfl, l, _, 0, .ref l1, rfl, rfl, SqL.of (t2 _ _ hl8), at_of (j := 0) rfl rfl, l1, _, 1, _, rfl, rfl, t2.seq hq1, at_of (j := 1) rfl rfl, _, rfl, _, rfl, so, _, rfl, .inl (t2.seq hsoE), _, _, rfl, rfl, rfl, _, rfl, ?_⟩
    have e2 : decide (V.int (((am ++ ms).length : Nat) : Int) = V.int ((am.length : Nat) + (((ms.map V.int).length : Nat) : Int))) = true := by
      rw [dec_int]
      simp
    rw [e2]
    refine iteF ?_
    have LG := LE.same t2
    refine ⟨_, rfl, d, b, ro, am, rfl, LG.dk, LG.row, hma, fun H9 l9 s9 _ hl9 => ?_⟩
    have t9 := t2.trans s9
    have h9 : ShAt K H9 l9 am := ⟨ro, SqL.of hl9, LE.row.same t9⟩
    have es : PyData.eqv (shD am) (shD am) = true := (shD_ok am).refl
    refine ⟨_, rfl, shD am, shD am, h9.dp, (hdueE.same t9).dp, (shD_ok am).shaped (by decide), (shD_ok am).shaped (by decide), _, rfl, ?_⟩
    rw [es]
    refine iteF ?_
    have L9 := LE.same t9
    have hdue9 := hdueE.same t9
    have tb9 := (Ncm.same t9).tab1 tb8
    have fn9 := fnE.trans (FN.same (d := d) t9)
    have hd9 := t9 _ _ hdE
    refine ⟨_, rfl, _, _, rfl, rfl, _, rfl, ?_⟩
    by_cases h0 : am = []
    · refine ifF (by subst h0; rfl) ?_
      refine ⟨_, rfl, _, rfl, R, d, b, c, ro, due, k, two, am, rfl, L9.dk, L9.bk, L9.row, hma, hdue9, fun H' hd' k' => q H' hd' (fn9.trans (FN.of k')) (tab1_but hd9 k' tb9)⟩
    · have hpos : 0 < am.length := List.length_pos_iff.mpr h0
      refine ifT (decide_eq_true (by omega)) ?_
      refine rdSeq (rdAsg ?_)
      refine tz T (by exact rfl) tb9 L9.dk fun f5 c5 P5 cs H1 H2 H3 lam fn1 dk1 kT1 _ fz s3 QF EF go => ?_
      have L1 := L9.back fn1.mv dk1
      have s13 : Same H1 H3 := fun z o e => s3 z o (fz.ext e)
      have L3 := L1.same s13
      obtain ⟨dx3, hd3⟩ := id L3.dk
      refine .inr (.inr (.inr ⟨d, b, ro, am, am.length, _, c5, P5, rfl, (clo_of fz lam (fun y hy => ⟨hy, PySem.mem_of_lookup (nsc5.frk y hy)⟩) nsc5.free rfl fun i y hi => ?_).ext (fun z o e _ => s3 z o e),
        L3.dk, L3.row, hma, rfl, hpos, fun H4 r4 n0 hd4 k4 hn0 => go _ H4 r4 hd4 (FN.of k4) (fun ps e => k4 _ _ nPd e) (fun P' t => tab0_but hd3 k4 t) fun HB dkB fnB' tbB mvB => ?_⟩))
      · match i, hi with
        | 0, hi => cases hi; exact ⟨9, .int am.length, rfl, rfl, rfl⟩
      obtain ⟨dx4, hd4'⟩ := id hd4
      have nn : n0 ≠ d := ne_of hn0 hd4' (by intro z; cases z)
      have hnB := mvB _ _ nn hn0 (.inr (.inl ⟨_, rfl⟩))
      have LB' := L9.back fnB'.mv dkB
      have hdueB' := fnB'.mv.sh hd9 hdue9
      refine rdName ?_
      dsimp only
      refine rdIf ?_
      refine ⟨_, rfl, (by show 2 ≤ sizeLine; decide), fun p3 hp3 => ?_⟩
      have t3 : Same HB (upd HB p3 (.lst [.non, .int 0])) := same_upd (Same.refl _) hp3
      have eb : PyData.eqv bkD bkD = true := bkD0_ok.refl
      refine ⟨bkD, bkD, .lst (SqL.of (t3 _ _ hnB)) (.cons .non (.cons (.int _) .nil)), .lst (SqL.of upd_same) (.cons .non (.cons (.int _) .nil)), bkD0_ok.shaped (by decide), bkD0_ok.shaped (by decide), _, rfl, ?_⟩
      rw [eb]
      refine iteF ?_
      have LC' := LB'.same t3
      refine ⟨_, rfl, d, b, ro, am, rfl, LC'.dk, LC'.row, hma, fun HD lD sD _ hlD => ?_⟩
      have tD := t3.trans sD
      have hD : ShAt K HD lD am := ⟨ro, SqL.of hlD, LB'.row.same tD⟩
      refine ⟨_, rfl, shD am, shD am, hD.dp, (hdueB'.same tD).dp, (shD_ok am).shaped (by decide), (shD_ok am).shaped (by decide), _, rfl, ?_⟩
      rw [es]
      refine iteF ?_
      have LD' := LB'.same tD
      obtain ⟨dxD', hdD'⟩ := id LD'.dk
      have fnD' := (fn9.trans fnB').trans (FN.same (d := d) tD)
      have tbD' := (Ncm.same tD).tab1 tbB
      refine ⟨_, rfl, _, rfl, R, d, b, c, ro, due, k, two, am, rfl, LD'.dk, LD'.bk, LD'.row, hma, hdueB'.same tD, fun H' hd' k' => q H' hd' (fnD'.trans (FN.of k')) (tab1_but hdD' k' tbD')⟩
end
end Wm
/-! T22 -/
namespace Wm
open PySem PySem.Spec PyProof.Rows L2
section
variable {P : Program} {w : World} {K : PySem.W.Frag} {mg : Str → Option Value} {base : Heap}
/-! ### the stream -/
/-- the stream's dict at md: its list of cells at ca, what is left at le -/
structure MdAt (H : Hp) (md le : Addr) (n at_ : Nat) : Prop where
  ex : ∃ (ca : Addr) (bs ls : List Int), H md = some (.dK [(.inr "cells", .ref ca), (.inr "left", .ref le), (.inr "at", .int (at_ : Nat))]) ∧ H ca = some (.lst (bs.map V.int)) ∧ H le = some (.lst (ls.map V.int)) ∧ ca ≠ le ∧ bs.length ≤ n ∧ ls.length ≤ n ∧ (∀ z ∈ ls, (0 : Int) ≤ z)
def spBegun (K : PySem.W.Frag) : Sp := fun vs H Q _ => ∃ (a : Addr) (ns : List Int), vs = [.ref a] ∧ SqL K H a (ns.map V.int) ∧ ns.length < sizeLine ∧ ∀ H' md le, Same H H' → MdAt H' md le ns.length 0 → H md = none → H le = none → Q (.ref md) H'
theorem ok_begun (T : TX P K mg) : FnOk P w K mg base CX0 1 T.begun_f T.begun_d ["script"] (spBegun K) := by
  refine T.begun_F.ok scBegun (fun vs H Q E h => ?_) (fun cdv A outer s H vs Q E hr h => ?_)
  · obtain ⟨a, ns, rfl, _⟩ := h
    rfl
  · obtain ⟨a, ns, rfl, ha, hn, q⟩ := h
    refine ⟨_, pss_one (ps_ret (pe_disp (pps_cons pe_str (pe_callTy call_list_of (by rfl) T.z_list (by decide +kernel) (pa_cons (pv 0) pa_nil)) (pps_cons pe_str (pe_lc (own := [("cell", 1)]) (g := gName 1) rfl scBegun.nd (pi_list (pv 0)) (blkOk_by (N := ["script", "cell"]) (sc := defScope sBegun) (by decide +kernel)) (fun _ _ _ _ _ => pg_name (i := 1) scBegun.nd rfl (Or.inl rfl)) (fun _ _ _ _ _ => pts_one (pt_cmpR op_ge (pv 1) (pe_op op_pow pe_int pe_int) (nomark _))) (fun _ _ _ _ _ => (pv 1))) (pps_cons pe_str pe_int pps_nil))) rfl rfl (by simp) (by decide))), ?_⟩
    refine fun md hmd => ?_
    have s1 : Same H (upd H md (.dK [])) := same_upd (Same.refl H) hmd
    refine ⟨_, rfl, a, _, rfl, .inl (s1.seq ha), fun ca hca => ?_⟩
    have s2 : Same (upd H md (.dK [])) (upd (upd H md (.dK [])) ca (.lst (ns.map V.int))) := same_upd (Same.refl _) hca
    have s02 : Same H _ := s1.trans s2
    refine ⟨_, rfl, a, rfl, ⟨_, s02.seq ha⟩, fun le new => ?_⟩
    refine lc_pure (walk_list (xs := ns.map V.int)) (fun _ _ s q => s.seq q) (fun i => (ns[i]?).bind fun z => if (10 : Int) ^ 18 ≤ z then some (V.int z) else none) (s02.seq ha) new (by rw [List.length_map]; exact hn) (fun i v H4 H5 Pk Nk hi s4 _ y hP hN => ?_) (fun H4 s4 h4 => ?_)
    · obtain ⟨rfl, hx'⟩ := y
      rw [List.getElem?_map] at hx'
      obtain ⟨z, ez, rfl⟩ := Option.map_eq_some_iff.mp hx'
      refine ⟨rfl, _, rfl, _, _, rfl, rfl, ⟨by decide, by decide, by decide⟩, _, _, rfl, rfl, _, rfl, ?_⟩
      by_cases h : (10 : Int) ^ 18 ≤ z
      · exact ifT (decide_eq_true h) ⟨_, rfl, hP _ _ (Same.refl _) (by rw [ez, Option.bind_some, if_pos h])⟩
      · exact ifF (decide_eq_false h) (hN _ (Same.refl _) (by rw [ez, Option.bind_some, if_neg h]))
    · rw [List.length_map, range_bindF] at h4
      have hls : ns.filterMap (fun z => if (10 : Int) ^ 18 ≤ z then some (V.int z) else none) = (ns.filter fun z => decide ((10 : Int) ^ 18 ≤ z)).map V.int := by
        clear ha hn q s4 s02 h4 new s1 s2
        induction ns with
        | nil => rfl
        | cons z r ih =>
          by_cases h : (10 : Int) ^ 18 ≤ z
          · rw [List.filterMap_cons, if_pos h, List.filter_cons, if_pos (decide_eq_true h), List.map_cons, ih]
          · rw [List.filterMap_cons, if_neg h, List.filter_cons, if_neg (by simpa using h), ih]
      rw [hls] at h4
      have hmd4 : H4 md = some (.dK []) := s4 _ _ (s2 _ _ upd_same)
      have hca4 : H4 ca = some (.lst (ns.map V.int)) := s4 _ _ upd_same
      have nml : le ≠ md := fun e => by
        rw [e, s2 _ _ upd_same] at new
        cases new
      have ncl : ca ≠ le := fun e => by
        rw [← e, upd_same] at new
        cases new
      have ncm : ca ≠ md := fun e => by
        rw [e, upd_same] at hca
        cases hca
      refine ⟨hmd4, [(.inr "cells", .ref ca), (.inr "left", .ref le), (.inr "at", .int 0)], rfl, (by show 3 ≤ 15; decide), ?_⟩
      refine q _ md le (fun z o e => ?_) ⟨ca, ns, ns.filter fun z => decide ((10 : Int) ^ 18 ≤ z), ?_, ?_, ?_, ncl, Nat.le_refl _, List.length_filter_le _ _, fun z hz => ?_⟩ hmd ?_
      · rw [upd_ne (ne_of_none e hmd)]
        exact s4 z o (s02 z o e)
      · rw [upd_same]
        congr 2
      · rw [upd_ne ncm]
        exact hca4
      · rw [upd_ne nml]
        exact h4
      · have := of_decide_eq_true (List.mem_filter.mp hz).2
        have h0 : (0 : Int) ≤ 10 ^ 18 := by decide
        omega
      · cases e : H le with
        | none => rfl
        | some o =>
          rw [s02 _ _ e] at new
          cases new
/-- what a draw changes: the dict and what is left -/
def RN (md le le' : Addr) (H H' : Hp) : Prop := (∀ z o, z ≠ md → z ≠ le → H z = some o → H' z = some o) ∧ (le' = le ∨ H le' = none)
theorem RN.refl (md le : Addr) (H : Hp) : RN md le le H H := ⟨fun _ _ _ _ e => e, .inl rfl⟩
theorem RN.trans {md le l1 l2 : Addr} {H H1 H2 : Hp} (hm : ∃ o, H1 md = some o) (a : RN md le l1 H H1) (b : RN md l1 l2 H1 H2) : RN md le l2 H H2 := by
  refine ⟨fun z o n1 n2 e => b.1 z o n1 (fun y => ?_) (a.1 z o n1 n2 e), ?_⟩
  · rcases a.2 with h | h
    · exact n2 (y.trans h)
    · rw [← y, e] at h
      cases h
  · rcases b.2 with h | h
    · rw [h]
      exact a.2
    · by_cases hl : l2 = le
      · exact .inl hl
      · refine .inr ?_
        cases e : H l2 with
        | none => rfl
        | some o =>
          have nm : l2 ≠ md := fun y => by
            obtain ⟨o', hm⟩ := hm
            rw [y, hm] at h
            cases h
          rw [a.1 l2 o nm hl e] at h
          cases h
def lsD (ls : List Int) : PyData := .list (ls.map PyData.int)
theorem lsD_ok (ls : List Int) : DOk 1 (lsD ls) := DOk.lst fun d hd => by
  obtain ⟨z, _, rfl⟩ := List.mem_map.mp hd
  exact DOk.int 0 _
theorem lsD_eqv (ls : List Int) : PyData.eqv (lsD ls) (lsD []) = ls.isEmpty := by
  cases ls with
  | nil => exact (lsD_ok []).refl
  | cons z r =>
    unfold lsD
    rw [PyData.eqv]
    simp [PyData.eqvAll]
abbrev mdL (ca le : Addr) (at_ : Nat) : List (Key × V) := [(.inr "cells", .ref ca), (.inr "left", .ref le), (.inr "at", .int (at_ : Nat))]
theorem v_cells (ca le : Addr) (at_ : Nat) : valV (mdL ca le at_) (.inr "cells") = some (.ref ca) := rfl
theorem v_left (ca le : Addr) (at_ : Nat) : valV (mdL ca le at_) (.inr "left") = some (.ref le) := rfl
theorem v_at (ca le : Addr) (at_ : Nat) : valV (mdL ca le at_) (.inr "at") = some (.int (at_ : Nat)) := rfl
theorem p_left (ca le l2 : Addr) (at_ : Nat) : putK (mdL ca le at_) (.inr "left") (.ref l2) = mdL ca l2 at_ := rfl
theorem p_at (ca le : Addr) (at_ a2 : Nat) : putK (mdL ca le at_) (.inr "at") (.int (a2 : Nat)) = mdL ca le a2 := rfl
def MdX (H : Hp) (md ca le : Addr) (bs ls : List Int) (at_ : Nat) : Prop := H md = some (.dK (mdL ca le at_)) ∧ H ca = some (.lst (bs.map V.int)) ∧ H le = some (.lst (ls.map V.int)) ∧ ca ≠ le
theorem MdX.dg {H : Hp} {md ca le : Addr} {bs ls : List Int} {at_ : Nat} (m : MdX H md ca le bs ls at_) : DGet H md (.str "left") (some (.ref le)) := .inl ⟨_, .inr "left", .inl m.1, rfl, (v_left _ _ _).symm⟩
theorem MdX.same {H H' : Hp} {md ca le : Addr} {bs ls : List Int} {at_ : Nat} (m : MdX H md ca le bs ls at_) (s : Same H H') : MdX H' md ca le bs ls at_ := ⟨s _ _ m.1, s _ _ m.2.1, s _ _ m.2.2.1, m.2.2.2⟩
theorem dp_ls {K : PySem.W.Frag} {H : Hp} {a : Addr} {ls : List Int} (h : SqL K H a (ls.map V.int)) : Dp K H (.ref a) (lsD ls) := .lst h (dpAll_map V.int PyData.int (fun x => .int x) ls)
theorem RN.ext {md le l1 : Addr} {H H1 H2 : Hp} (a : RN md le l1 H H1) (s : Same H1 H2) : RN md le l1 H H2 := ⟨fun z o n1 n2 e => s z o (a.1 z o n1 n2 e), a.2⟩
theorem at_int {bs : List Int} {i : Int} (h0 : 0 ≤ i) (h1 : i < bs.length) : ∃ b : Int, atI (bs.map V.int) i = some (.int b) := by
  obtain ⟨j, rfl⟩ := Int.eq_ofNat_of_zero_le h0
  have hj : j < bs.length := by omega
  refine ⟨bs[j], ?_⟩
  unfold atI
  have e : ixN (bs.map V.int).length (j : Int) = some j := by
    unfold ixN
    rw [if_pos h0, List.length_map, if_pos h1]
    rfl
  rw [e]
  show (bs.map V.int)[j]? = _
  rw [List.getElem?_map, List.getElem?_eq_getElem hj]
  rfl
theorem split_goal {N : L2.St → Hp → Prop} {A : Hp → Addr → List Int → Prop} {σ0 : L2.St} {G : Prop} (h1 : (∀ H2 le' ls, A H2 le' ls → N σ0 H2) → G) (h2 : ∀ H2 le' ls, A H2 le' ls → N σ0 H2) : G := h1 h2
/-- .. with the list of cells told -/
def MdC (H : Hp) (md le ca : Addr) (n at_ : Nat) : Prop := ∃ (bs ls : List Int), H md = some (.dK [(.inr "cells", .ref ca), (.inr "left", .ref le), (.inr "at", .int (at_ : Nat))]) ∧ H ca = some (.lst (bs.map V.int)) ∧ H le = some (.lst (ls.map V.int)) ∧ ca ≠ le ∧ bs.length ≤ n ∧ ls.length ≤ n ∧ (∀ z ∈ ls, (0 : Int) ≤ z)
theorem MdC.md {H : Hp} {md le ca : Addr} {n at_ : Nat} (h : MdC H md le ca n at_) : MdAt H md le n at_ := by
  obtain ⟨bs, ls, h⟩ := h
  exact ⟨ca, bs, ls, h⟩
theorem MdAt.mc {H : Hp} {md le : Addr} {n at_ : Nat} (h : MdAt H md le n at_) : ∃ ca, MdC H md le ca n at_ := by
  obtain ⟨ca, bs, ls, h⟩ := h
  exact ⟨ca, bs, ls, h⟩
def spNext (T : TX P K mg) : Sp := fun vs H Q _ => ∃ (md le : Addr) (many : Int) (n at_ : Nat), vs = [.ref md, .int many] ∧ MdAt H md le n at_ ∧ 1 ≤ many ∧ many < 1073741824 ∧ n < sizeLine ∧ at_ ≤ 1000000 ∧
  ∀ H' le' at' (v : Nat), RN md le le' H H' → MdAt H' md le' n at' → at' ≤ at_ + 1 → (v : Int) < many → Q (.int (v : Nat)) H'
def spNextC (T : TX P K mg) : Sp := fun vs H Q _ => ∃ (md le ca : Addr) (many : Int) (n at_ : Nat), vs = [.ref md, .int many] ∧ MdC H md le ca n at_ ∧ 1 ≤ many ∧ many < 1073741824 ∧ n < sizeLine ∧ at_ ≤ 1000000 ∧
  ∀ H' le' at' (v : Nat), RN md le le' H H' → MdC H' md le' ca n at' → at' ≤ at_ + 1 → (v : Int) < many → Q (.int (v : Nat)) H'
theorem ok_nextC (T : TX P K mg) : FnOk P w K mg base CX0 1 T.next_f T.next_d ["m", "many"] (spNextC T) := by
  refine T.next_F.ok scNext (fun vs H Q E h => ?_) (fun cdv A outer s H vs Q E hr h => ?_)
  · obtain ⟨md, le, ca, many, n, at_, rfl, _⟩ := h
    rfl
  · obtain ⟨md, le, ca, many, n, at_, rfl, hM, hm1, hm2, hn, hat, q⟩ := h
    have hu := hu_of hr
    refine ⟨_, pss_cons (ps_while PassesOwn.never (PW.pt (pw_and (pt_cmpR (op_neD (hu64 hr)) (pe_dget hu (pv 0) pe_str (fun _ _ => rfl)) (pe_lst pa_nil) (nomark _)) (pw_and1 (pt_cmpR op_eq (pe_ix ix_list (pe_dget hu (pv 0) pe_str (fun _ _ => rfl)) pe_int (fun _ _ => rfl)) pe_int (nomark _)))))
        (pss_one (ps_dput hu (pv 0) pe_str (pe_slice sl_list (pe_dget hu (pv 0) pe_str (fun _ _ => rfl)) (po_some pe_int) po_none) rfl)))
      (pss_cons (ps_if (pt_cmpR (op_neD (hu64 hr)) (pe_dget hu (pv 0) pe_str (fun _ _ => rfl)) (pe_lst pa_nil) (nomark _))
        (pss_cons (ps_set (i := 2) scNext.nd rfl (Or.inl rfl) (pe_ix ix_list (pe_dget hu (pv 0) pe_str (fun _ _ => rfl)) pe_int (fun _ _ => rfl)))
        (pss_cons (ps_asg (pe_op op_fdiv (pv 2) (pv 1)) (pg_sub (pe_dget hu (pv 0) pe_str (fun _ _ => rfl)) pe_int set_list))
        (pss_one (ps_ret (pe_op op_mod (pe_callTy call_int1 (by rfl) T.z_int (by decide +kernel) (pa_cons (pv 2) pa_nil)) (pv 1)))))) pss_nil)
      (pss_cons (ps_par (i := 3) (j := 4) rfl scNext.nd rfl rfl (by decide) rfl rfl (pa_cons (pe_op op_add (pe_dget hu (pv 0) pe_str (fun _ _ => rfl)) pe_int) (pa_cons (pe_dget hu (pv 0) pe_str (fun _ _ => rfl)) pa_nil)) rfl)
      (pss_cons (ps_dput hu (pv 0) pe_str (pv 3) rfl)
      (pss_cons (ps_set (i := 5) scNext.nd rfl (Or.inl rfl) (pe_ifExp (pt_cmpR (op_neD (hu64 hr)) (pv 4) (pe_lst pa_nil) (nomark _)) (pe_callTy call_int1 (by rfl) T.z_int (by decide +kernel) (pa_cons (pe_ix ix_list (pv 4) (pe_op op_mod (pe_callTy call_int1 (by rfl) T.z_int (by decide +kernel) (pa_cons (pe_op op_add (pe_op op_mul (pv 3) (pv 3)) (pe_op op_fdiv (pv 3) pe_int)) pa_nil)) (pe_callB call_len_seq (by rfl) T.z_len PySem.boot_len (pa_cons (pv 4) pa_nil))) (fun _ _ => rfl)) pa_nil)) pe_int))
      (pss_cons (ps_set (i := 6) scNext.nd rfl (Or.inl rfl) (pe_op op_mod (pe_callTy call_int1 (by rfl) T.z_int (by decide +kernel) (pa_cons (pe_op op_add (pe_op op_add (pe_op op_mul (pv 5) pe_int) (pe_op op_mul (pv 3) pe_int)) (pe_op op_mul (pe_op op_mul pe_int (pv 3)) (pv 3))) pa_nil)) pe_int))
      (pss_one (ps_ret (pe_op op_mod (pe_callTy call_int1 (by rfl) T.z_int (by decide +kernel) (pa_cons (pe_op op_fdiv (pe_op op_mod (pe_callTy call_int1 (by rfl) T.z_int (by decide +kernel) (pa_cons (pe_op op_add (pe_op op_mul (pv 6) pe_int) (pe_op op_mul pe_int (pv 3))) pa_nil)) pe_int) pe_int) pa_nil)) (pv 1))))))))), ?_⟩
    obtain ⟨bs, ls0, g1, g2, g3, g4, g5, g6, g7⟩ := hM
    have fin : ∀ (x : Int) (H5 : Hp) {le' : Addr} {ls : List Int}, RN md le le' H H5 → MdX H5 md ca le' bs ls (at_ + 1) → ls.length ≤ n → (∀ z ∈ ls, (0 : Int) ≤ z) → Q (.int (x % many)) H5 := fun x H5 le' ls rn5 M5 h1 h2 => by
      have e : x % many = (((x % many).toNat : Nat) : Int) := (Int.toNat_of_nonneg (Int.emod_nonneg _ (by omega))).symm
      have hlt : x % many < many := Int.emod_lt_of_pos _ (by omega)
      rw [e]
      exact q H5 le' (at_ + 1) _ rn5 ⟨bs, ls, M5.1, M5.2.1, M5.2.2.1, M5.2.2.2, g5, h1, h2⟩ (Nat.le_refl _) (by omega)
    apply split_goal (A := fun H2 le' ls => RN md le le' H H2 ∧ MdX H2 md ca le' bs ls at_ ∧ ls.length ≤ n ∧ ∀ z ∈ ls, (0 : Int) ≤ z) (σ0 := [some (.ref md), some (.int many), none, none, none, none, none])
    · intro cont
      refine ⟨fun m σ H' => ∃ (le' : Addr) (ls : List Int), m = ls.length ∧ σ = [some (.ref md), some (.int many), none, none, none, none, none] ∧ RN md le le' H H' ∧ MdX H' md ca le' bs ls at_ ∧ ls.length ≤ n ∧ ∀ z ∈ ls, (0 : Int) ≤ z, ⟨_, le, ls0, rfl, rfl, RN.refl _ _ _, ⟨g1, g2, g3, g4⟩, g6, g7⟩, ?_⟩
      rintro m0 σ0 H1 ⟨le', ls, rfl, rfl, rn, M, hls, hnn⟩
      refine ⟨_, rfl, md, .ref le', rfl, M.dg, Nat.zero_le _, fun p hp => ?_⟩
      have s1 : Same H1 (upd H1 p (.lst [])) := same_upd (Same.refl _) hp
      have M1 := M.same s1
      have rn1 := rn.ext s1
      refine ⟨lsD ls, lsD [], dp_ls (SqL.of M1.2.2.1), dp_ls (ls := []) (SqL.of upd_same), (lsD_ok _).shaped (by decide), (lsD_ok _).shaped (by decide), _, rfl, ?_⟩
      rw [lsD_eqv]
      clear hp
      generalize upd H1 p (.lst []) = H2 at M1 rn1 ⊢
      cases ls with
      | nil => exact iteF (iteF (cont H2 le' [] ⟨rn1, M1, hls, hnn⟩))
      | cons z r =>
        refine iteT ⟨_, rfl, md, .ref le', rfl, M1.dg, le', _, 0, .int z, rfl, rfl, SqL.of M1.2.2.1, at_of (j := 0) rfl rfl, rfl, _, rfl, ?_⟩
        by_cases hz : z = 0
        · refine ifT (by rw [dec_int, hz]; rfl) ?_
          refine ⟨_, fun σ' H' h => h, _, rfl, md, .ref le', rfl, M1.dg, ?_⟩
          dsimp only [tNoPart, tPart]
          refine ⟨_, rfl, le', _, rfl, SqL.of M1.2.2.1, fun p hp => ?_⟩
          rw [cut1]
          have s2 : Same H2 (upd H2 p (.lst (List.drop 1 ((z :: r).map V.int)))) := same_upd (Same.refl _) hp
          have M2 := M1.same s2
          have nmd : p ≠ md := fun e => by
            rw [e, M1.1] at hp
            cases hp
          have nca : p ≠ ca := fun e => by
            rw [e, M1.2.1] at hp
            cases hp
          have ncm : ca ≠ md := fun e => by
            have h1 := M1.1
            rw [← e, M1.2.1] at h1
            cases h1
          refine ⟨_, rfl, md, _, rfl, .inl ⟨_, .inr "left", M2.1, rfl, (by show 3 < sizeLine; decide), rfl⟩, ?_⟩
          refine ⟨r.length, by simp, p, r, rfl, rfl, ⟨fun y o n1 n2 e => ?_, ?_⟩, ⟨upd_same, ?_, ?_, nca.symm⟩, by simp at hls; omega, fun y hy => hnn y (List.mem_cons_of_mem _ hy)⟩
          · have e2 := rn1.1 y o n1 n2 e
            rw [upd_ne n1, upd_ne (ne_of_none e2 hp)]
            exact e2
          · by_cases hl : p = le
            · exact .inl hl
            · refine .inr ?_
              cases e : H p with
              | none => rfl
              | some o =>
                rw [rn1.1 p o nmd hl e] at hp
                cases hp
          · rw [upd_ne ncm, upd_ne nca.symm]
            exact M1.2.1
          · rw [upd_ne nmd, upd_same]
            rfl
        · exact ifF (by rw [dec_int]; simpa using hz) (cont H2 le' _ ⟨rn1, M1, hls, hnn⟩)
    · rintro H2 le' ls ⟨rn, M, hls, hnn⟩
      refine ⟨_, rfl, md, .ref le', rfl, M.dg, Nat.zero_le _, fun p hp => ?_⟩
      have s1 : Same H2 (upd H2 p (.lst [])) := same_upd (Same.refl _) hp
      have M1 := M.same s1
      have rn1 := rn.ext s1
      refine ⟨lsD ls, lsD [], dp_ls (SqL.of M1.2.2.1), dp_ls (ls := []) (SqL.of upd_same), (lsD_ok _).shaped (by decide), (lsD_ok _).shaped (by decide), _, rfl, ?_⟩
      rw [lsD_eqv]
      clear hp
      generalize upd H2 p (.lst []) = H3 at M1 rn1 ⊢
      have nle : le' ≠ md := fun e => by
        have h1 := M1.1
        rw [← e, M1.2.2.1] at h1
        cases h1
      have ncm : ca ≠ md := fun e => by
        have h1 := M1.1
        rw [← e, M1.2.1] at h1
        cases h1
      cases ls with
      | cons z r =>
        refine iteT ⟨_, rfl, md, _, rfl, M1.dg, le', _, 0, .int z, rfl, rfl, SqL.of M1.2.2.1, at_of (j := 0) rfl rfl, ?_⟩
        refine ⟨_, rfl, _, rfl, _, _, rfl, rfl, ⟨by omega, hm2⟩, _, rfl, md, _, rfl, M1.dg, le', _, 0, 0, rfl, rfl, M1.2.2.1, (by unfold ixN; rw [if_pos (by decide), if_pos (by rw [List.length_map, List.length_cons]; omega)]; rfl), ?_⟩
        refine ⟨_, rfl, .inl ⟨_, rfl, _, rfl, _, _, rfl, rfl, by omega, ?_⟩⟩
        have e : z % many = (((z % many).toNat : Nat) : Int) := (Int.toNat_of_nonneg (Int.emod_nonneg _ (by omega))).symm
        have hlt : z % many < many := Int.emod_lt_of_pos _ (by omega)
        show Q (.int (z % many)) _
        rw [e]
        refine q _ le' at_ _ ⟨fun y o n1 n2 e => ?_, rn1.2⟩ ⟨bs, (z / many) :: r, ?_, ?_, upd_same, M1.2.2.2, g5, hls, fun y hy => ?_⟩ (by omega) (by omega)
        · rw [upd_ne fun h => ?_]
          · exact rn1.1 y o n1 n2 e
          · rcases rn1.2 with h2 | h2
            · exact n2 (h.trans h2)
            · rw [← h, e] at h2
              cases h2
        · rw [upd_ne nle.symm]
          exact M1.1
        · rw [upd_ne M1.2.2.2]
          exact M1.2.1
        · rcases List.mem_cons.mp hy with h | h
          · rw [h]
            exact Int.ediv_nonneg (hnn z List.mem_cons_self) (by omega)
          · exact hnn y (List.mem_cons_of_mem _ h)
      | nil =>
        refine iteF ?_
        refine ⟨_, rfl, md, _, rfl, .inl ⟨_, .inr "at", .inl M1.1, rfl, (v_at _ _ _).symm⟩, _, _, rfl, rfl, _, rfl, md, _, rfl, .inl ⟨_, .inr "cells", .inl M1.1, rfl, (v_cells _ _ _).symm⟩, _, _, rfl, ?_⟩
        refine ⟨_, rfl, _, rfl, md, _, rfl, .inl ⟨_, .inr "at", M1.1, rfl, (by show 3 < sizeLine; decide), rfl⟩, ?_⟩
        have M4 : MdX (upd H3 md (.dK (putK (mdL ca le' at_) (.inr "at") (.int ((at_ : Int) + 1))))) md ca le' bs [] (at_ + 1) := ⟨upd_same, by rw [upd_ne ncm]; exact M1.2.1, by rw [upd_ne nle]; exact M1.2.2.1, M1.2.2.2⟩
        have rn4 : RN md le le' H (upd H3 md (.dK (putK (mdL ca le' at_) (.inr "at") (.int ((at_ : Int) + 1))))) := ⟨fun y o n1 n2 e => by rw [upd_ne n1]; exact rn1.1 y o n1 n2 e, rn1.2⟩
        generalize upd H3 md (.dK (putK (mdL ca le' at_) (.inr "at") (.int ((at_ : Int) + 1)))) = H4 at M4 rn4 ⊢
        refine ⟨_, rfl, Nat.zero_le _, fun p hp => ?_⟩
        have s5 : Same H4 (upd H4 p (.lst [])) := same_upd (Same.refl _) hp
        have M5 := M4.same s5
        have rn5 := rn4.ext s5
        refine ⟨lsD bs, lsD [], dp_ls (SqL.of M5.2.1), dp_ls (ls := []) (SqL.of upd_same), (lsD_ok _).shaped (by decide), (lsD_ok _).shaped (by decide), _, rfl, ?_⟩
        rw [lsD_eqv]
        clear hp
        generalize upd H4 p (.lst []) = H5 at M5 rn5 ⊢
        by_cases hb : bs = []
        · subst hb
          refine iteF ?_
          refine ⟨_, rfl, _, _, rfl, rfl, .inr ⟨by decide, by decide⟩, _, rfl, _, _, rfl, rfl, .inr ⟨by decide, by decide⟩, _, _, rfl, rfl, _, rfl, _, _, rfl, rfl, .inl ⟨by decide, by decide⟩, _, rfl, _, _, rfl, rfl, .inr ⟨by omega, by omega⟩, _, _, rfl, rfl, .inl ⟨_, rfl, _, _, rfl, rfl, (show (0 : Int) < 2147483399 by decide), ?_⟩⟩
          refine ⟨_, rfl, _, _, rfl, rfl, .inr ⟨by decide, by decide⟩, _, rfl, _, _, rfl, rfl, .inl ⟨by decide, by decide⟩, _, _, rfl, rfl, .inl ⟨_, rfl, _, _, rfl, rfl, (show (0 : Int) < 2147483647 by decide), _, _, rfl, rfl, ⟨by decide, by decide⟩, .inl ⟨_, rfl, _, rfl, _, _, rfl, rfl, by omega, ?_⟩⟩⟩
          exact fin _ _ rn5 M5 (Nat.zero_le _) (fun y hy => nomatch hy)
        · have hbe : bs.isEmpty = false := by simpa using hb
          rw [hbe]
          have hlen : 0 < bs.length := List.length_pos_iff.mpr hb
          have hl2 : (0 : Int) < (((bs.map V.int).length : Nat) : Int) := by rw [List.length_map]; omega
          obtain ⟨b0, hb0⟩ := at_int (bs := bs) (i := ((at_ : Int) + 1) * ((at_ : Int) + 1) + ((at_ : Int) + 1) / 2 |>.emod (((bs.map V.int).length : Nat) : Int)) (Int.emod_nonneg _ (by omega)) (by have := Int.emod_lt_of_pos (((at_ : Int) + 1) * ((at_ : Int) + 1) + ((at_ : Int) + 1) / 2) hl2; rw [List.length_map] at this ⊢; exact this)
          refine iteT ⟨_, rfl, _, rfl, _, rfl, _, _, rfl, rfl, .inl ⟨by omega, by omega⟩, _, rfl, _, _, rfl, rfl, ⟨by decide, by decide⟩, _, _, rfl, rfl, .inl ⟨_, rfl, _, rfl, ca, _, rfl, .inl (SqL.of M5.2.1), _, _, rfl, rfl, hl2, ca, _, _, .int b0, rfl, rfl, SqL.of M5.2.1, hb0, .inl ⟨_, rfl, ?_⟩⟩⟩
          refine ⟨_, rfl, _, _, rfl, rfl, .inr ⟨by decide, by decide⟩, _, rfl, _, _, rfl, rfl, .inr ⟨by decide, by decide⟩, _, _, rfl, rfl, _, rfl, _, _, rfl, rfl, .inl ⟨by decide, by decide⟩, _, rfl, _, _, rfl, rfl, .inr ⟨by omega, by omega⟩, _, _, rfl, rfl, .inl ⟨_, rfl, _, _, rfl, rfl, (show (0 : Int) < 2147483399 by decide), ?_⟩⟩
          refine ⟨_, rfl, _, _, rfl, rfl, .inr ⟨by decide, by decide⟩, _, rfl, _, _, rfl, rfl, .inl ⟨by decide, by decide⟩, _, _, rfl, rfl, .inl ⟨_, rfl, _, _, rfl, rfl, (show (0 : Int) < 2147483647 by decide), _, _, rfl, rfl, ⟨by decide, by decide⟩, .inl ⟨_, rfl, _, rfl, _, _, rfl, rfl, by omega, ?_⟩⟩⟩
          exact fin _ _ rn5 M5 (Nat.zero_le _) (fun y hy => nomatch hy)
theorem ok_next (T : TX P K mg) : FnOk P w K mg base CX0 1 T.next_f T.next_d ["m", "many"] (spNext T) := (ok_nextC T).imp fun vs H Q E h => by
  obtain ⟨md, le, many, n, at_, e, hM, hm1, hm2, hn, hat, q⟩ := h
  obtain ⟨ca, hC⟩ := hM.mc
  exact ⟨md, le, ca, many, n, at_, e, hC, hm1, hm2, hn, hat, fun H' le' at' v rn m ha hv => q H' le' at' v rn m.md ha hv⟩
end
end Wm
/-! T23 -/
namespace Wm
open PySem PySem.Spec PyProof.Rows L2
theorem cut_drop (z : Str) (k : Nat) : (cutS z (some (k : Int)) none).cps.toList = z.cps.toList.drop k := by
  unfold cutS
  rw [HT.sIx_none, HT.sIx_nat]
  have hn : z.length = z.cps.toList.length := by show z.cps.size = _; simp
  by_cases h : k ≤ z.length
  · rw [Nat.min_eq_left h]
    show (List.toArray _).toList = _
    rw [List.toList_toArray]
    exact List.take_of_length_le (by rw [List.length_drop]; omega)
  · rw [Nat.min_eq_right (by omega), Nat.sub_self, List.take_zero, List.drop_eq_nil_of_le (by omega)]
theorem cut_take (z : Str) (k : Nat) : (cutS z none (some (k : Int))).cps.toList = z.cps.toList.take k := by
  unfold cutS
  rw [HT.sIx_none, HT.sIx_nat, List.drop_zero, Nat.sub_zero]
  have hn : z.length = z.cps.toList.length := by show z.cps.size = _; simp
  show (List.toArray _).toList = _
  rw [List.toList_toArray]
  by_cases h : k ≤ z.length
  · rw [Nat.min_eq_left h]
  · rw [Nat.min_eq_right (by omega), List.take_of_length_le (by omega), List.take_of_length_le (by omega)]
theorem at_nat {α : Type} {l : List α} {i : Nat} (h : i < l.length) : atI l (i : Int) = some l[i] := by
  unfold atI
  have e : ixN l.length (i : Int) = some i := by
    unfold ixN
    rw [if_pos (Int.natCast_nonneg _), if_pos (by omega)]
    rfl
  rw [e]
  show l[i]? = _
  exact List.getElem?_eq_getElem h
def Lett (x : Str) : Prop := ∀ c ∈ x.cps.toList, c ∈ letters.cps.toList
theorem let_at {v : Nat} (h : v < 26) : ∃ c, atI letters.cps.toList (v : Int) = some c ∧ c ∈ letters.cps.toList := by
  have hl : letters.cps.toList.length = 26 := by decide +kernel
  exact ⟨_, at_nat (by omega), List.getElem_mem _⟩
theorem app_len (x y : Str) : (x ++ y).length = x.length + y.length := by
  show (x.cps ++ y.cps).size = _
  rw [Array.size_append]
  rfl
theorem app_list (x y : Str) : (x ++ y).cps.toList = x.cps.toList ++ y.cps.toList := by
  show (x.cps ++ y.cps).toList = _
  simp
theorem by_at {v : Nat} (h : v < 6) : atI [V.int 1, V.int 3, V.int 5, V.int 7, V.int 9, V.int 11] (v : Int) = some (.int ((2 * v + 1 : Nat) : Int)) := by
  match v, h with
  | 0, _ => rfl
  | 1, _ => rfl
  | 2, _ => rfl
  | 3, _ => rfl
  | 4, _ => rfl
  | 5, _ => rfl
theorem nodup_by {ws : List Str} {n : Nat} {F : Nat → Str} (e : ws = (List.range n).map F) (h : ∀ i j, i < j → j < n → F i ≠ F j) : ws.Nodup := by
  subst e
  unfold List.Nodup
  rw [List.pairwise_map]
  refine List.Pairwise.imp_of_mem (fun {a b} ha hb hlt => h a b hlt (List.mem_range.mp hb)) List.pairwise_lt_range
theorem len_list (x : Str) : x.length = x.cps.toList.length := by
  show x.cps.size = _
  simp
theorem wordOk_of {x : Str} (h1 : 1 ≤ x.cps.toList.length) (h8 : x.cps.toList.length ≤ 8) (hl : Lett x) : WordOk x := ⟨by rw [len_list]; exact h1, by rw [len_list]; exact h8, hl⟩
theorem MdAt.same {H H' : Hp} {md le : Addr} {n at_ : Nat} (m : MdAt H md le n at_) (s : Same H H') : MdAt H' md le n at_ := by
  obtain ⟨ca, bs, ls, h1, h2, h3, h4⟩ := m
  exact ⟨ca, bs, ls, s _ _ h1, s _ _ h2, s _ _ h3, h4⟩
theorem MdAt.md {H : Hp} {md le : Addr} {n at_ : Nat} (m : MdAt H md le n at_) : ∃ o, H md = some o := by
  obtain ⟨ca, bs, ls, h1, _⟩ := m
  exact ⟨_, h1⟩
section
variable {P : Program} {w : World} {K : PySem.W.Frag} {mg : Str → Option Value} {base : Heap}
def spNames (T : TX P K mg) : Sp := fun vs H Q _ => ∃ (md le : Addr) (many n at_ : Nat), vs = [.ref md, .int (many : Nat)] ∧ MdAt H md le n at_ ∧ 1 ≤ many ∧ many ≤ 3 ∧ n < sizeLine ∧ at_ ≤ 900000 ∧
  ∀ H' le' at' l (ws : List Str), RN md le le' H H' → MdAt H' md le' n at' → at' ≤ at_ + 20 → H' l = some (.lst (ws.map V.str)) → ws.length = many → (∀ x ∈ ws, WordOk x) → ws.Nodup → Q (.ref l) H'
theorem ok_names (T : TX P K mg) : FnOk P w K mg base CX0 2 T.names_f T.names_d ["m", "many"] (spNames T) := by
  refine T.names_F.ok scNames (fun vs H Q E h => ?_) (fun cdv A outer s H vs Q E hr h => ?_)
  · obtain ⟨md, le, many, n, at_, rfl, _⟩ := h
    rfl
  · obtain ⟨md, le, many, n, at_, rfl, hM, hm1, hm2, hn, hat, q⟩ := h
    refine ⟨_, pss_cons (ps_asg (pe_tup (pa_cons pe_str (pa_cons pe_str pa_nil))) (pg_tup (by rfl) (pgs_cons (pg_name (i := 2) scNames.nd rfl (Or.inr rfl)) (pgs_cons (pg_name (i := 3) scNames.nd rfl (Or.inr rfl)) pgs_nil))))
      (pss_cons (ps_for PassesOwn.never rfl (pi_range1 (by rfl) T.z_range (pa_cons (pe_call (ok_next T) hr (by rfl) T.next_g T.next_F.kp T.next_b .nil pass0 (pa_cons (pv 0) (pa_cons pe_int pa_nil))) pa_nil)) (pg_name (i := 4) scNames.nd rfl (Or.inl rfl))
        (pss_one (ps_set (i := 3) scNames.nd rfl (Or.inr rfl) (pe_op op_add_str (pv 3) (pe_ix ix_str (pv 2) (pe_call (ok_next T) hr (by rfl) T.next_g T.next_F.kp T.next_b .nil pass0 (pa_cons (pv 0) (pa_cons pe_int pa_nil))) (fun _ _ => rfl))))))
      (pss_cons (ps_asg (pe_tup (pa_cons (pe_call (ok_next T) hr (by rfl) T.next_g T.next_F.kp T.next_b .nil pass0 (pa_cons (pv 0) (pa_cons (pe_op op_add (pe_callB call_len_str (by rfl) T.z_len PySem.boot_len (pa_cons (pv 3) pa_nil)) pe_int) pa_nil))) (pa_cons (pe_call (ok_next T) hr (by rfl) T.next_g T.next_F.kp T.next_b .nil pass0 (pa_cons (pv 0) (pa_cons pe_int pa_nil))) (pa_cons (pe_ix ix_list (pe_lst (pa_cons pe_int (pa_cons pe_int (pa_cons pe_int (pa_cons pe_int (pa_cons pe_int (pa_cons pe_int pa_nil))))))) (pe_call (ok_next T) hr (by rfl) T.next_g T.next_F.kp T.next_b .nil pass0 (pa_cons (pv 0) (pa_cons pe_int pa_nil))) (fun _ _ => rfl)) pa_nil)))) (pg_tup (by rfl) (pgs_cons (pg_name (i := 5) scNames.nd rfl (Or.inr rfl)) (pgs_cons (pg_name (i := 6) scNames.nd rfl (Or.inr rfl)) (pgs_cons (pg_name (i := 7) scNames.nd rfl (Or.inr rfl)) pgs_nil)))))
      (pss_cons (ps_set (i := 8) scNames.nd rfl (Or.inr rfl) (pe_slice sl_str (pe_op op_add_str (pv 3) (pe_op op_mulS8 (pe_ix ix_str (pv 2) (pv 6) (fun _ _ => rfl)) pe_int)) po_none (po_some pe_int)))
      (pss_cons (ps_if (PW.pt (pw_and (pt_cmpR op_gt (pv 7) pe_int (nomark _)) (pw_and1 (pt_cmpR op_lt (pv 1) pe_int (nomark _)))))
        (pss_one (ps_ret (pe_lc (own := [("k", 4)]) (g := gName 4) (tt := tYes) rfl scNames.nd (pi_range1 (by rfl) T.z_range (pa_cons (pv 1) pa_nil)) (blkOk_by (N := ["m", "many", "letters", "stem", "k", "at", "first", "by", "word"]) (sc := defScope sNames) (by decide +kernel)) (fun _ _ _ _ _ => pg_name (i := 4) scNames.nd rfl (Or.inl rfl)) (fun _ _ _ _ _ => pts_nil) (fun _ _ _ _ _ => (pe_ifExp (pt_cmpR op_gt (pv 7) pe_int (nomark _)) (pe_slice sl_str (pv 8) (po_some (pv 4)) po_none) (pe_slice sl_str (pv 8) po_none (po_some (pe_op op_sub (pe_op op_add (pv 4) pe_int) (pv 1))))))))) pss_nil)
      (pss_one (ps_ret (pe_lc (own := [("k", 4)]) (g := gName 4) (tt := tYes) rfl scNames.nd (pi_range1 (by rfl) T.z_range (pa_cons (pv 1) pa_nil)) (blkOk_by (N := ["m", "many", "letters", "stem", "k", "at", "first", "by", "word"]) (sc := defScope sNames) (by decide +kernel)) (fun _ _ _ _ _ => pg_name (i := 4) scNames.nd rfl (Or.inl rfl)) (fun _ _ _ _ _ => pts_nil) (fun _ _ _ _ _ => (pe_op op_add_str (pe_op op_add_str (pe_slice sl_str (pv 3) po_none (po_some (pv 5))) (pe_ix ix_str (pv 2) (pe_op op_mod (pe_callTy call_int1 (by rfl) T.z_int (by decide +kernel) (pa_cons (pe_op op_add (pv 6) (pe_op op_mul (pv 7) (pv 4))) pa_nil)) pe_int) (fun _ _ => rfl))) (pe_slice sl_str (pv 3) (po_some (pv 5)) po_none)))))))))), ?_⟩
    refine ⟨(by show 2 ≤ sizeLine; decide), fun t ht => ⟨t, _, rfl, SqT.of upd_same, rfl, _, _, rfl, _, _, rfl, rfl, ?_⟩⟩
    have s1 := same_upd (o := .tup [V.str "abcdefghijklmnopqrstuvwxyz", V.str ""]) (Same.refl H) ht
    have rnA : RN md le le H _ := (RN.refl md le H).ext s1
    refine ⟨_, rfl, md, le, 8, n, at_, rfl, hM.same s1, by decide, by decide, hn, by omega, fun H1 le1 at1 v1 rn1 M1 ha1 hv1 => ?_⟩
    have rn01 := rnA.trans (hM.same s1).md rn1
    refine ⟨_, rfl, by omega, by omega, for_it (walk_range (lo := 0) (n := v1)) (fun i σ H' => ∃ (le' : Addr) (at' : Nat) (x : Str) (kv : Option V), RN md le le' H H' ∧ MdAt H' md le' n at' ∧ at' ≤ at_ + 1 + i ∧ x.length ≤ i ∧ Lett x ∧ σ = [some (.ref md), some (.int (many : Nat)), some (.str letters), some (.str x), kv, none, none, none, none])
      ⟨le1, at1, Str.empty, none, rn01, M1, by omega, Nat.le_refl 0, (fun c hc => nomatch hc), rfl⟩ (fun _ _ _ _ _ => trivial) ?_ ?_⟩
    · rintro i v σ H2 H3 hi ⟨le2, at2, x, kv, rn2, M2, ha2, hx, hlx, rfl⟩ y
      obtain ⟨rfl, rfl⟩ := y
      refine ⟨_, rfl, _, rfl, _, rfl, md, le2, 26, n, at2, rfl, M2, by decide, by decide, hn, by omega, fun H4 le4 at4 v4 rn4 M4 ha4 hv4 => ?_⟩
      obtain ⟨c, hc1, hc2⟩ := let_at (v := v4) (by omega)
      refine ⟨letters, _, c, rfl, rfl, by decide +kernel, hc1, x, ⟨#[c]⟩, rfl, rfl, ?_, le4, at4, x ++ ⟨#[c]⟩, _, rn2.trans M2.md rn4, M4, by omega, ?_, ?_, rfl⟩
      · show x.length + 1 ≤ sizeLine
        have : 8 ≤ sizeLine := by decide
        omega
      · rw [app_len]
        show x.length + 1 ≤ i + 1
        omega
      · intro c' hc'
        rw [app_list] at hc'
        rcases List.mem_append.mp hc' with h | h
        · exact hlx c' h
        · rw [List.mem_singleton.mp h]
          exact hc2
    · rintro σ H2 ⟨le2, at2, x, kv, rn2, M2, ha2, hx, hlx, rfl⟩
      have hx8 : x.length ≤ 7 := by omega
      have hs7 : 100 ≤ sizeLine := by decide
      refine ⟨_, rfl, _, rfl, x, rfl, by omega, _, _, rfl, rfl, md, le2, _, n, at2, rfl, M2, by omega, by omega, hn, by omega, fun H3 le3 at3 va rn3 M3 ha3 hva => ?_⟩
      refine ⟨_, rfl, md, le3, 26, n, at3, rfl, M3, by decide, by decide, hn, by omega, fun H4 le4 at4 vf rn4 M4 ha4 hvf => ?_⟩
      refine ⟨(by show 6 ≤ sizeLine; decide), fun p hp => ?_⟩
      have s4 : Same H4 (upd H4 p (.lst [.int 1, .int 3, .int 5, .int 7, .int 9, .int 11])) := same_upd (Same.refl _) hp
      refine ⟨_, rfl, md, le4, 6, n, at4, rfl, M4.same s4, by decide, by decide, hn, by omega, fun H5 le5 at5 vb rn5 M5 ha5 hvb => ?_⟩
      have rn05 : RN md le le5 H H5 := ((rn2.trans M2.md rn3).trans M3.md rn4 |>.ext s4).trans (M4.same s4).md rn5
      have hp5 : H5 p = some (.lst [.int 1, .int 3, .int 5, .int 7, .int 9, .int 11]) := by
        refine rn5.1 p _ (fun e => ?_) (fun e => ?_) upd_same
        · obtain ⟨o, h⟩ := M4.md
          rw [e, h] at hp
          cases hp
        · obtain ⟨ca, bs, ls, _, _, h3, _⟩ := M4
          rw [e, h3] at hp
          cases hp
      refine ⟨p, _, _, _, rfl, rfl, SqL.of hp5, by_at (v := vb) (by omega), (by show 3 ≤ sizeLine; decide), fun tp htp => ⟨tp, _, rfl, SqT.of upd_same, rfl, _, _, rfl, _, _, rfl, _, _, rfl, rfl, ?_⟩⟩
      have s5 : Same H5 (upd H5 tp (.tup [.int (va : Nat), .int (vf : Nat), .int ((2 * vb + 1 : Nat) : Int)])) := same_upd (Same.refl _) htp
      have M6 := M5.same s5
      have rn6 := rn05.ext s5
      generalize upd H5 tp (.tup [.int (va : Nat), .int (vf : Nat), .int ((2 * vb + 1 : Nat) : Int)]) = H6 at M6 rn6 ⊢
      obtain ⟨cf, hcf1, hcf2⟩ := let_at (v := vf) (by omega)
      refine ⟨_, rfl, _, rfl, _, rfl, letters, _, cf, rfl, rfl, by decide +kernel, hcf1, cf, rfl, rfl, x, ⟨#[cf, cf, cf, cf, cf, cf, cf, cf]⟩, rfl, rfl, ?_, ?_⟩
      · show x.length + 8 ≤ sizeLine
        omega
      dsimp only [tNoPart, tPart]
      refine ⟨_, rfl, _, rfl, ?_, ?_⟩
      · rw [app_len]
        show x.length + 8 ≤ sizeLine
        omega
      have hwl := cut_take (x ++ (⟨#[cf, cf, cf, cf, cf, cf, cf, cf]⟩ : Str)) 8
      rw [app_list] at hwl
      generalize hw : cutS (x ++ (⟨#[cf, cf, cf, cf, cf, cf, cf, cf]⟩ : Str)) none (some 8) = wd
      have hwl2 : wd.cps.toList = (x.cps.toList ++ [cf, cf, cf, cf, cf, cf, cf, cf]).take 8 := by
        rw [← hw]
        exact hwl
      have hw8 : wd.cps.toList.length = 8 := by
        rw [hwl2, List.length_take, List.length_append]
        simp
      have hwL : Lett wd := fun c hc => by
        rw [hwl2] at hc
        rcases List.mem_append.mp (List.mem_of_mem_take hc) with h | h
        · exact hlx c h
        · have : c = cf := by simpa using h
          rw [this]
          exact hcf2
      clear hw hwl hwl2
      have hwlen : wd.length = 8 := by rw [← hw8]; show wd.cps.size = _; simp
      refine ⟨_, rfl, _, _, rfl, rfl, _, rfl, ?_⟩
      by_cases hb : (5 : Int) < ((2 * vb + 1 : Nat) : Int)
      · refine ifT (decide_eq_true hb) ⟨_, rfl, _, _, rfl, rfl, _, rfl, ifT (decide_eq_true (by omega)) ?_⟩
        refine ⟨_, rfl, _, rfl, by omega, by omega, fun D new => ?_⟩
        have hms : many < sizeLine := by omega
        refine lc_map (walk_range (lo := 0) (n := many)) (fun _ _ _ q => q) (fun i => V.str (if (7 : Int) < ((2 * vb + 1 : Nat) : Int) then cutS wd (some ((i : Nat) : Int)) none else cutS wd none (some ((i + 9 - many : Nat) : Int)))) trivial new hms (fun i v H7 H8 Pk hi s7 _ y hP => ?_) (fun H7 s7 h7 => ?_)
        · obtain ⟨rfl, rfl⟩ := y
          refine ⟨rfl, _, rfl, _, _, rfl, rfl, _, rfl, ?_⟩
          by_cases h7 : (7 : Int) < ((2 * vb + 1 : Nat) : Int)
          · refine ifT (decide_eq_true h7) ⟨_, rfl, ?_⟩
            dsimp only [tNoPart, tPart]
            have e0 : (0 : Int) + ((i : Nat) : Int) = ((i : Nat) : Int) := by omega
            refine ⟨_, rfl, _, rfl, wd, rfl, by omega, ?_⟩
            have := hP _ (Same.refl _)
            rw [if_pos h7] at this
            rw [e0]
            exact this
          · refine ifF (decide_eq_false h7) ⟨_, rfl, ?_⟩
            dsimp only [tNoPart, tPart]
            have e0 : ((0 : Int) + ((i : Nat) : Int)) + 9 - ((many : Nat) : Int) = ((i + 9 - many : Nat) : Int) := by omega
            refine ⟨_, rfl, _, _, rfl, rfl, _, rfl, _, _, rfl, rfl, _, rfl, wd, rfl, by omega, ?_⟩
            have := hP _ (Same.refl _)
            rw [if_neg h7] at this
            rw [e0]
            exact this
        · refine q H7 le5 at5 D ((List.range many).map fun i => if (7 : Int) < ((2 * vb + 1 : Nat) : Int) then cutS wd (some ((i : Nat) : Int)) none else cutS wd none (some ((i + 9 - many : Nat) : Int))) (rn6.ext s7) (M6.same s7) (by omega) (by rw [h7, List.map_map]; rfl) (by simp) (fun y hy => ?_) (nodup_by rfl fun i j hij hj => ?_)
          · obtain ⟨i, hi, rfl⟩ := List.mem_map.mp hy
            have hi' := List.mem_range.mp hi
            by_cases h7 : (7 : Int) < ((2 * vb + 1 : Nat) : Int)
            · rw [if_pos h7]
              have e := cut_drop wd i
              refine wordOk_of (by rw [e, List.length_drop]; omega) (by rw [e, List.length_drop]; omega) fun c hc => ?_
              rw [e] at hc
              exact hwL c (List.mem_of_mem_drop hc)
            · rw [if_neg h7]
              have e := cut_take wd (i + 9 - many)
              refine wordOk_of (by rw [e, List.length_take]; omega) (by rw [e, List.length_take]; omega) fun c hc => ?_
              rw [e] at hc
              exact hwL c (List.mem_of_mem_take hc)
          · by_cases h7 : (7 : Int) < ((2 * vb + 1 : Nat) : Int)
            · rw [if_pos h7, if_pos h7]
              intro he
              have e := congrArg (fun z : Str => z.cps.toList.length) he
              simp only [cut_drop, List.length_drop] at e
              omega
            · rw [if_neg h7, if_neg h7]
              intro he
              have e := congrArg (fun z : Str => z.cps.toList.length) he
              simp only [cut_take, List.length_take] at e
              omega
      · refine ifF (decide_eq_false hb) (iteF ?_)
        refine ⟨_, rfl, _, rfl, by omega, by omega, fun D new => ?_⟩
        have hms : many < sizeLine := by omega
        have hL : ∀ i : Nat, ∃ c, atI letters.cps.toList ((((vf : Nat) : Int) + ((2 * vb + 1 : Nat) : Int) * ((0 : Int) + ((i : Nat) : Int))) % 26) = some c ∧ c ∈ letters.cps.toList ∧ c = letters.cps.toList[((vf + (2 * vb + 1) * i) % 26)]?.getD 0 := fun i => by
          have e : (((vf : Nat) : Int) + ((2 * vb + 1 : Nat) : Int) * ((0 : Int) + ((i : Nat) : Int))) % 26 = (((vf + (2 * vb + 1) * i) % 26 : Nat) : Int) := by
            rw [Int.zero_add, Int.natCast_emod, Int.natCast_add, Int.natCast_mul]
            rfl
          have hl : letters.cps.toList.length = 26 := by decide +kernel
          have hlt : (vf + (2 * vb + 1) * i) % 26 < letters.cps.toList.length := by
            rw [hl]
            exact Nat.mod_lt _ (by decide)
          rw [e]
          exact ⟨_, at_nat hlt, List.getElem_mem _, by rw [List.getElem?_eq_getElem hlt]; rfl⟩
        refine lc_map (walk_range (lo := 0) (n := many)) (fun _ _ _ q => q) (fun i => V.str (cutS x none (some ((va : Nat) : Int)) ++ ⟨#[letters.cps.toList[((vf + (2 * vb + 1) * i) % 26)]?.getD 0]⟩ ++ cutS x (some ((va : Nat) : Int)) none)) trivial new hms (fun i v H7 H8 Pk hi s7 _ y hP => ?_) (fun H7 s7 h7 => ?_)
        · obtain ⟨rfl, rfl⟩ := y
          obtain ⟨c, hc1, hc2, hc3⟩ := hL i
          refine ⟨rfl, _, rfl, ?_⟩
          dsimp only [tNoPart, tPart]
          have hxs : x.length ≤ sizeLine := by omega
          have hct : (cutS x none (some ((va : Nat) : Int))).length ≤ x.length := cutS_length _ _ _
          have hcd : (cutS x (some ((va : Nat) : Int)) none).length ≤ x.length := cutS_length _ _ _
          refine ⟨_, rfl, _, rfl, x, rfl, hxs, _, rfl, _, rfl, _, rfl, _, rfl, _, _, rfl, rfl, .inl ⟨by omega, by omega⟩, _, _, rfl, rfl, .inl ⟨_, rfl, _, _, rfl, rfl, (show (0 : Int) < 26 by decide), letters, _, c, rfl, rfl, by decide +kernel, hc1, _, _, rfl, rfl, ?_, _, rfl, _, rfl, _, rfl, x, rfl, hxs, _, _, rfl, rfl, ?_, ?_⟩⟩
          · show (cutS x none (some ((va : Nat) : Int))).length + 1 ≤ sizeLine
            omega
          · rw [app_len]
            show (cutS x none (some ((va : Nat) : Int))).length + 1 + (cutS x (some ((va : Nat) : Int)) none).length ≤ sizeLine
            omega
          · have := hP _ (Same.refl _)
            rw [← hc3] at this
            exact this
        · refine q H7 le5 at5 D ((List.range many).map fun i => cutS x none (some ((va : Nat) : Int)) ++ ⟨#[letters.cps.toList[((vf + (2 * vb + 1) * i) % 26)]?.getD 0]⟩ ++ cutS x (some ((va : Nat) : Int)) none) (rn6.ext s7) (M6.same s7) (by omega) (by rw [h7, List.map_map]; rfl) (by simp) (fun y hy => ?_) (nodup_by rfl fun i j hij hj => ?_)
          · obtain ⟨i, hi, rfl⟩ := List.mem_map.mp hy
            obtain ⟨c, _, hc2, hc3⟩ := hL i
            rw [← hc3]
            have e : (cutS x none (some ((va : Nat) : Int)) ++ (⟨#[c]⟩ : Str) ++ cutS x (some ((va : Nat) : Int)) none).cps.toList = x.cps.toList.take va ++ [c] ++ x.cps.toList.drop va := by
              rw [app_list, app_list, cut_take, cut_drop]
            have hx9 : x.cps.toList.length ≤ 7 := by rw [← len_list]; omega
            refine wordOk_of ?_ ?_ fun c' hc' => ?_
            · rw [e, List.length_append, List.length_append, List.length_singleton]
              omega
            · rw [e, List.length_append, List.length_append, List.length_take, List.length_drop, List.length_singleton]
              omega
            · rw [e] at hc'
              rcases List.mem_append.mp hc' with h | h
              · rcases List.mem_append.mp h with h | h
                · exact hlx c' (List.mem_of_mem_take h)
                · rw [List.mem_singleton.mp h]
                  exact hc2
              · exact hlx c' (List.mem_of_mem_drop h)
          · intro he
            have e := congrArg (fun z : Str => z.cps.toList) he
            simp only [app_list, cut_take, cut_drop] at e
            have e2 := List.append_cancel_left (List.append_cancel_right e)
            have e3 : letters.cps.toList[((vf + (2 * vb + 1) * i) % 26)]?.getD 0 = letters.cps.toList[((vf + (2 * vb + 1) * j) % 26)]?.getD 0 := by
              simpa using e2
            have key : ∀ a, a < 26 → ∀ b, b < 26 → letters.cps.toList[a]?.getD 0 = letters.cps.toList[b]?.getD 0 → a = b := by decide +kernel
            have e4 := key _ (Nat.mod_lt _ (by decide)) _ (Nat.mod_lt _ (by decide)) e3
            have hvb : vb ≤ 2 := by omega
            have hvf' : vf < 26 := by omega
            have hi2 : j ≤ 2 := by omega
            have hmm : ∀ f, f < 26 → ∀ v, v < 3 → ∀ i, i < 3 → ∀ j, j < 3 → i < j → ¬ (f + (2 * v + 1) * i) % 26 = (f + (2 * v + 1) * j) % 26 := by decide +kernel
            exact hmm vf hvf' vb (by omega) i (by omega) j (by omega) hij e4
end
end Wm
/-! T24 -/
namespace Wm
open PySem PySem.Spec PyProof.Rows L2
theorem rise_from : ∀ {r : List Str} {p : Str}, risingS p r = true → (p :: r).Nodup → (p :: r).Pairwise fun x y => x.cps.toList < y.cps.toList
  | [], p, _, _ => List.pairwise_singleton _ _
  | x :: r, p, h, hn => by
    rw [risingS, Bool.and_eq_true] at h
    have hn2 := (List.nodup_cons.mp hn).2
    have ih := rise_from h.2 hn2
    have hpx : p.cps.toList < x.cps.toList := by
      have h1 : ¬ x.cps.toList < p.cps.toList := by
        have h0 := h.1
        rw [ltCps_eq] at h0
        simpa using h0
      by_cases hc : p.cps.toList < x.cps.toList
      · exact hc
      · exfalso
        have e : x.cps.toList = p.cps.toList := List.le_antisymm (List.not_lt.mp hc) (List.not_lt.mp h1)
        have e2 : p = x := by
          cases p with
          | mk pc =>
            cases x with
            | mk xc =>
              congr 1
              exact (Array.toList_inj.mp e).symm
        rw [e2] at hn
        exact (List.nodup_cons.mp hn).1 List.mem_cons_self
    refine List.pairwise_cons.mpr ⟨fun y hy => ?_, ih⟩
    rcases List.mem_cons.mp hy with e | e
    · rw [e]
      exact hpx
    · exact List.lt_trans hpx ((List.pairwise_cons.mp ih).1 y e)
theorem rise_of : ∀ {ys : List Str}, sortedS ys = true → ys.Nodup → Rise ys
  | [], _, _ => List.Pairwise.nil
  | x :: r, h, hn => rise_from h hn
section
variable {P : Program} {w : World} {K : PySem.W.Frag} {mg : Str → Option Value} {base : Heap}
def spFolk (T : TX P K mg) : Sp := fun vs H Q _ => ∃ (md le : Addr) (n at_ : Nat), vs = [.ref md, .int 3] ∧ MdAt H md le n at_ ∧ n < sizeLine ∧ at_ ≤ 800000 ∧
  ∀ H' le' at' t (ws : List Str), RN md le le' H H' → MdAt H' md le' n at' → at' ≤ at_ + 21 → SqT K H' t (ws.map V.str) → Words ws → 1 ≤ ws.length → Q (.ref t) H'
theorem ok_folk (T : TX P K mg) : FnOk P w K mg base CX0 3 T.folk_f T.folk_d ["m", "size"] (spFolk T) := by
  refine T.folk_F.ok scFolk (fun vs H Q E h => ?_) (fun cdv A outer s H vs Q E hr h => ?_)
  · obtain ⟨md, le, n, at_, rfl, _⟩ := h
    rfl
  · obtain ⟨md, le, n, at_, rfl, hM, hn, hat, q⟩ := h
    refine ⟨_, pss_one (ps_ret (pe_callTy call_tuple_of (by rfl) T.z_tuple (by decide +kernel) (pa_cons (pe_callB cr_sortedS (by rfl) T.z_sorted (by decide +kernel) (pa_cons (pe_call (ok_names T) hr (by rfl) T.names_g T.names_F.kp T.names_b .nil pass0 (pa_cons (pv 0) (pa_cons (pe_op op_add pe_int (pe_call (ok_next T) (hr.mono (by decide)) (by rfl) T.next_g T.next_F.kp T.next_b .nil pass0 (pa_cons (pv 0) (pa_cons (pv 1) pa_nil)))) pa_nil))) pa_nil)) pa_nil))), ?_⟩
    refine ⟨_, rfl, _, rfl, _, rfl, md, le, 3, n, at_, rfl, hM, by decide, by decide, hn, by omega, fun H1 le1 at1 v1 rn1 M1 ha1 hv1 => ?_⟩
    have e1 : (1 : Int) + ((v1 : Nat) : Int) = ((1 + v1 : Nat) : Int) := by omega
    refine ⟨_, _, rfl, rfl, md, le1, 1 + v1, n, at1, by show [V.ref md, V.int (1 + ((v1 : Nat) : Int))] = _; rw [e1], M1, by omega, by omega, hn, by omega, fun H2 le2 at2 l ws rn2 M2 ha2 hl hlen hok hnd => ?_⟩
    refine ⟨l, ws, rfl, SqL.of hl, by omega, fun ys p perm hs hp => ?_⟩
    have hlen2 : ys.length = ws.length := perm.length_eq
    have hnd2 : ys.Nodup := perm.nodup_iff.mpr hnd
    refine ⟨p, _, rfl, .inl ⟨SqL.of upd_same, fun t ht => ?_⟩⟩
    have s1 : Same H2 (upd H2 p (.lst (ys.map V.str))) := same_upd (Same.refl _) hp
    have s2 := same_upd (o := .tup (ys.map V.str)) s1 (s1.free ht)
    exact q _ le2 at2 t ys ((rn1.trans M1.md rn2).ext s2) (M2.same s2) (by omega) (SqT.of upd_same) ⟨fun y hy => hok y (perm.mem_iff.mp hy), rise_of hs hnd2, by omega⟩ (by omega)
end
end Wm
/-! T25a -/
namespace Wm
open PySem PySem.Spec PyProof.Rows L2 LamX NdefX
/-! ### what a draw keeps -/
/-- no list, no dict by keys -/
def bas (o : HO) : Prop := (∀ xs, o ≠ .lst xs) ∧ ∀ kvs, o ≠ .dK kvs
def Kb (H H' : Hp) : Prop := ∀ z o, H z = some o → bas o → H' z = some o
theorem Kb.refl (H : Hp) : Kb H H := fun _ _ e _ => e
theorem Kb.trans {H H1 H2 : Hp} (a : Kb H H1) (b : Kb H1 H2) : Kb H H2 := fun z o e s => b z o (a z o e s) s
theorem Kb.same {H H' : Hp} (s : Same H H') : Kb H H' := fun z o e _ => s z o e
theorem Kb.rn {H H' : Hp} {md le le' : Addr} {n at_ : Nat} (m : MdAt H md le n at_) (r : RN md le le' H H') : Kb H H' := fun z o e s => by
  obtain ⟨ca, bs, ls, h1, h2, h3, _⟩ := m
  refine r.1 z o (fun y => ?_) (fun y => ?_) e
  · rw [y, h1] at e
    exact s.2 _ (Option.some.inj e).symm
  · rw [y, h3] at e
    exact s.1 _ (Option.some.inj e).symm
theorem Kb.firm {P : Program} {K : PySem.W.Frag} {mg : Str → Option Value} {T : TX P K mg} {H H' : Hp} (k : Kb H H') : Firm T H H' := fun z o e f => k z o e (by
  rcases f with ⟨_, f⟩ | ⟨_, _, f⟩ | ⟨_, _, f⟩ | ⟨_, _, f⟩ <;> subst f <;> exact ⟨fun _ z => (by cases z), fun _ z => (by cases z)⟩)
theorem Kb.ins {H H' : Hp} (k : Kb H H') {d C dx : Addr} {fs : List (Str × V)} (h : H d = some (.ins C dx fs)) : H' d = some (.ins C dx fs) := k _ _ h ⟨fun _ z => (by cases z), fun _ z => (by cases z)⟩
theorem Kb.code {H H' : Hp} (k : Kb H H') {c P : Addr} {q : Str} (h : CodeT H c q P) : CodeT H' c q P := by
  obtain ⟨oc, e, ok, n⟩ := h
  exact ⟨oc, k _ _ e ⟨fun _ z => (by cases z), fun _ z => (by cases z)⟩, ok, n⟩
theorem Kb.tab0 {H H' : Hp} (k : Kb H H') {P : Addr} {q : Str} (h : Tab0 H P q) : Tab0 H' P q := by
  obtain ⟨ps, e, _⟩ := id h
  refine TabR.ext h ?_ fun c ⟨P2, a, b⟩ => ⟨P2, k.code a, b⟩
  rw [e]
  exact k _ _ e ⟨fun _ z => (by cases z), fun _ z => (by cases z)⟩
theorem Kb.tab1 {H H' : Hp} (k : Kb H H') {P : Addr} {q q' : Str} (h : Tab1 H P q q') : Tab1 H' P q q' := by
  obtain ⟨ps, e, _⟩ := id h
  refine TabR.ext h ?_ fun c ⟨P2, a, b, t⟩ => ⟨P2, k.code a, b, k.tab0 t⟩
  rw [e]
  exact k _ _ e ⟨fun _ z => (by cases z), fun _ z => (by cases z)⟩
end Wm
/-! T25b -/
namespace Wm
open PySem PySem.Spec PyProof.Rows L2
section
variable {P : Program} {w : World} {K : PySem.W.Frag} {mg : Str → Option Value} {base : Heap}
theorem rnd_made {H : Hp} {R : Rnd} {k : Int} (h : RndOk K H R) (hk : 50 ≤ k) : Made K H R.p R.sl R.su R.sm R.ps k 2 R.S := ⟨h.1.p_, h.1.sl_, h.1.su_, h.1.sm_, h.1.w_, h.1.w1, by omega, h.1.n1, h.1.n7, h.1.S1⟩
/-- Book(folk, [Clause(folk, slots, cap, sums)]) -/
theorem rd_book (T : TX P K mg) {H : Hp} {R : Rnd} {k : Int} {σ : L2.St} {Q : VK} {tp tsl tk tsu tp2 : TE} (hR : RndOk K H R) (hk : 50 ≤ k)
    (h1 : ∀ (H' : Hp) (Q' : VK), Same H H' → Q' (.ref R.p) H' → tp σ H' Q') (h2 : ∀ (H' : Hp) (Q' : VK), Same H H' → Q' (.ref R.p) H' → tp2 σ H' Q') (h3 : ∀ (H' : Hp) (Q' : VK), Same H H' → Q' (.ref R.sl) H' → tsl σ H' Q') (h4 : ∀ (H' : Hp) (Q' : VK), Same H H' → Q' (.int k) H' → tk σ H' Q') (h5 : ∀ (H' : Hp) (Q' : VK), Same H H' → Q' (.ref R.su) H' → tsu σ H' Q')
    (q : ∀ H' b c, Same H H' → H b = none → BkAt T H' R b c k false → Q (.ref b) H') :
    tMake T.book_C (spBookInit T) [V.ref T.et] E0 (tCons tp (tCons (tLst (tCons (tMake T.clause_C (spClauseInit K T.clause_C) [] E0 (tCons tp2 (tCons tsl (tCons tk (tCons tsu tNil))))) tNil)) tNil)) σ H Q := by
  refine h1 H _ (Same.refl H) (h2 H _ (Same.refl H) (h3 H _ (Same.refl H) (h4 H _ (Same.refl H) (h5 H _ (Same.refl H) fun c dc nc ndc ne => ?_))))
  have s1 : Same H (upd (upd H dc (.own c)) c (.ins T.clause_C dc [])) := same_upd (same_upd (Same.refl H) ndc) nc
  refine ⟨c, dc, R.p, R.sl, R.su, R.sm, R.ps, k, 2, R.S, rfl, upd_same, (rnd_made hR hk).same s1, fun H1 hc1 k1 => ⟨rfl, ?_⟩⟩
  have s2 : Same H H1 := fun z o e => k1 z o (ne_of_none e nc) (s1 z o e)
  refine ⟨(by show 1 ≤ sizeLine; decide), fun l hl => fun b db nb ndb nbe => ?_⟩
  have s3 : Same H1 (upd H1 l (.lst [.ref c])) := same_upd (Same.refl _) hl
  have s4 : Same (upd H1 l (.lst [.ref c])) (upd (upd (upd H1 l (.lst [.ref c])) db (.own b)) b (.ins T.book_C db [])) := same_upd (same_upd (Same.refl _) ndb) nb
  have s5 : Same H _ := (s2.trans s3).trans s4
  have hb0 : H b = none := by
    cases e : H b with
    | none => rfl
    | some o =>
      rw [s3 _ _ (s2 _ _ e)] at nb
      cases nb
  refine ⟨R, b, db, c, l, T.et, k, false, rfl, upd_same, Firm.rnd (T := T) (Firm.same s5) hR, ⟨⟨dc, s4 _ _ (s3 _ _ hc1)⟩, hk⟩, .inl ⟨rfl, SqL.of (s4 _ _ upd_same)⟩, T.et_ok _, fun H2 hb2 k2 => ⟨rfl, q H2 b c (fun z o e => k2 z o (ne_of_none e hb0) (s5 z o e)) hb0 hb2⟩⟩
end
end Wm
/-! T25c -/
namespace Wm
open PySem PySem.Spec PyProof.Rows L2
section
variable {P : Program} {w : World} {K : PySem.W.Frag} {mg : Str → Option Value} {base : Heap}
/-- Desk(b) -/
theorem rd_desk (T : TX P K mg) {H1 : Hp} {b : Addr} {Q : VK} (q : ∀ H' d ro, Same H1 H' → H1 d = none → DkAt T H' d b ro → RowAt K H' ro [] → Q (.ref d) H') :
    ∀ x dx, H1 x = none → H1 dx = none → dx ≠ x → spDeskInit T (.ref x :: ([.ref b] ++ [])) (upd (upd H1 dx (.own x)) x (.ins T.desk_C dx [])) (fun v H2 => v = .non ∧ Q (.ref x) H2) E0 := by
  intro d dx nd ndx ne
  have s1 : Same H1 (upd (upd H1 dx (.own d)) d (.ins T.desk_C dx [])) := same_upd (same_upd (Same.refl H1) ndx) nd
  exact ⟨d, dx, b, rfl, upd_same, fun H2 ro hd hr k => ⟨rfl, q H2 d ro (fun z o e => k z o (ne_of_none e nd) (s1 z o e)) nd hd hr⟩⟩
end
end Wm
/-! T25d -/
namespace Wm
open PySem PySem.Spec PyProof.Rows L2 LamX NdefX
section
variable {P : Program} {w : World} {K : PySem.W.Frag} {mg : Str → Option Value} {base : Heap}
/-! ### a round's things -/
/-- a desk with its book and row -/
def Ds (T : TX P K mg) (H : Hp) (d b : Addr) (am : List Int) : Prop := ∃ ro, DkAt T H d b ro ∧ RowAt K H ro am
theorem Ds.at {T : TX P K mg} {H : Hp} {d b : Addr} {am : List Int} (h : Ds T H d b am) : ∃ dx fs, H d = some (.ins T.desk_C dx fs) := by
  obtain ⟨ro, ⟨dx, h⟩, _⟩ := h
  exact ⟨dx, _, h⟩
theorem Ds.same {T : TX P K mg} {H H' : Hp} {d b : Addr} {am : List Int} (h : Ds T H d b am) (s : Same H H') : Ds T H' d b am := by
  obtain ⟨ro, ⟨dx, h⟩, r⟩ := h
  exact ⟨ro, ⟨dx, s _ _ h⟩, r.same s⟩
theorem Ds.fn {T : TX P K mg} {H H' : Hp} {d b e be : Addr} {am am' : List Int} (h : Ds T H e be am') (k : FN d H H') (n : e ≠ d) (hd : Ds T H d b am) : Ds T H' e be am' := by
  obtain ⟨ro, ⟨dx, h⟩, r⟩ := h
  obtain ⟨dx2, fs2, hd⟩ := hd.at
  exact ⟨ro, ⟨dx, k _ _ n (fun ps z => by cases z) h⟩, k.mv.row hd r⟩
theorem bk_fn {T : TX P K mg} {H H' : Hp} {d b : Addr} {am : List Int} (k : FN d H H') (hd : Ds T H d b am) {R : Rnd} {b2 c : Addr} {kc : Int} {two : Bool} (h : BkAt T H R b2 c kc two) : BkAt T H' R b2 c kc two := by
  obtain ⟨dx2, fs2, hd⟩ := hd.at
  exact k.mv.bk hd h
theorem seqT_fn {T : TX P K mg} {H H' : Hp} {d b : Addr} {am : List Int} (k : FN d H H') (hd : Ds T H d b am) {a : Addr} {xs : List V} (h : SqT K H a xs) : SqT K H' a xs := by
  obtain ⟨dx2, fs2, hd⟩ := hd.at
  exact k.mv.seqT hd h
theorem seqL_fn {T : TX P K mg} {H H' : Hp} {d b : Addr} {am : List Int} (k : FN d H H') (hd : Ds T H d b am) {a : Addr} {xs : List V} (h : SqL K H a xs) : SqL K H' a xs := by
  obtain ⟨dx2, fs2, hd⟩ := hd.at
  exact k.mv.seqL hd h
theorem MdAt.fn {T : TX P K mg} {H H' : Hp} {d b : Addr} {am : List Int} (k : FN d H H') (hd : Ds T H d b am) {md le : Addr} {n at_ : Nat} (h : MdAt H md le n at_) : MdAt H' md le n at_ := by
  obtain ⟨dx2, fs2, hd⟩ := hd.at
  obtain ⟨ca, bs, ls, h1, h2, h3, h4⟩ := h
  refine ⟨ca, bs, ls, k _ _ (ne_of h1 hd (by intro z; cases z)) (fun ps z => by cases z) h1, k _ _ (ne_of h2 hd (by intro z; cases z)) (fun ps z => by cases z) h2, k _ _ (ne_of h3 hd (by intro z; cases z)) (fun ps z => by cases z) h3, h4⟩
/-- the round's state but the desks: the two books alike, a lot of one -/
structure Rb (T : TX P K mg) (Pt : Addr) (H : Hp) (R : Rnd) (md le : Addr) (n at_ : Nat) (own c1 b2 c2 lot : Addr) (kc : Int) (x : Str) : Prop where
  M : MdAt H md le n at_
  tb : Tab1 H Pt q1 q2
  k1 : BkAt T H R own c1 kc false
  k2 : BkAt T H R b2 c2 kc false
  lot : SqT K H lot [.str x]
  px : x ∈ R.ps
theorem Rb.same {T : TX P K mg} {Pt : Addr} {H H' : Hp} {R : Rnd} {md le : Addr} {n at_ : Nat} {own c1 b2 c2 lot : Addr} {kc : Int} {x : Str} (h : Rb T Pt H R md le n at_ own c1 b2 c2 lot kc x) (s : Same H H') : Rb T Pt H' R md le n at_ own c1 b2 c2 lot kc x :=
  ⟨h.M.same s, (Ncm.same s).tab1 h.tb, (Firm.same s).bk h.k1, (Firm.same s).bk h.k2, same_seqT s h.lot, h.px⟩
theorem Rb.fn {T : TX P K mg} {Pt : Addr} {H H' : Hp} {R : Rnd} {md le : Addr} {n at_ : Nat} {own c1 b2 c2 lot : Addr} {kc : Int} {x : Str} (h : Rb T Pt H R md le n at_ own c1 b2 c2 lot kc x) {d b : Addr} {am : List Int} (k : FN d H H') (hd : Ds T H d b am) (tb : Tab1 H' Pt q1 q2) : Rb T Pt H' R md le n at_ own c1 b2 c2 lot kc x :=
  ⟨h.M.fn k hd, tb, bk_fn k hd h.k1, bk_fn k hd h.k2, seqT_fn k hd h.lot, h.px⟩
theorem tab_fn {T : TX P K mg} {Pt : Addr} {H H' : Hp} {d b : Addr} {am : List Int} (hd : Ds T H d b am) (k : ∀ z o, z ≠ d → H z = some o → H' z = some o) (h : Tab1 H Pt q1 q2) : Tab1 H' Pt q1 q2 := by
  obtain ⟨dx2, fs2, hd⟩ := hd.at
  exact tab1_but hd k h
/-- led through amounts -/
theorem rd_led {T : TX P K mg} {H : Hp} {R : Rnd} {d b c lot l : Addr} {kc : Int} {two : Bool} {am ms : List Int} {x : Str} {Q : VK} {E : XK} (hd : Ds T H d b am) (hb : BkAt T H R b c kc two) (hm : AmOk (am ++ ms)) (hl : SqT K H lot [.str x]) (hx : x ∈ R.ps) (hms : SqL K H l (ms.map V.int))
    (q : ∀ H', Ds T H' d b (am ++ ms) → (∀ z o, z ≠ d → H z = some o → H' z = some o) → Q (.ref d) H') : spLed T [.ref d, .ref lot, .ref l] H Q E := by
  obtain ⟨ro, dk, row⟩ := hd
  exact ⟨R, d, b, c, ro, lot, l, kc, two, am, ms, x, rfl, dk, hb, row, hm, hl, hx, hms, fun H' ro' dk' row' k => q H' ⟨ro', dk', row'⟩ k⟩
theorem rd_undo {T : TX P K mg} {H : Hp} {d b : Addr} {am : List Int} {k : Nat} {Q : VK} {E : XK} (hd : Ds T H d b am) (h1 : 1 ≤ k) (h2 : k ≤ am.length)
    (q : ∀ H', Ds T H' d b (am.take (am.length - k)) → (∀ z o, z ≠ d → H z = some o → H' z = some o) → Q .non H') : spUndo T [.ref d, .int (k : Nat)] H Q E := by
  obtain ⟨ro, dk, row⟩ := hd
  exact ⟨d, b, ro, am, k, rfl, dk, row, h1, h2, fun H' ro' dk' row' k => q H' ⟨ro', dk', row'⟩ k⟩
/-- d == e, two desks -/
theorem rd_eq {T : TX P K mg} {H : Hp} {R : Rnd} {d b c e be ce : Addr} {k ke : Int} {two : Bool} {am ae : List Int} {Q : VK} (hd : Ds T H d b am) (he : Ds T H e be ae) (bd : BkAt T H R b c k two) (bb : BkAt T H R be ce ke false)
    (q : ∀ H', Same H H' → Q (.bl (decide (k = ke) && !two && decide (am = ae))) H') : rEqI K T.desk_C (fun vs H Q E => spDeskEq T (vs ++ []) H Q E) E0 (.ref d) (.ref e) H Q := by
  obtain ⟨ro, ⟨dx, h1⟩, row⟩ := hd
  obtain ⟨ro2, ⟨dx2, h2⟩, row2⟩ := he
  exact ⟨d, dx, _, .ref T.desk_C, rfl, h1, tyx_desk T h2, by simp [PySem.W.notFirst], .inr ⟨R, d, b, c, ro, e, be, ce, ro2, k, ke, two, am, ae, rfl, ⟨dx, h1⟩, ⟨dx2, h2⟩, bd, bb, row, row2, q⟩⟩
/-- d != e, two desks -/
theorem rd_ne {T : TX P K mg} {H : Hp} {R : Rnd} {d b c e be ce : Addr} {k ke : Int} {two : Bool} {am ae : List Int} {Q : VK} (hd : Ds T H d b am) (he : Ds T H e be ae) (bd : BkAt T H R b c k two) (bb : BkAt T H R be ce ke false)
    (q : ∀ H', Same H H' → Q (.bl (!(decide (k = ke) && !two && decide (am = ae)))) H') : rNeI T.desk_C (fun vs H Q E => spDeskEq T (vs ++ []) H Q E) E0 (.ref d) (.ref e) H Q := by
  obtain ⟨ro, ⟨dx, h1⟩, row⟩ := hd
  obtain ⟨ro2, ⟨dx2, h2⟩, row2⟩ := he
  exact ⟨d, dx, _, e, dx2, _, rfl, rfl, h1, h2, .inr ⟨R, d, b, c, ro, e, be, ce, ro2, k, ke, two, am, ae, rfl, ⟨dx, h1⟩, ⟨dx2, h2⟩, bd, bb, row, row2, fun H' s => ⟨_, rfl, q H' s⟩⟩⟩
/-- d == y, y no desk -/
theorem rd_eqO {T : TX P K mg} {H : Hp} {d b : Addr} {am : List Int} {y : V} {t : Value} {Q : VK} (hd : Ds T H d b am) (ty : TyX K H y t) (hk : PySem.W.kitOne K t (.ref T.desk_C) = some false) (hf : PySem.W.notFirst K T.desk_C t = true) (q : Q (.bl false) H) :
    rEqI K T.desk_C (fun vs H Q E => spDeskEq T (vs ++ []) H Q E) E0 (.ref d) y H Q := by
  obtain ⟨ro, ⟨dx, h1⟩, row⟩ := hd
  exact ⟨d, dx, _, t, rfl, h1, ty, hf, .inl ⟨d, b, ro, y, t, rfl, ⟨dx, h1⟩, ty, hk, q⟩⟩
/-- the trial of the law -/
theorem rd_tr {T : TX P K mg} {Pt : Addr} {H : Hp} {R : Rnd} {d b c lot so mo : Addr} {kc : Int} {two : Bool} {am ms ns : List Int} {x : Str} {Q : VK} {E : XK} (hd : Ds T H d b am) (hb : BkAt T H R b c kc two) (tb : Tab1 H Pt q1 q2) (hm : AmOk ((am ++ ms) ++ ns)) (hl : SqT K H lot [.str x]) (hx : x ∈ R.ps)
    (hso : SqL K H so (ms.map V.int)) (hmo : SqL K H mo (ns.map V.int)) (q : ∀ H', Ds T H' d b am → FN d H H' → Tab1 H' Pt q1 q2 → Q (.bl true) H') : spTR T Pt [.ref d, .ref lot, .ref so, .ref mo] H Q E := by
  obtain ⟨ro, dk, row⟩ := hd
  obtain ⟨dx, h1⟩ := id dk
  exact ⟨R, d, b, c, ro, lot, so, mo, kc, two, am, ms, ns, x, rfl, tb, ⟨dk, hb, row, hl, hx⟩, hm, hso, hmo, fun H' dk' k tb' => q H' ⟨ro, dk', k.mv.row h1 row⟩ k tb'⟩
end
end Wm
/-! T25e -/
namespace Wm
open PySem PySem.Spec PyProof.Rows L2 LamX NdefX
section
variable {P : Program} {w : World} {K : PySem.W.Frag} {mg : Str → Option Value} {base : Heap}
theorem cutV_take (xs : List V) (k : Nat) : cutV xs none (some (k : Int)) = xs.take k := by
  unfold cutV
  rw [HT.sIx_none, HT.sIx_nat, List.drop_zero, Nat.sub_zero]
  by_cases h : k ≤ xs.length
  · rw [Nat.min_eq_left h]
  · rw [Nat.min_eq_right (by omega), List.take_of_length_le (Nat.le_refl _), List.take_of_length_le (by omega)]
theorem cutV_drop (xs : List V) (k : Nat) (hk : k ≤ xs.length) : cutV xs (some (k : Int)) none = xs.drop k := by
  unfold cutV
  rw [HT.sIx_none, HT.sIx_nat, Nat.min_eq_left hk]
  exact List.take_of_length_le (by rw [List.length_drop]; omega)
theorem cutV_mid (xs : List V) (i j : Nat) (hi : i ≤ xs.length) (hj : j ≤ xs.length) : cutV xs (some (i : Int)) (some (j : Int)) = (xs.drop i).take (j - i) := by
  unfold cutV
  rw [HT.sIx_nat, HT.sIx_nat, Nat.min_eq_left hi, Nat.min_eq_left hj]
/-- folk[:1] -/
theorem sl_one {H : Hp} {a : Addr} {x : Str} {ws : List Str} {Q : VK} (h : SqT K H a ((x :: ws).map V.str)) (q : ∀ p H', Same H H' → SqT K H' p [.str x] → Q (.ref p) H') : rSlA K (.ref a) none (some 1) H Q := by
  refine ⟨a, _, rfl, h, fun e => ?_, fun _ p hp => ?_⟩
  · have e1 : HT.sIx ((x :: ws).map V.str).length ((x :: ws).map V.str).length (some 1) = min 1 ((x :: ws).map V.str).length := HT.sIx_nat _ _ 1
    have e2 := e1.symm.trans e.2
    have : ws = [] := by
      cases ws with
      | nil => rfl
      | cons y r =>
        exfalso
        simp at e2
    subst this
    exact q a H (Same.refl H) h
  · refine q p _ (same_upd (Same.refl H) hp) ?_
    have e1 : cutV ((x :: ws).map V.str) none (some 1) = ((x :: ws).map V.str).take 1 := cutV_take _ 1
    rw [e1]
    exact SqT.of upd_same
/-- the amounts' slices -/
theorem sl_ints {H : Hp} {a : Addr} {ns ms : List Int} {lo hi : Option Int} {Q : VK} (h : H a = some (.lst (ns.map V.int))) (e : cutV (ns.map V.int) lo hi = ms.map V.int) (q : ∀ p H', Same H H' → H' p = some (.lst (ms.map V.int)) → Q (.ref p) H') : rSlL K (.ref a) lo hi H Q :=
  ⟨a, _, rfl, SqL.of h, fun p hp => q p _ (same_upd (Same.refl H) hp) (by rw [e]; exact upd_same)⟩
theorem cut_k (ns : List Int) (k : Nat) : cutV (ns.map V.int) none (some (k : Int)) = (ns.take k).map V.int := by rw [cutV_take, List.map_take]
theorem cut_46 (ns : List Int) (h : ns.length = 8) : cutV (ns.map V.int) (some 4) (some 6) = ((ns.drop 4).take 2).map V.int := by
  rw [List.map_take, List.map_drop]
  exact cutV_mid _ 4 6 (by rw [List.length_map]; omega) (by rw [List.length_map]; omega)
theorem cut_6 (ns : List Int) (h : ns.length = 8) : cutV (ns.map V.int) (some 6) none = (ns.drop 6).map V.int := by
  rw [List.map_drop]
  exact cutV_drop _ 6 (by rw [List.length_map]; omega)
theorem amOk_of {ns : List Int} (h : ∀ m ∈ ns, 1 ≤ m ∧ m ≤ 50) {l : List Int} (hl : ∀ m ∈ l, m ∈ ns) (hn : l.length ≤ 12) : AmOk l := ⟨fun m hm => h m (hl m hm), hn⟩
theorem amOk_snoc {l : List Int} {m : Int} (h : AmOk l) (hl : l.length ≤ 11) (h1 : 1 ≤ m) (h2 : m ≤ 50) : AmOk (l ++ [m]) := ⟨fun y hy => by
  rcases List.mem_append.mp hy with z | z
  · exact h.1 y z
  · rw [List.mem_singleton.mp z]; exact ⟨h1, h2⟩, by rw [List.length_append]; show l.length + 1 ≤ 12; omega⟩
theorem dk_ne {T : TX P K mg} {H : Hp} {d b e : Addr} {am : List Int} (h : Ds T H d b am) (n : H e = none) : e ≠ d := fun z => by
  obtain ⟨dx, fs, h⟩ := h.at
  rw [z, h] at n
  cases n
theorem Ds.kb {T : TX P K mg} {H H' : Hp} {d b : Addr} {am : List Int} (h : Ds T H d b am) (k : Kb H H') : Ds T H' d b am := by
  obtain ⟨ro, ⟨dx, h⟩, r⟩ := h
  exact ⟨ro, ⟨dx, k.ins h⟩, (Kb.firm (T := T) k).row r⟩
/-- led(d, lot, ..) -/
theorem rd_ledE {T : TX P K mg} {σ : L2.St} {H : Hp} {td tl tp : TE} {R : Rnd} {d b c lot : Addr} {kc : Int} {two : Bool} {am ms : List Int} {x : Str} {Q : VK} (hd : Ds T H d b am) (hb : BkAt T H R b c kc two) (hm : AmOk (am ++ ms)) (hl : SqT K H lot [.str x]) (hx : x ∈ R.ps)
    (h1 : ∀ Q' : VK, Q' (.ref d) H → td σ H Q') (h2 : ∀ Q' : VK, Q' (.ref lot) H → tl σ H Q') (h3 : ∀ Q' : VK, (∀ p H', Same H H' → H' p = some (.lst (ms.map V.int)) → Q' (.ref p) H') → tp σ H Q')
    (q : ∀ H', Ds T H' d b (am ++ ms) → (∀ z o, z ≠ d → H z = some o → H' z = some o) → Q (.ref d) H') : tCall (spLed T) [] E0 (tCons td (tCons tl (tCons tp tNil))) σ H Q :=
  h1 _ (h2 _ (h3 _ fun p H' s hp => rd_led (E := E0) (hd.same s) ((Firm.same s).bk hb) hm (same_seqT s hl) hx (SqL.of hp) fun H2 d2 k => q H2 d2 fun z o n e => k z o n (s z o e)))
/-- _law_trial_right(d, lot, .., ..) -/
theorem rd_trE {T : TX P K mg} {Pt : Addr} {σ : L2.St} {H : Hp} {td tl tp tm : TE} {R : Rnd} {d b c lot : Addr} {kc : Int} {two : Bool} {am ms ns : List Int} {x : Str} {Q : VK} (hd : Ds T H d b am) (hb : BkAt T H R b c kc two) (tb : Tab1 H Pt q1 q2) (hm : AmOk ((am ++ ms) ++ ns)) (hl : SqT K H lot [.str x]) (hx : x ∈ R.ps)
    (h1 : ∀ Q' : VK, Q' (.ref d) H → td σ H Q') (h2 : ∀ Q' : VK, Q' (.ref lot) H → tl σ H Q') (h3 : ∀ Q' : VK, (∀ p H', Same H H' → H' p = some (.lst (ms.map V.int)) → Q' (.ref p) H') → tp σ H Q') (h4 : ∀ (H' : Hp) (Q' : VK), Same H H' → (∀ p H2, Same H' H2 → H2 p = some (.lst (ns.map V.int)) → Q' (.ref p) H2) → tm σ H' Q')
    (q : ∀ H', Ds T H' d b am → FN d H H' → Tab1 H' Pt q1 q2 → Q (.bl true) H') : tCall (spTR T Pt) [] E0 (tCons td (tCons tl (tCons tp (tCons tm tNil)))) σ H Q :=
  h1 _ (h2 _ (h3 _ fun p H' s hp => h4 _ _ s fun p2 H2 s2 hp2 => rd_tr (E := E0) (hd.same (s.trans s2)) ((Firm.same (s.trans s2)).bk hb) ((Ncm.same (s.trans s2)).tab1 tb) hm (same_seqT (s.trans s2) hl) hx (s2.seq (SqL.of hp)) (SqL.of hp2) fun H3 d3 k t3 => q H3 d3 ((FN.same (s.trans s2)).trans k) t3))
theorem rd_eqE {T : TX P K mg} {σ : L2.St} {H : Hp} {ta tb : TE} {R : Rnd} {d b c e be ce : Addr} {k ke : Int} {two : Bool} {am ae : List Int} {Q : Bool → Hp → Prop} (hd : Ds T H d b am) (he : Ds T H e be ae) (bd : BkAt T H R b c k two) (bb : BkAt T H R be ce ke false)
    (h1 : ∀ Q' : VK, Q' (.ref d) H → ta σ H Q') (h2 : ∀ Q' : VK, Q' (.ref e) H → tb σ H Q') (q : ∀ H', Same H H' → Q (decide (k = ke) && !two && decide (am = ae)) H') :
    tTest (tOp (rEqI K T.desk_C (fun vs H Q E => spDeskEq T (vs ++ []) H Q E) E0) ta tb) σ H Q := h1 _ (h2 _ (rd_eq hd he bd bb fun H' s => ⟨_, rfl, q H' s⟩))
theorem rd_neE {T : TX P K mg} {σ : L2.St} {H : Hp} {ta tb : TE} {R : Rnd} {d b c e be ce : Addr} {k ke : Int} {two : Bool} {am ae : List Int} {Q : Bool → Hp → Prop} (hd : Ds T H d b am) (he : Ds T H e be ae) (bd : BkAt T H R b c k two) (bb : BkAt T H R be ce ke false)
    (h1 : ∀ Q' : VK, Q' (.ref d) H → ta σ H Q') (h2 : ∀ Q' : VK, Q' (.ref e) H → tb σ H Q') (q : ∀ H', Same H H' → Q (!(decide (k = ke) && !two && decide (am = ae))) H') :
    tTest (tOp (rNeI T.desk_C (fun vs H Q E => spDeskEq T (vs ++ []) H Q E) E0) ta tb) σ H Q := h1 _ (h2 _ (rd_ne hd he bd bb fun H' s => ⟨_, rfl, q H' s⟩))
theorem rdForTup {K : PySem.W.Frag} {tl : TE} {g : TG} {tb : TS} {D : Ends} {σ : L2.St} {H : Hp} (h : tl σ H fun x H1 => ∃ a, x = .ref a ∧ (∃ xs, SqT K H1 a xs) ∧ ∃ W : Nat → Nat → L2.St → Hp → Prop, (∃ m, W 0 m σ H1) ∧ ∀ i m σ H, W i m σ H →
    ((Itt K a).stop i H ∧ D.nx σ H) ∨ ((Itt K a).go i H ∧ ∃ N : L2.St → Hp → Prop, (∀ σ' H', N σ' H' → ∃ m', m' < m ∧ W (i + 1) m' σ' H') ∧ ∀ x H', (Itt K a).yld i H x H' → g x σ H' fun σ2 H2 => tb { D with nx := N, ct := N, bk := D.nx } σ2 H2)) : tFor (iTup K tl) g tb D σ H := h
theorem rdNext {D : Ends} {σ : L2.St} {H : Hp} (h : D.nx σ H) : tNext D σ H := h
theorem rdDrop {te : TE} {D : Ends} {σ : L2.St} {H : Hp} (h : te σ H fun _ H' => D.nx σ H') : tDrop te D σ H := h
theorem rdNot {t : TT} {σ : L2.St} {H : Hp} {Q : Bool → Hp → Prop} (h : t σ H fun c H1 => Q (!c) H1) : tNot t σ H Q := h
theorem rdB {t : TE} {σ : L2.St} {H : Hp} {Q : Bool → Hp → Prop} (h : t σ H fun x H1 => ∃ c, x = .bl c ∧ Q c H1) : tB t σ H Q := h
theorem rdOr {t u : TT} {σ : L2.St} {H : Hp} {Q : Bool → Hp → Prop} (h : t σ H fun c H1 => if c = true then Q true H1 else u σ H1 Q) : tOr t u σ H Q := h
theorem rdUndo {T : TX P K mg} {σ : L2.St} {H : Hp} {td : TE} {dvs : List V} {ts : TA} {d b : Addr} {am : List Int} {k : Nat} {Q : VK} (hd : Ds T H d b am) (h1k : 1 ≤ k) (h2k : k ≤ am.length) (h1 : ∀ Q' : VK, Q' (.ref d) H → td σ H Q') (h2 : ∀ Q' : List V → Hp → Prop, (∀ vs, vs ++ dvs = [.int (k : Nat)] → Q' vs H) → ts σ H Q')
    (q : ∀ H', Ds T H' d b (am.take (am.length - k)) → (∀ z o, z ≠ d → H z = some o → H' z = some o) → Q .non H') : tMeth T.desk_C "undo" (spUndo T) dvs E0 td ts σ H Q := by
  obtain ⟨ro, ⟨dx, hx⟩, row⟩ := id hd
  refine h1 _ ⟨d, dx, _, rfl, hx, df_no _ _ (by decide +kernel) (by decide +kernel), h2 _ fun vs e => ?_⟩
  rw [e]
  exact rd_undo hd h1k h2k q
/-- Desk(..) -/
theorem rd_deskE (T : TX P K mg) {σ : L2.St} {H : Hp} {tb : TE} {Q : VK} (R : Addr → Hp → Prop) (h : ∀ Q' : VK, (∀ b H1, R b H1 → Q' (.ref b) H1) → tb σ H Q')
    (q : ∀ b H1, R b H1 → ∀ H' d ro, Same H1 H' → H1 d = none → DkAt T H' d b ro → RowAt K H' ro [] → Q (.ref d) H') : tMake T.desk_C (spDeskInit T) [] E0 (tCons tb tNil) σ H Q :=
  h _ fun b H1 r => rd_desk T (q b H1 r)
theorem rd_tup1 {σ : L2.St} {H : Hp} {ts : TA} {Q : VK} (h : ts σ H fun vs H1 => vs.length ≤ sizeLine ∧ ∀ p, H1 p = none → Q (.ref p) (upd H1 p (.tup vs))) : tTup ts σ H Q := h
theorem rd_cons {σ : L2.St} {H : Hp} {t : TE} {ts : TA} {Q : List V → Hp → Prop} (h : t σ H fun v H1 => ts σ H1 fun vs H2 => Q (v :: vs) H2) : tCons t ts σ H Q := h
/-- [False] * 4 -/
def f4D : PyData := .list [.bool false, .bool false, .bool false, .bool false]
theorem f4D_ok : DOk 1 f4D := DOk.lst fun d hd => by
  simp only [List.mem_cons, List.not_mem_nil, or_false, or_self] at hd
  subst hd
  exact DOk.bool 0 _
theorem f4_dp {H : Hp} {a : Addr} (h : H a = some (.lst [.bl false, .bl false, .bl false, .bl false])) : Dp K H (.ref a) f4D := .lst (SqL.of h) (.cons (.bl _) (.cons (.bl _) (.cons (.bl _) (.cons (.bl _) .nil))))
end
end Wm
/-! T25f -/
namespace Wm
open PySem PySem.Spec PyProof.Rows L2 LamX NdefX
section
variable {P : Program} {w : World} {K : PySem.W.Frag} {mg : Str → Option Value} {base : Heap}
/-- a round's whole state: live with al paid, twin with tl -/
structure Rw (T : TX P K mg) (Pt : Addr) (R : Rnd) (md le : Addr) (n at_ : Nat) (own c1 b2 c2 lot : Addr) (kc : Int) (x : Str) (live twin D : Addr) (as : List Int) (H : Hp) (al tl : List Int) : Prop where
  rb : Rb T Pt H R md le n at_ own c1 b2 c2 lot kc x
  dl : Ds T H live own al
  dt : Ds T H twin b2 tl
  has : H D = some (.lst (as.map V.int))
  ne : twin ≠ live
variable {T : TX P K mg} {Pt : Addr} {R : Rnd} {md le : Addr} {n at_ : Nat} {own c1 b2 c2 lot : Addr} {kc : Int} {x : Str} {live twin D : Addr} {as : List Int} {H H' : Hp} {al tl : List Int}
theorem Rw.same (h : Rw T Pt R md le n at_ own c1 b2 c2 lot kc x live twin D as H al tl) (s : Same H H') : Rw T Pt R md le n at_ own c1 b2 c2 lot kc x live twin D as H' al tl := ⟨h.rb.same s, h.dl.same s, h.dt.same s, s _ _ h.has, h.ne⟩
theorem lst_fn {d b : Addr} {am : List Int} {a : Addr} {xs : List V} (k : FN d H H') (hd : Ds T H d b am) (h : H a = some (.lst xs)) : H' a = some (.lst xs) := by
  obtain ⟨dx2, fs2, hd⟩ := hd.at
  exact k _ _ (ne_of h hd (by intro z; cases z)) (fun ps z => by cases z) h
theorem Rw.lF (h : Rw T Pt R md le n at_ own c1 b2 c2 lot kc x live twin D as H al tl) (k : FN live H H') (tb : Tab1 H' Pt q1 q2) {al' : List Int} (d : Ds T H' live own al') : Rw T Pt R md le n at_ own c1 b2 c2 lot kc x live twin D as H' al' tl :=
  ⟨h.rb.fn k h.dl tb, d, h.dt.fn k h.ne h.dl, lst_fn k h.dl h.has, h.ne⟩
theorem Rw.l (h : Rw T Pt R md le n at_ own c1 b2 c2 lot kc x live twin D as H al tl) (k : ∀ z o, z ≠ live → H z = some o → H' z = some o) {al' : List Int} (d : Ds T H' live own al') : Rw T Pt R md le n at_ own c1 b2 c2 lot kc x live twin D as H' al' tl :=
  h.lF (FN.of k) (tab_fn h.dl k h.rb.tb) d
theorem Rw.t (h : Rw T Pt R md le n at_ own c1 b2 c2 lot kc x live twin D as H al tl) (k : ∀ z o, z ≠ twin → H z = some o → H' z = some o) {tl' : List Int} (d : Ds T H' twin b2 tl') : Rw T Pt R md le n at_ own c1 b2 c2 lot kc x live twin D as H' al tl' :=
  ⟨h.rb.fn (FN.of k) h.dt (tab_fn h.dt k h.rb.tb), h.dl.fn (FN.of k) h.ne.symm h.dt, d, lst_fn (FN.of k) h.dt h.has, h.ne⟩
theorem Rw.o {far b : Addr} {am : List Int} (h : Rw T Pt R md le n at_ own c1 b2 c2 lot kc x live twin D as H al tl) (hf : Ds T H far b am) (n1 : live ≠ far) (n2 : twin ≠ far) (k : ∀ z o, z ≠ far → H z = some o → H' z = some o) : Rw T Pt R md le n at_ own c1 b2 c2 lot kc x live twin D as H' al tl :=
  ⟨h.rb.fn (FN.of k) hf (tab_fn hf k h.rb.tb), h.dl.fn (FN.of k) n1 hf, h.dt.fn (FN.of k) n2 hf, lst_fn (FN.of k) hf h.has, h.ne⟩
end
end Wm
/-! T25 -/
namespace Wm
open PySem PySem.Spec PyProof.Rows L2 LamX NdefX
section
variable {P : Program} {w : World} {K : PySem.W.Frag} {mg : Str → Option Value} {base : Heap}
def spLaw (T : TX P K mg) (Pt : Addr) : Sp := fun vs H Q _ => ∃ (a : Addr) (ns : List Int), vs = [.ref a] ∧ SqL K H a (ns.map V.int) ∧ ns.length < sizeLine ∧ Tab1 H Pt q1 q2 ∧ ∀ H', Q (.bl true) H'
def R4 (R : Rnd) (t sl su : Addr) : Prop := R.p = t ∧ R.sl = sl ∧ R.su = su
theorem ok_law (T : TX P K mg) {law_f cd Pt : Addr} {law_d : FuncData} (FL : Fun K "law" "law" sLaw law_f law_d) (FC : FunC K "_law_trial_right" "_law_trial_right" sTrialRight T.trialRight_f T.trialRight_d cd) (TB : LamX.TabB base mg cd Pt) : FnOk P w K mg base CX0 21 law_f law_d ["script"] (spLaw T Pt) := by
  obtain ⟨ds4, hds4, hb4⟩ := T.clauseInit_b4
  obtain ⟨ds2, hds2, hb2⟩ := T.bookInit_b2
  obtain ⟨ds0, hds0, hb0⟩ := T.deskUndo_b0
  obtain ⟨ds1, hds1, hb1⟩ := T.deskUndo_b1
  refine FL.ok scLaw (fun vs H Q E h => ?_) (fun cdv A outer s H vs Q E hr h => ?_)
  · obtain ⟨a, ns, rfl, _⟩ := h
    rfl
  · obtain ⟨a, ns, rfl, ha, hn, tb, q⟩ := h
    have TRR := ok_trialRight (w := w) T FC TB
    refine ⟨_, pss_cons (ps_set (i := 1) scLaw.nd rfl (Or.inr rfl) (pe_call (ok_begun T) (hr.mono (by decide)) (by rfl) T.begun_g T.begun_F.kp T.begun_b .nil pass0 (pa_cons (pv 0) pa_nil)))
      (pss_cons (ps_for PassesOwn.never rfl (pi_range1 (by rfl) T.z_range (pa_cons (pe_op op_add pe_int (pe_callB (call_min2 rfl) (by rfl) T.z_min (by decide +kernel) (pa_cons (pe_callB call_len_seq (by rfl) T.z_len PySem.boot_len (pa_cons (pv 0) pa_nil)) (pa_cons pe_int pa_nil)))) pa_nil)) (pg_name (i := 2) scLaw.nd rfl (Or.inl rfl))
        (pss_cons (ps_set (i := 3) scLaw.nd rfl (Or.inl rfl) (pe_call (ok_folk T) (hr.mono (by decide)) (by rfl) T.folk_g T.folk_F.kp T.folk_b .nil pass0 (pa_cons (pv 1) (pa_cons pe_int pa_nil))))
        (pss_cons (ps_par3 (i := 4) (j := 5) (l := 6) rfl scLaw.nd rfl rfl rfl rfl rfl rfl (pa_cons (pe_tup (pa_cons (pv 3) pa_nil)) (pa_cons (pe_op op_add pe_int (pe_call (ok_next T) (hr.mono (by decide)) (by rfl) T.next_g T.next_F.kp T.next_b .nil pass0 (pa_cons (pv 1) (pa_cons pe_int pa_nil)))) (pa_cons (pe_tup (pa_cons (pe_tup (pa_cons pe_int (pa_cons (pe_op op_add pe_int (pe_call (ok_next T) (hr.mono (by decide)) (by rfl) T.next_g T.next_F.kp T.next_b .nil pass0 (pa_cons (pv 1) (pa_cons pe_int pa_nil)))) pa_nil))) pa_nil)) pa_nil))) rfl)
        (pss_cons (ps_set (i := 7) scLaw.nd rfl (Or.inl rfl) (pe_make T.book_m (ok_bookInit T) (hr.mono (by decide)) (by rfl) T.book_g hb2 hds2 pass0 (pa_cons (pv 3) (pa_cons (pe_lst (pa_cons (pe_make T.clause_m (ok_clauseInit T) (hr.mono (by decide)) (by rfl) T.clause_g hb4 hds4 pass0 (pa_cons (pv 3) (pa_cons (pv 4) (pa_cons (pv 5) (pa_cons (pv 6) pa_nil))))) pa_nil)) pa_nil))))
        (pss_cons (ps_asg (pe_tup (pa_cons (pe_make T.desk_m (ok_deskInit T) (hr.mono (by decide)) (by rfl) T.desk_g T.deskInit_b .nil pass0 (pa_cons (pv 7) pa_nil)) (pa_cons (pe_make T.desk_m (ok_deskInit T) (hr.mono (by decide)) (by rfl) T.desk_g T.deskInit_b .nil pass0 (pa_cons (pe_make T.book_m (ok_bookInit T) (hr.mono (by decide)) (by rfl) T.book_g hb2 hds2 pass0 (pa_cons (pv 3) (pa_cons (pe_lst (pa_cons (pe_make T.clause_m (ok_clauseInit T) (hr.mono (by decide)) (by rfl) T.clause_g hb4 hds4 pass0 (pa_cons (pv 3) (pa_cons (pv 4) (pa_cons (pv 5) (pa_cons (pv 6) pa_nil))))) pa_nil)) pa_nil))) pa_nil)) pa_nil)))
          (pg_tup (by rfl) (pgs_cons (pg_name (i := 8) scLaw.nd rfl (Or.inr rfl)) (pgs_cons (pg_name (i := 9) scLaw.nd rfl (Or.inl rfl)) pgs_nil))))
        (pss_cons (ps_setLc (i := 10) (own := [("k", 14)]) (g := gName 14) (tt := tYes) rfl scLaw.nd rfl rfl rfl (pi_range1 (by rfl) T.z_range (pa_cons pe_int pa_nil)) (blkOk_by (N := ["script", "m", "turn", "folk", "slots", "cap", "sums", "own", "live", "twin", "amounts", "size", "lot", "far", "k", "thing"]) (sc := defScope sLaw) (by decide +kernel)) (fun _ _ _ _ _ => pg_name (i := 14) scLaw.nd rfl (Or.inl rfl)) (fun _ _ _ _ _ => pts_nil) (fun _ _ _ _ _ => (pe_op op_add pe_int (pe_call (ok_nextC T) (hr.mono (by decide)) (by rfl) T.next_g T.next_F.kp T.next_b .nil pass0 (pa_cons (pv 1) (pa_cons pe_int pa_nil))))))
        (pss_cons (ps_par (i := 11) (j := 12) rfl scLaw.nd rfl rfl (by decide) rfl rfl (pa_cons (pe_call (ok_next T) (hr.mono (by decide)) (by rfl) T.next_g T.next_F.kp T.next_b .nil pass0 (pa_cons (pv 1) (pa_cons pe_int pa_nil))) (pa_cons (pe_slice sl_tupA (pv 3) po_none (po_some pe_int)) pa_nil)) rfl)
        (pss_cons (ps_expr (pe_call (ok_led T) (hr.mono (by decide)) (by rfl) T.led_g T.led_F.kp T.led_b .nil pass0 (pa_cons (pv 8) (pa_cons (pv 12) (pa_cons (pe_slice sl_list (pv 10) po_none (po_some (pv 11))) pa_nil)))))
        (pss_cons (ps_expr (pe_call (ok_led T) (hr.mono (by decide)) (by rfl) T.led_g T.led_F.kp T.led_b .nil pass0 (pa_cons (pv 9) (pa_cons (pv 12) (pa_cons (pe_slice sl_list (pv 10) po_none (po_some (pv 11))) pa_nil)))))
        (pss_cons (ps_if (pt_not (pt_val (pe_call TRR hr (by rfl) T.trialRight_g T.trialRight_F.kp T.trialRight_b .nil pass0 (pa_cons (pv 8) (pa_cons (pv 12) (pa_cons (pe_slice sl_list (pv 10) (po_some pe_int) (po_some pe_int)) (pa_cons (pe_slice sl_list (pv 10) (po_some pe_int) po_none) pa_nil))))))) (pss_one (ps_ret pe_bl)) pss_nil)
        (pss_cons (ps_if (PW.pt (pw_or (pt_cmpR (op_neI T.desk_eq T.desk_ef T.desk_ne T.desk_cm (FnOk.raw (ok_deskEq T) T.deskEq_b .nil) (hr.mono (by decide)) pass0) (pv 8) (pv 9) (nomark _)) (pw_or1 (pt_not (pt_cmpR (op_eqI T.desk_eq T.desk_ef (FnOk.raw (ok_deskEq T) T.deskEq_b .nil) (hr.mono (by decide)) pass0) (pv 8) (pv 9) (nomark _)))))) (pss_one (ps_ret pe_bl)) pss_nil)
        (pss_cons (ps_if (pt_cmpR (op_neD (hu64 (hr.mono (by decide : 1 ≤ 20)))) (pe_lc (own := [("thing", 15)]) (g := gName 15) (tt := tYes) (te := (tOp (rEqI K T.desk_C (fun vs H Q E => spDeskEq T (vs ++ []) H Q E) E0) (tVar 8) (tVar 15))) rfl scLaw.nd (pi_tup (pe_tup (pa_cons pe_non (pa_cons pe_int (pa_cons (pv 7) (pa_cons (pe_prop (pv 8) T.desk_c T.desk_row (ok_deskRow T) (hr.mono (by decide)) T.deskRow_b .nil pass0 rfl) pa_nil)))))) (blkOk_by (N := ["script", "m", "turn", "folk", "slots", "cap", "sums", "own", "live", "twin", "amounts", "size", "lot", "far", "k", "thing"]) (sc := defScope sLaw) (by decide +kernel)) (fun _ _ _ _ _ => pg_name (i := 15) scLaw.nd rfl (Or.inl rfl)) (fun _ _ _ _ _ => pts_nil) (fun _ _ _ _ _ => (pe_cmpR (op_eqI T.desk_eq T.desk_ef (FnOk.raw (ok_deskEq T) T.deskEq_b .nil) (hr.mono (by decide)) pass0) (pv 8) (pv 15) (nomark _)))) (pe_op op_rep (pe_lst (pa_cons pe_bl pa_nil)) pe_int) (nomark _)) (pss_one (ps_ret pe_bl)) pss_nil)
        (pss_cons (ps_for PassesOwn.never rfl (pi_tup (pe_tup (pa_cons (pe_make T.desk_m (ok_deskInit T) (hr.mono (by decide)) (by rfl) T.desk_g T.deskInit_b .nil pass0 (pa_cons (pe_make T.book_m (ok_bookInit T) (hr.mono (by decide)) (by rfl) T.book_g hb2 hds2 pass0 (pa_cons (pv 3) (pa_cons (pe_lst (pa_cons (pe_make T.clause_m (ok_clauseInit T) (hr.mono (by decide)) (by rfl) T.clause_g hb4 hds4 pass0 (pa_cons (pv 3) (pa_cons (pv 4) (pa_cons (pe_op op_add (pv 5) pe_int) (pa_cons (pv 6) pa_nil))))) pa_nil)) pa_nil))) pa_nil)) (pa_cons (pe_make T.desk_m (ok_deskInit T) (hr.mono (by decide)) (by rfl) T.desk_g T.deskInit_b .nil pass0 (pa_cons (pe_meth (pv 7) T.book_c T.bookAdding_m (ok_bookAdding T) (hr.mono (by decide)) T.bookAdding_b .nil pass0 (pa_cons (pe_itI T.book_get T.book_gk T.book_gf (FnOk.raw (ok_bookGet T) T.bookGet_b .nil) (hr.mono (by decide)) pass0 (pv 7) pe_int) pa_nil)) pa_nil)) pa_nil)))) (pg_name (i := 13) scLaw.nd rfl (Or.inl rfl))
          (pss_one (ps_if (pt_cmpR (op_eqI T.desk_eq T.desk_ef (FnOk.raw (ok_deskEq T) T.deskEq_b .nil) (hr.mono (by decide)) pass0) (pe_call (ok_led T) (hr.mono (by decide)) (by rfl) T.led_g T.led_F.kp T.led_b .nil pass0 (pa_cons (pv 13) (pa_cons (pv 12) (pa_cons (pe_slice sl_list (pv 10) po_none (po_some (pv 11))) pa_nil)))) (pv 8) (nomark _)) (pss_one (ps_ret pe_bl)) pss_nil)))
        (pss_cons (ps_expr (pe_call (ok_led T) (hr.mono (by decide)) (by rfl) T.led_g T.led_F.kp T.led_b .nil pass0 (pa_cons (pv 9) (pa_cons (pv 12) (pa_cons (pe_lst (pa_cons pe_int pa_nil)) pa_nil)))))
        (pss_cons (ps_if (PW.pt (pw_or (pt_cmpR (op_eqI T.desk_eq T.desk_ef (FnOk.raw (ok_deskEq T) T.deskEq_b .nil) (hr.mono (by decide)) pass0) (pv 8) (pv 9) (nomark _)) (pw_or (pt_not (pt_cmpR (op_neI T.desk_eq T.desk_ef T.desk_ne T.desk_cm (FnOk.raw (ok_deskEq T) T.deskEq_b .nil) (hr.mono (by decide)) pass0) (pv 8) (pv 9) (nomark _))) (pw_or (pt_cmpR op_notN (pe_meth0 (pv 9) T.desk_c T.deskUndo_m (ok_deskUndo T) (hr.mono (by decide)) hb0 hds0 pass0) pe_non (nomark _)) (pw_or1 (pt_cmpR (op_neI T.desk_eq T.desk_ef T.desk_ne T.desk_cm (FnOk.raw (ok_deskEq T) T.deskEq_b .nil) (hr.mono (by decide)) pass0) (pv 8) (pv 9) (nomark _))))))) (pss_one (ps_ret pe_bl)) pss_nil)
        (pss_cons (ps_expr (pe_call (ok_led T) (hr.mono (by decide)) (by rfl) T.led_g T.led_F.kp T.led_b .nil pass0 (pa_cons (pv 8) (pa_cons (pv 12) (pa_cons (pe_lst (pa_cons pe_int pa_nil)) pa_nil)))))
        (pss_cons (ps_expr (pe_call (ok_led T) (hr.mono (by decide)) (by rfl) T.led_g T.led_F.kp T.led_b .nil pass0 (pa_cons (pv 9) (pa_cons (pv 12) (pa_cons (pe_lst (pa_cons pe_int pa_nil)) pa_nil)))))
        (pss_one (ps_if (PW.pt (pw_or (pt_cmpR (op_eqI T.desk_eq T.desk_ef (FnOk.raw (ok_deskEq T) T.deskEq_b .nil) (hr.mono (by decide)) pass0) (pv 8) (pv 9) (nomark _)) (pw_or (pt_cmpR op_ne (pe_callB (call_lenI T.desk_len T.desk_lf (FnOk.raw (ok_deskLen T) T.deskLen_b .nil) (hr.mono (by decide)) pass0) (by rfl) T.z_len PySem.boot_len (pa_cons (pv 8) pa_nil)) (pe_callB (call_lenI T.desk_len T.desk_lf (FnOk.raw (ok_deskLen T) T.deskLen_b .nil) (hr.mono (by decide)) pass0) (by rfl) T.z_len PySem.boot_len (pa_cons (pv 9) pa_nil)) (nomark _)) (pw_or (pt_cmpR op_notN (pe_meth (pv 8) T.desk_c T.deskUndo_m (ok_deskUndo T) (hr.mono (by decide)) hb1 hds1 pass0 (pa_cons (pe_op op_add (pv 11) pe_int) pa_nil)) pe_non (nomark _)) (pw_or1 (pt_cmpR (op_neI T.desk_eq T.desk_ef T.desk_ne T.desk_cm (FnOk.raw (ok_deskEq T) T.deskEq_b .nil) (hr.mono (by decide)) pass0) (pv 8) (pe_make T.desk_m (ok_deskInit T) (hr.mono (by decide)) (by rfl) T.desk_g T.deskInit_b .nil pass0 (pa_cons (pv 7) pa_nil)) (nomark _))))))) (pss_one (ps_ret pe_bl)) pss_nil)))))))))))))))))))
      (pss_one (ps_ret pe_bl))), ?_⟩
    refine ⟨_, rfl, a, ns, rfl, ha, hn, fun H1 md le s1 M1 nmd nle => ?_⟩
    obtain ⟨kk, hkk, hk10⟩ : ∃ kk : Nat, ((4 : Int) + (if (6 : Int) < (((ns.map V.int).length : Nat) : Int) then 6 else (((ns.map V.int).length : Nat) : Int))) = (kk : Int) ∧ kk ≤ 10 := by
      by_cases h6 : (6 : Int) < (((ns.map V.int).length : Nat) : Int)
      · exact ⟨10, by rw [if_pos h6]; rfl, Nat.le_refl _⟩
      · exact ⟨4 + (ns.map V.int).length, by rw [if_neg h6]; omega, by omega⟩
    refine ⟨_, rfl, a, _, rfl, .inl (s1.seq ha), _, _, rfl, _, _, rfl, rfl, (kk : Int), ?_, by omega, by omega, for_it (walk_range (lo := 0) (n := kk)) (fun i σ H' => ∃ (le' : Addr) (at' : Nat) (v2 v3 v4 v5 v6 v7 v8 v9 v10 v11 v12 v13 v14 v15 : Option V), MdAt H' md le' ns.length at' ∧ at' ≤ 100 * i ∧ Tab1 H' Pt q1 q2 ∧ σ = [some (.ref a), some (.ref md), v2, v3, v4, v5, v6, v7, v8, v9, v10, v11, v12, v13, v14, v15])
      ⟨le, 0, _, _, _, _, _, _, _, _, _, _, _, _, _, _, M1, Nat.zero_le _, (Ncm.same s1).tab1 tb, rfl⟩ (fun _ _ _ _ _ => trivial) ?_ ?_⟩
    · show [V.int (4 + _)] = [V.int (kk : Int)]
      rw [← hkk]
    · rintro i v σ H2 H3 hi ⟨le2, at2, v2, v3, v4, v5, v6, v7, v8, v9, v10, v11, v12, v13, v14, v15, M2, ha2, tb2, rfl⟩ y
      obtain ⟨rfl, rfl⟩ := y
      refine ⟨_, rfl, md, le2, ns.length, at2, rfl, M2, hn, by omega, fun H4 le4 at4 t ws rn4 M4 ha4 ht hw hw1 => ?_⟩
      refine ⟨_, rfl, (by show 1 ≤ sizeLine; decide), fun sl hsl => ?_⟩
      have s5 : Same H4 (upd H4 sl (.tup [.ref t])) := same_upd (Same.refl _) hsl
      refine ⟨_, rfl, md, le4, 9, ns.length, at4, rfl, M4.same s5, by decide, by decide, hn, by omega, fun H5 le5 at5 c5 rn5 M5 ha5 hc5 => ?_⟩
      refine ⟨_, _, rfl, rfl, _, rfl, md, le5, 9, ns.length, at5, rfl, M5, by decide, by decide, hn, by omega, fun H6 le6 at6 c6 rn6 M6 ha6 hc6 => ?_⟩
      refine ⟨_, _, rfl, rfl, (by show 2 ≤ sizeLine; decide), fun sm hsm => ⟨(by show 1 ≤ sizeLine; decide), fun su hsu => ⟨_, _, _, rfl, ?_⟩⟩⟩
      have kb46 : Kb H4 H6 := (Kb.same s5).trans ((Kb.rn (M4.same s5) rn5).trans (Kb.rn M5 rn6))
      have kb56 : Kb (upd H4 sl (.tup [.ref t])) H6 := (Kb.rn (M4.same s5) rn5).trans (Kb.rn M5 rn6)
      have s7 : Same H6 (upd H6 sm (.tup [.int 2, .int ((100 : Int) + ((c6 : Nat) : Int))])) := same_upd (Same.refl _) hsm
      have s8 : Same (upd H6 sm (.tup [.int 2, .int ((100 : Int) + ((c6 : Nat) : Int))])) (upd (upd H6 sm (.tup [.int 2, .int ((100 : Int) + ((c6 : Nat) : Int))])) su (.tup [.ref sm])) := same_upd (Same.refl _) hsu
      have s78 := s7.trans s8
      have kb48 := kb46.trans (Kb.same s78)
      have kb58 := kb56.trans (Kb.same s78)
      have hR : RndOk K (upd (upd H6 sm (.tup [.int 2, .int ((100 : Int) + ((c6 : Nat) : Int))])) su (.tup [.ref sm])) ⟨t, sl, su, sm, ws, (100 : Int) + ((c6 : Nat) : Int)⟩ :=
        ⟨⟨(Kb.firm (T := T) kb48).seqT ht, (Kb.firm (T := T) kb58).seqT (SqT.of upd_same), SqT.of upd_same, same_seqT s8 (SqT.of upd_same), hw, hw1, by decide, by decide, by decide, by show (1 : Int) ≤ 100 + ((c6 : Nat) : Int); omega⟩, by show (100 : Int) ≤ 100 + ((c6 : Nat) : Int); omega⟩
      have M8 := M6.same s78
      have kb2 := Kb.rn M2 rn4
      have tb8 := (kb2.trans kb48).tab1 tb2
      have hk : (50 : Int) ≤ 50 + ((c5 : Nat) : Int) := by omega
      dsimp only
      generalize (50 : Int) + ((c5 : Nat) : Int) = kc at hk ⊢
      generalize ((100 : Int) + ((c6 : Nat) : Int)) = S at hR M8 tb8 ⊢
      generalize upd (upd H6 sm (.tup [.int 2, .int S])) su (.tup [.ref sm]) = H8 at hR M8 tb8 ⊢
      have var : ∀ {H0 : Hp} {σ : L2.St} {i : Nat} {v : V}, σ[i]? = some (some v) → ∀ (H' : Hp) (Q' : VK), Same H0 H' → Q' v H' → tVar i σ H' Q' := fun e H' Q' _ h => ⟨_, e, h⟩
      refine rdSeq (rdAsg ?_)
      refine rd_book T hR hk (var rfl) (var rfl) (var rfl) (var rfl) (var rfl) fun H9 own c1 s9 nown hown => ?_
      refine rdName ?_
      dsimp only
      -- live, twin
      refine rdSeq (rdAsg ?_)
      refine rd_tup1 (rd_cons ?_)
      refine rd_deskE T (fun b H1 => own = b ∧ H9 = H1) (fun Q' k => ⟨_, rfl, k _ _ ⟨rfl, rfl⟩⟩) ?_
      rintro _ _ ⟨rfl, rfl⟩ H10 live roL s10 nlive hlive rlive
      refine rd_cons (rd_deskE T (fun b H1 => ∃ c, Same H10 H1 ∧ BkAt T H1 ⟨t, sl, su, sm, ws, S⟩ b c kc false) (fun Q' k => rd_book T (Firm.rnd (T := T) (Firm.same (s9.trans s10)) hR) hk (var rfl) (var rfl) (var rfl) (var rfl) (var rfl) fun H11 b2 c2 s11 nb2 hb2 => k _ _ ⟨c2, s11, hb2⟩) ?_)
      rintro b2 H11 ⟨c2, s11, hb2⟩ H12 twin roT s12 ntwin htwin rtwin
      refine ⟨(by show 2 ≤ sizeLine; decide), fun tp htp => ⟨tp, _, rfl, SqT.of upd_same, rfl, _, _, rfl, _, _, rfl, rfl, ?_⟩⟩
      have s13 : Same H12 (upd H12 tp (.tup [.ref live, .ref twin])) := same_upd (Same.refl _) htp
      have s103 := (s11.trans s12).trans s13
      have s93 := s10.trans s103
      have s83 := s9.trans s93
      have dl : Ds T (upd H12 tp (.tup [.ref live, .ref twin])) live own [] := Ds.same ⟨roL, hlive, rlive⟩ s103
      have dt : Ds T (upd H12 tp (.tup [.ref live, .ref twin])) twin b2 [] := Ds.same ⟨roT, htwin, rtwin⟩ s13
      have ntl : twin ≠ live := dk_ne (Ds.same ⟨roL, hlive, rlive⟩ s11) ntwin
      have k1 := (Firm.same (T := T) s93).bk hown
      have k2 := (Firm.same (T := T) (s12.trans s13)).bk hb2
      have M13 := M8.same s83
      have tb13 := (Ncm.same s83).tab1 tb8
      have hp13 : SqT K (upd H12 tp (.tup [.ref live, .ref twin])) t (ws.map V.str) := same_seqT s83 hR.1.p_
      have kq2 := hR.1.w1
      clear s9 s10 s11 s12 s13 s103 s93 s83 hown hlive rlive htwin rtwin hb2 nlive ntwin nown M8 tb8 htp kb2 kb48 kb58 s78 s7 s8 kb46 kb56 hsm hsu s5 M4 M5 M6 ht rn4 rn5 rn6 tb2 hsl M2
      dsimp only
      generalize upd H12 tp (.tup [.ref live, .ref twin]) = HA at dl dt k1 k2 M13 tb13 hp13 ⊢
      -- amounts
      obtain ⟨ca, C13⟩ := M13.mc
      refine rdSeq ⟨8, rfl, by decide, by decide, fun D nD => lc_it (walk_range (lo := 0) (n := 8)) (fun i H' => ∃ (le' : Addr) (at' : Nat) (as : List Int), MdC H' md le' ca ns.length at' ∧ at' ≤ at6 + i ∧ Kb HA H' ∧ H' D = some (.lst (as.map V.int)) ∧ as.length = i ∧ (∀ z ∈ as, 1 ≤ z ∧ z ≤ 50) ∧ D ≠ le' ∧ D ≠ md ∧ D ≠ ca) ?_ (fun _ _ _ _ => trivial) ?_ ?_⟩
      · have sD : Same HA (upd HA D (.lst [])) := same_upd (Same.refl _) nD
        obtain ⟨bs, ls, h1, h2, h3, h4⟩ := id C13
        exact ⟨le6, at6, [], ⟨bs, ls, sD _ _ h1, sD _ _ h2, sD _ _ h3, h4⟩, Nat.le_refl _, Kb.same sD, upd_same, rfl, (fun z hz => nomatch hz), (ne_of_none h3 nD).symm, (ne_of_none h1 nD).symm, (ne_of_none h2 nD).symm⟩
      · rintro i x H2 H3 hi ⟨le2, at2, as, M2, ha2, kb, hD, hlen, hok, n1, n2, n3⟩ y
        obtain ⟨rfl, rfl⟩ := y
        refine ⟨rfl, ?_⟩
        refine ⟨_, rfl, md, le2, ca, 50, ns.length, at2, rfl, M2, by decide, by decide, hn, by omega, fun H4 le4 at4 v4 rn4 M4 ha4 hv4 => ?_⟩
        have hD4 := rn4.1 D _ n2 n1 hD
        have n4 : D ≠ le4 := by
          rcases rn4.2 with e | e
          · rw [e]; exact n1
          · intro z
            rw [← z, hD] at e
            cases e
        obtain ⟨bs, ls, h1, h2, h3, h4⟩ := id M4
        refine ⟨_, _, rfl, rfl, _, hD4, by rw [List.length_map]; have : 100 ≤ sizeLine := by decide
                                           omega, le4, at4, as ++ [1 + ((v4 : Nat) : Int)], ⟨bs, ls, ?_, ?_, ?_, h4⟩, by omega, ?_, ?_, by rw [List.length_append]; show as.length + 1 = _; omega, ?_, n4, n2, n3⟩
        · rw [upd_ne n2.symm]; exact h1
        · rw [upd_ne n3.symm]; exact h2
        · rw [upd_ne n4.symm]; exact h3
        · intro z o e b
          rw [upd_ne (ne_of_none e nD)]
          exact kb.trans (Kb.rn M2.md rn4) z o e b
        · rw [upd_same, List.map_append]
          rfl
        · intro z hz
          rcases List.mem_append.mp hz with hz | hz
          · exact hok z hz
          · rw [List.mem_singleton.mp hz]
            omega
      rintro H15 ⟨le15, at15, as, C15, ha15, kb15, has, hlen, hok, nle15, nmd15, nca15⟩
      have M15 := C15.md
      -- size, lot
      refine rdSeq ⟨_, rfl, md, le15, 4, ns.length, at15, rfl, M15, by decide, by decide, hn, by omega, fun H16 le16 at16 sz rn16 M16 ha16 hsz => ?_⟩
      have kb16 := kb15.trans (Kb.rn M15 rn16)
      obtain ⟨x, wr, rfl⟩ : ∃ x wr, ws = x :: wr := by
        cases ws with
        | nil => exact absurd hw1 (by simp)
        | cons x wr => exact ⟨x, wr, rfl⟩
      refine ⟨_, rfl, 1, rfl, sl_one (Kb.firm (T := T) kb16 |>.seqT hp13) fun lot H17 s17 hlot => ⟨_, _, rfl, ?_⟩⟩
      have kb17 := kb16.trans (Kb.same s17)
      have rb : Rb T Pt H17 ⟨t, sl, su, sm, x :: wr, S⟩ md le16 ns.length at16 own c1 b2 c2 lot kc x := ⟨M16.same s17, kb17.tab1 tb13, (Kb.firm (T := T) kb17).bk k1, (Kb.firm (T := T) kb17).bk k2, hlot, List.mem_cons_self⟩
      have rw17 : Rw T Pt ⟨t, sl, su, sm, x :: wr, S⟩ md le16 ns.length at16 own c1 b2 c2 lot kc x live twin D as H17 [] [] := ⟨rb, dl.kb kb17, dt.kb kb17, s17 _ _ (rn16.1 D _ nmd15 nle15 has), ntl⟩
      clear kb17 kb16 hlot s17 rn16 M16 M15 C15 has nle15 nmd15 nca15 kb15 dl dt k1 k2 M13 tb13 hp13 nD C13 hw1 kq2 hw rb ntl
      have rp : R4 ⟨t, sl, su, sm, x :: wr, S⟩ t sl su := ⟨rfl, rfl, rfl⟩
      generalize (⟨t, sl, su, sm, x :: wr, S⟩ : Rnd) = R at rw17 rp
      have amS : ∀ k : Nat, k ≤ 12 → AmOk (as.take k) := fun k hk => amOk_of hok (fun m hm => List.mem_of_mem_take hm) (by rw [List.length_take]; omega)
      have v0 : ∀ {H0 : Hp} {σ : L2.St} {i : Nat} {v : V}, σ[i]? = some (some v) → ∀ (Q' : VK), Q' v H0 → tVar i σ H0 Q' := fun e Q' h => ⟨_, e, h⟩
      -- both led
      refine rdSeq (rdDrop (rd_ledE rw17.dl rw17.rb.k1 (amS sz (by omega)) rw17.rb.lot rw17.rb.px (v0 rfl) (v0 rfl) (fun Q' k => ⟨_, rfl, _, rfl, _, rfl, sl_ints rw17.has (cut_k as sz) k⟩) fun H18 dl18 k18 => ?_))
      have rw18 := rw17.l k18 (al' := as.take sz) dl18
      clear rw17 k18 dl18
      refine rdSeq (rdDrop (rd_ledE rw18.dt rw18.rb.k2 (amS sz (by omega)) rw18.rb.lot rw18.rb.px (v0 rfl) (v0 rfl) (fun Q' k => ⟨_, rfl, _, rfl, _, rfl, sl_ints rw18.has (cut_k as sz) k⟩) fun H19 dt19 k19 => ?_))
      have rw19 := rw18.t k19 (tl' := as.take sz) dt19
      clear rw18 k19 dt19
      -- the trial
      have am3 : AmOk ((as.take sz ++ (as.drop 4).take 2) ++ as.drop 6) := ⟨fun m hm => hok m (by
        rcases List.mem_append.mp hm with h | h
        · rcases List.mem_append.mp h with h | h
          · exact List.mem_of_mem_take h
          · exact List.mem_of_mem_drop (List.mem_of_mem_take h)
        · exact List.mem_of_mem_drop h), by
        rw [List.length_append, List.length_append, List.length_take, List.length_take, List.length_drop, List.length_drop]
        omega⟩
      refine rdSeq (rdIf (rdNot (rdB (rd_trE rw19.dl rw19.rb.k1 rw19.rb.tb am3 rw19.rb.lot rw19.rb.px (v0 rfl) (v0 rfl) (fun Q' k => ⟨_, rfl, _, rfl, _, rfl, sl_ints rw19.has (cut_46 as hlen) k⟩) (fun H' Q' s k => ⟨_, rfl, _, rfl, sl_ints (s _ _ rw19.has) (cut_6 as hlen) k⟩) fun H20 dl20 k20 tb20 => ⟨true, rfl, ifF (by decide) ?_⟩))))
      have rw20 := rw19.lF k20 tb20 dl20
      clear rw19 k20 tb20 dl20
      -- live != twin or not live == twin
      refine rdSeq (rdIf (rdOr (rd_neE rw20.dl rw20.dt rw20.rb.k1 rw20.rb.k2 (v0 rfl) (v0 rfl) fun H21 s21 => ifF (by simp) (rdNot (rd_eqE (rw20.same s21).dl (rw20.same s21).dt (rw20.same s21).rb.k1 (rw20.same s21).rb.k2 (v0 rfl) (v0 rfl) fun H22 s22 => ifF (by simp) (rdNext ?_))))))
      have rw22 := rw20.same (s21.trans s22)
      clear rw20 s21 s22
      -- live == thing
      obtain ⟨ro22, ⟨dx22, hd22⟩, row22⟩ := id rw22.dl
      dsimp only
      refine rdSeq (rdIf (rdTest (rdOp ?_)))
      refine ⟨_, rfl, _, rfl, live, dx22, _, rfl, hd22, live, own, ro22, rfl, ⟨dx22, hd22⟩, (by show 4 ≤ sizeLine; decide), fun tq htq => ⟨tq, rfl, ⟨_, SqT.of upd_same⟩, fun D2 nD2 => ?_⟩⟩
      have s23 : Same H22 (upd H22 tq (.tup [.non, .int 5, .ref own, .ref ro22])) := same_upd (Same.refl _) htq
      have rw23 := rw22.same s23
      have hq23 : SqT K (upd H22 tq (.tup [.non, .int 5, .ref own, .ref ro22])) tq [.non, .int 5, .ref own, .ref ro22] := SqT.of upd_same
      have row23 := row22.same s23
      clear rw22 s23 htq hd22 row22
      generalize upd H22 tq (.tup [.non, .int 5, .ref own, .ref ro22]) = H23 at rw23 hq23 row23 nD2 ⊢
      refine lc_map (walk_tup (xs := [.non, .int 5, .ref own, .ref ro22])) (fun _ _ s h => same_seqT s h) (fun _ => V.bl false) hq23 nD2 (by show 4 < sizeLine; decide) (fun i v H7 H8 Pk hi s7 _ y hP => ?_) (fun H24 s24 h24 => ?_)
      · obtain ⟨rfl, hv⟩ := y
        refine ⟨rfl, _, rfl, v, rfl, ?_⟩
        have dl7 := rw23.dl.same s7
        match i, hi, hv with
        | 0, _, hv =>
          cases hv
          exact rd_eqO dl7 (.base .non) T.desk_nn T.desk_fn (hP _ (Same.refl _))
        | 1, _, hv =>
          cases hv
          exact rd_eqO dl7 (.base (.int 5)) T.desk_ni T.desk_fi (hP _ (Same.refl _))
        | 2, _, hv =>
          cases hv
          obtain ⟨bx, bc, blt, hb, _⟩ := (rw23.same s7).rb.k1.ob
          exact rd_eqO dl7 (tyx_book T hb) T.desk_nb T.desk_fb (hP _ (Same.refl _))
        | 3, _, hv =>
          cases hv
          obtain ⟨rs, _, hrs, _⟩ := row23.same s7
          exact rd_eqO dl7 (tyx_tup hrs) T.desk_nt T.desk_ft (hP _ (Same.refl _))
      have rw24 := rw23.same s24
      have h24' : H24 D2 = some (.lst [.bl false, .bl false, .bl false, .bl false]) := h24
      clear rw23 s24 h24 row23 hq23 nD2
      refine ⟨(by show 1 ≤ sizeLine; decide), fun lf nlf => ⟨lf, 4, _, rfl, rfl, upd_same, by decide, by decide, (by show 4 ≤ sizeLine; decide), fun l4 nl4 => ?_⟩⟩
      have s25 : Same H24 (upd (upd H24 lf (.lst [.bl false])) l4 (.lst (List.replicate (4 : Int).toNat [V.bl false]).flatten)) := (same_upd (Same.refl _) nlf).trans (same_upd (Same.refl _) nl4)
      refine ⟨f4D, f4D, f4_dp (s25 _ _ h24'), f4_dp upd_same, f4D_ok.shaped (by decide), f4D_ok.shaped (by decide), _, rfl, ifF (by rw [f4D_ok.refl]; rfl) (rdNext ?_)⟩
      have rw25 := rw24.same s25
      clear rw24 h24'
      generalize upd (upd H24 lf (.lst [.bl false])) l4 (.lst (List.replicate (4 : Int).toNat [V.bl false]).flatten) = H25 at rw25 s25 ⊢
      clear s25
      dsimp only
      -- far
      refine rdSeq (rdForTup (rd_tup1 (rd_cons (rd_deskE T (fun b H1 => ∃ c, Same H25 H1 ∧ BkAt T H1 R b c (kc + 1) false) (fun Q' k => rd_book T rw25.rb.k1.rd (by omega) (var (by rw [rp.1]; rfl)) (var (by rw [rp.1]; rfl)) (var (by rw [rp.2.1]; rfl)) (fun H' Q' _ h => ⟨_, rfl, _, _, rfl, rfl, h⟩) (var (by rw [rp.2.2]; rfl)) fun H' b c s n h => k _ _ ⟨c, s, h⟩) ?_))))
      rintro b3 H26 ⟨c3, s26, hb3⟩ H27 f1 ro27 s27 nf1 hf1 row27
      refine rd_cons (rd_deskE T (fun b H1 => Same H27 H1 ∧ BkAt T H1 R b c1 kc true) (fun Q' k => ?_) ?_)
      · obtain ⟨bx, bc, blt, hb, _⟩ := (rw25.same (s26.trans s27)).rb.k1.ob
        exact ⟨_, rfl, own, bx, _, rfl, hb, bf_no _ _ _, _, rfl, own, bx, _, rfl, hb, R, own, c1, kc, rfl, (rw25.same (s26.trans s27)).rb.k1, R, own, c1, kc, rfl, (rw25.same (s26.trans s27)).rb.k1, fun H' b2 s h => k _ _ ⟨s, h⟩⟩
      rintro b4 H28 ⟨s28, hb4⟩ H29 f2 ro29 s29 nf2 hf2 row29
      refine ⟨(by show 2 ≤ sizeLine; decide), fun tr htr => ⟨tr, rfl, ⟨_, SqT.of upd_same⟩, ?_⟩⟩
      have s30 : Same H29 (upd H29 tr (.tup [.ref f1, .ref f2])) := same_upd (Same.refl _) htr
      have n1l : live ≠ f1 := (dk_ne (rw25.same s26).dl nf1).symm
      have n1t : twin ≠ f1 := (dk_ne (rw25.same s26).dt nf1).symm
      have rw28 := rw25.same ((s26.trans s27).trans s28)
      have n2l : live ≠ f2 := (dk_ne rw28.dl nf2).symm
      have n2t : twin ≠ f2 := (dk_ne rw28.dt nf2).symm
      have df1 : Ds T H28 f1 b3 [] := Ds.same ⟨ro27, hf1, row27⟩ s28
      have n21 : f2 ≠ f1 := dk_ne df1 nf2
      have g1 := df1.same (s29.trans s30)
      have g2 : Ds T _ f2 b4 [] := Ds.same ⟨ro29, hf2, row29⟩ s30
      have rw30 := rw28.same (s29.trans s30)
      have q3 := (Firm.same (T := T) (((s27.trans s28).trans s29).trans s30)).bk hb3
      have q4 := (Firm.same (T := T) (s29.trans s30)).bk hb4
      have hq30 : SqT K (upd H29 tr (.tup [.ref f1, .ref f2])) tr [.ref f1, .ref f2] := SqT.of upd_same
      clear rw25 rw28 df1 s26 s27 s28 s29 s30 hb3 hb4 hf1 hf2 row27 row29 nf1 nf2 htr
      generalize upd H29 tr (.tup [.ref f1, .ref f2]) = H30 at g1 g2 rw30 q3 q4 hq30 ⊢
      refine for_it (walk_tup (xs := [.ref f1, .ref f2])) (fun j σ' H' => ∃ y13 y14 y15 : Option V, σ' = [some (.ref a), some (.ref md), some (.int (0 + (i : Int))), some (.ref t), some (.ref sl), some (.int kc), some (.ref su), some (.ref own), some (.ref live), some (.ref twin), some (.ref D), some (.int (sz : Nat)), some (.ref lot), y13, y14, y15] ∧ Rw T Pt R md le16 ns.length at16 own c1 b2 c2 lot kc x live twin D as H' (as.take sz) (as.take sz) ∧ SqT K H' tr [.ref f1, .ref f2] ∧ BkAt T H' R b3 c3 (kc + 1) false ∧ BkAt T H' R b4 c1 kc true ∧ (j = 0 → Ds T H' f1 b3 []) ∧ (j ≤ 1 → Ds T H' f2 b4 []))
        ⟨_, _, _, rfl, rw30, hq30, q3, q4, fun _ => g1, fun _ => g2⟩ (fun j σ' H' _ h => ?_) ?_ ?_
      · obtain ⟨_, _, _, _, _, h, _⟩ := h
        exact h
      · rintro j v σ' H' H'' hj ⟨y13, y14, y15, rfl, rw', hq, k3, k4, e1, e2⟩ y
        obtain ⟨rfl, hv⟩ := y
        match j, hj, hv with
        | 0, _, hv =>
          cases hv
          refine rdName (rdIf (rdTest (rdOp (rd_ledE (e1 rfl) k3 (amS sz (by omega)) rw'.rb.lot rw'.rb.px (v0 rfl) (v0 rfl) (fun Q' k => ⟨_, rfl, _, rfl, _, rfl, sl_ints rw'.has (cut_k as sz) k⟩) fun H31 d31 k31 => ?_))))
          have rw31 := rw'.o (e1 rfl) n1l n1t k31
          refine ⟨_, rfl, rd_eq d31 rw31.dl (bk_fn (FN.of k31) (e1 rfl) k3) rw31.rb.k1 fun H32 s32 => ⟨_, rfl, ifF (by simp; omega) (rdNext ⟨_, _, _, rfl, rw31.same s32, same_seqT s32 (seqT_fn (FN.of k31) (e1 rfl) hq), (Firm.same s32).bk (bk_fn (FN.of k31) (e1 rfl) k3), (Firm.same s32).bk (bk_fn (FN.of k31) (e1 rfl) k4), fun z => (by omega), fun _ => ((e2 (by omega)).fn (FN.of k31) n21 (e1 rfl)).same s32⟩)⟩⟩
        | 1, _, hv =>
          cases hv
          have e2' := e2 (Nat.le_refl _)
          refine rdName (rdIf (rdTest (rdOp (rd_ledE e2' k4 (amS sz (by omega)) rw'.rb.lot rw'.rb.px (v0 rfl) (v0 rfl) (fun Q' k => ⟨_, rfl, _, rfl, _, rfl, sl_ints rw'.has (cut_k as sz) k⟩) fun H31 d31 k31 => ?_))))
          have rw31 := rw'.o e2' n2l n2t k31
          refine ⟨_, rfl, rd_eq d31 rw31.dl (bk_fn (FN.of k31) e2' k4) rw31.rb.k1 fun H32 s32 => ⟨_, rfl, ifF (by simp) (rdNext ⟨_, _, _, rfl, rw31.same s32, same_seqT s32 (seqT_fn (FN.of k31) e2' hq), (Firm.same s32).bk (bk_fn (FN.of k31) e2' k3), (Firm.same s32).bk (bk_fn (FN.of k31) e2' k4), fun z => (by omega), fun z => (by omega)⟩)⟩⟩
      rintro σ' H33 ⟨y13, y14, y15, rfl, rw33, _⟩
      clear rw30 hq30 q3 q4 g1 g2
      dsimp only
      have lsz : (as.take sz).length = sz := by rw [List.length_take]; omega
      have one : ∀ (H0 : Hp) (z : Int) (Q' : VK), (∀ p H', Same H0 H' → H' p = some (.lst (([z] : List Int).map V.int)) → Q' (.ref p) H') → ∀ σ : L2.St, tLst (tCons (tC (.int z)) tNil) σ H0 Q' := fun H0 z Q' k σ => ⟨(by show 1 ≤ sizeLine; decide), fun p hp => k p _ (same_upd (Same.refl _) hp) upd_same⟩
      -- the twin otherwise
      refine rdSeq (rdDrop (rd_ledE rw33.dt rw33.rb.k2 (amOk_snoc (amS sz (by omega)) (by rw [lsz]; omega) (by decide) (by decide)) rw33.rb.lot rw33.rb.px (v0 rfl) (v0 rfl) (fun Q' k => one _ 1 Q' k _) fun H34 d34 k34 => ?_))
      have rw34 := rw33.t k34 d34
      clear rw33 k34 d34
      refine rdSeq (rdIf (rdOr (rd_eqE rw34.dl rw34.dt rw34.rb.k1 rw34.rb.k2 (v0 rfl) (v0 rfl) fun H35 s35 => ifF (by simp) (rdOr (rdNot (rd_neE (rw34.same s35).dl (rw34.same s35).dt (rw34.same s35).rb.k1 (rw34.same s35).rb.k2 (v0 rfl) (v0 rfl) fun H36 s36 => ifF (by simp) ?_))))))
      have rw36 := rw34.same (s35.trans s36)
      clear rw34 s35 s36
      refine rdOr (rdTest (rdOp (rdUndo (k := 1) rw36.dt (Nat.le_refl _) (by rw [List.length_append]; show 1 ≤ _ + 1; omega) (v0 rfl) (fun Q' k => k [] rfl) fun H37 d37 k37 => ⟨rfl, _, rfl, ifF (by simp) ?_⟩)))
      have e37 : (as.take sz ++ [(1 : Int)]).take ((as.take sz ++ [(1 : Int)]).length - 1) = as.take sz := by simp
      rw [e37] at d37
      have rw37 := rw36.t k37 d37
      clear rw36 k37 d37
      refine rd_neE rw37.dl rw37.dt rw37.rb.k1 rw37.rb.k2 (v0 rfl) (v0 rfl) fun H38 s38 => ifF (by simp) (rdNext ?_)
      have rw38 := rw37.same s38
      clear rw37 s38
      dsimp only
      -- both otherwise
      refine rdSeq (rdDrop (rd_ledE rw38.dl rw38.rb.k1 (amOk_snoc (amS sz (by omega)) (by rw [lsz]; omega) (by decide) (by decide)) rw38.rb.lot rw38.rb.px (v0 rfl) (v0 rfl) (fun Q' k => one _ 2 Q' k _) fun H39 d39 k39 => ?_))
      have rw39 := rw38.l k39 d39
      clear rw38 k39 d39
      refine rdSeq (rdDrop (rd_ledE rw39.dt rw39.rb.k2 (amOk_snoc (amS sz (by omega)) (by rw [lsz]; omega) (by decide) (by decide)) rw39.rb.lot rw39.rb.px (v0 rfl) (v0 rfl) (fun Q' k => one _ 3 Q' k _) fun H40 d40 k40 => ?_))
      have rw40 := rw39.t k40 d40
      clear rw39 k40 d40
      dsimp only
      refine rdIf (rdOr (rd_eqE rw40.dl rw40.dt rw40.rb.k1 rw40.rb.k2 (v0 rfl) (v0 rfl) fun H41 s41 => ifF (by simp) ?_))
      have rw41 := rw40.same s41
      clear rw40 s41
      obtain ⟨ro1, ⟨dx1, hd1⟩, row1⟩ := id rw41.dl
      obtain ⟨ro2, ⟨dx2, hd2⟩, row2⟩ := id rw41.dt
      have h63 : ∀ z : Int, (((as.take sz ++ [z]).length : Nat) : Int) < 2 ^ 63 := fun z => by
        rw [List.length_append, lsz]
        show ((sz + 1 : Nat) : Int) < 2 ^ 63
        omega
      refine rdOr (rdTest (rdOp ⟨_, rfl, live, dx1, _, rfl, hd1, live, own, ro1, _, rfl, ⟨dx1, hd1⟩, row1, _, rfl, Int.natCast_nonneg _, h63 _, _, rfl, twin, dx2, _, rfl, hd2, twin, b2, ro2, _, rfl, ⟨dx2, hd2⟩, row2, _, rfl, Int.natCast_nonneg _, h63 _, rfl, _, rfl, ifF (by simp) ?_⟩))
      clear hd1 row1 hd2 row2
      refine rdOr (rdTest (rdOp (rdUndo (k := sz + 1) rw41.dl (by omega) (by rw [List.length_append, lsz]; exact Nat.le_refl _) (v0 rfl) (fun Q' k => ⟨_, rfl, _, _, rfl, rfl, k _ rfl⟩) fun H42 d42 k42 => ⟨rfl, _, rfl, ifF (by simp) ?_⟩)))
      have e42 : (as.take sz ++ [(2 : Int)]).take ((as.take sz ++ [(2 : Int)]).length - (sz + 1)) = [] := by
        rw [List.length_append, lsz]
        show (as.take sz ++ [(2 : Int)]).take (sz + 1 - (sz + 1)) = []
        rw [Nat.sub_self, List.take_zero]
      rw [e42] at d42
      have rw42 := rw41.l k42 d42
      clear rw41 k42 d42
      refine rdTest (rdOp ⟨_, rfl, rd_deskE T (fun b H1 => own = b ∧ H42 = H1) (fun Q' k => ⟨_, rfl, k _ _ ⟨rfl, rfl⟩⟩) ?_⟩)
      rintro _ _ ⟨rfl, rfl⟩ H43 d43 ro43 s43 n43 hd43 row43
      have rw43 := rw42.same s43
      refine rd_ne rw43.dl ⟨ro43, hd43, row43⟩ rw43.rb.k1 rw43.rb.k1 fun H44 s44 => ⟨_, rfl, ifF (by simp) (rdNext ?_)⟩
      have rw44 := rw43.same s44
      exact ⟨le16, at16, _, _, _, _, _, _, _, _, _, _, _, _, _, _, rw44.rb.M, by omega, rw44.rb.tb, rfl⟩
    · rintro σ H2 _
      exact q H2
end
end Wm
/-! H1 -/
/-! ### the facts of the top, each def's in one -/
namespace Wm
open PySem PySem.Spec PyProof.Rows L2 LamX NdefX
section
variable {K : PySem.W.Frag} {h : Heap} {mg : Str → Option Value}
/-- a def of the top -/
def DefG (K : PySem.W.Frag) (mg : Str → Option Value) (x : Str) (st : Stmt) (ps : List Str) : Prop := ∃ f fd, Fun K x x st f fd ∧ Binds K fd ps [] ∧ mg x = some (.ref f)
theorem defG_mk {x : Str} {st : Stmt} {ps : List Str} {f : Addr} {oc kV doc pm cdv ct : Value} {od an : Option Addr} {osl : Array (Option Value)} (X : K.In h) (G : h.Ns mainGlobals mg)
    (a : PySem.W.nsIn K mainGlobals x = some (some (.ref f))) (l : K.lookup f = some ⟨oc, od, .func (PySem.W.fnOf x x (defArgs st) (defBody st) (defScope st) .none kV doc pm an cdv ct), osl⟩) (c : PySem.W.codeIn K cdv x = true) (k : PySem.W.keepIn K (.ref f) = true)
    (b : ∀ (kV doc pm : Value) (an : Option Addr) (cdv ct : Value) (us : List Value), us.length = ps.length → bindArgs (PySem.W.fnOf x x (defArgs st) (defBody st) (defScope st) .none kV doc pm an cdv ct) ⟨us, []⟩ = pure (ps.zip us)) : DefG K mg x st ps :=
  ⟨f, _, fun_mk l c k, (fun_mk l c k).binds b, PySem.W.mg_of X G a⟩
/-- a method -/
def DefM (K : PySem.W.Frag) (C : Addr) (x q : Str) (st : Stmt) (ps : List Str) : Prop := ∃ f fd, Fun K x q st f fd ∧ Binds K fd ps [] ∧ Meth K C x f
theorem defM_mk {C : Addr} {x q : Str} {st : Stmt} {ps : List Str} {f : Addr} {oc kV doc pm cdv ct : Value} {od an : Option Addr} {osl : Array (Option Value)}
    (a : PySem.W.findIn K (.ref C) x = some (some (.ref f))) (i : PySem.W.isFn K (.ref f) = true) (l : K.lookup f = some ⟨oc, od, .func (PySem.W.fnOf x q (defArgs st) (defBody st) (defScope st) .none kV doc pm an cdv ct), osl⟩) (c : PySem.W.codeIn K cdv q = true) (k : PySem.W.keepIn K (.ref f) = true)
    (b : ∀ (kV doc pm : Value) (an : Option Addr) (cdv ct : Value) (us : List Value), us.length = ps.length → bindArgs (PySem.W.fnOf x q (defArgs st) (defBody st) (defScope st) .none kV doc pm an cdv ct) ⟨us, []⟩ = pure (ps.zip us)) : DefM K C x q st ps :=
  ⟨f, _, fun_mk l c k, (fun_mk l c k).binds b, ⟨a, i, k⟩⟩
/-- a method with defaults -/
def DefD (K : PySem.W.Frag) (C : Addr) (x q : Str) (st : Stmt) (dvs : List V) : Prop := ∃ f fd, FunD K x q (defArgs st) (defBody st) (defScope st) dvs [] f fd ∧ Meth K C x f
theorem defD_mk {C : Addr} {x q : Str} {st : Stmt} {f t : Addr} {oc kV doc pm cdv ct : Value} {od an : Option Addr} {osl : Array (Option Value)} {dvs : List V} {to : Obj} {its : List Value} {n : Nat}
    (a : PySem.W.findIn K (.ref C) x = some (some (.ref f))) (i : PySem.W.isFn K (.ref f) = true) (l : K.lookup f = some ⟨oc, od, .func (PySem.W.fnOf x q (defArgs st) (defBody st) (defScope st) (.ref t) kV doc pm an cdv ct), osl⟩) (c : PySem.W.codeIn K cdv q = true) (k : PySem.W.keepIn K (.ref f) = true)
    (lt : K.lookup t = some to) (hd : to.data = .seq its.toArray n) (r : Vals dvs its) (ne : dvs ≠ []) : DefD K C x q st dvs :=
  ⟨f, _, ⟨⟨oc, od, .ref t, kV, doc, pm, an, cdv, ct, osl, rfl, l, c, .inr ⟨ne, t, to, its, n, rfl, lt, hd, r⟩, .inl rfl⟩, k⟩, ⟨a, i, k⟩⟩
/-- a class -/
def ClsG (K : PySem.W.Frag) (mg : Str → Option Value) (x : Str) (C : Addr) : Prop := Cls K C ∧ PySem.W.makesIn K C = true ∧ PySem.W.keepIn K (.ref C) = true ∧ mg x = some (.ref C)
theorem clsG_mk {x : Str} {C : Addr} (X : K.In h) (G : h.Ns mainGlobals mg) (a : PySem.W.nsIn K mainGlobals x = some (some (.ref C))) (pg : PySem.W.plainGet K C Str.empty = true) (hd : PySem.W.hasDictIn K C = true) (po : PySem.W.plainOver K C = true)
    (sa : PySem.W.findIn K (.ref C) "__setattr__" = some (some (.builtin "object.__setattr__"))) (m : PySem.W.makesIn K C = true) (k : PySem.W.keepIn K (.ref C) = true) : ClsG K mg x C := ⟨⟨pg, hd, po, sa⟩, m, k, PySem.W.mg_of X G a⟩
theorem mk_of {x : Str} {C f : Addr} (c : ClsG K mg x C) (m : Meth K C "__init__" f) : Mk K C f := ⟨c.2.1, m.at_, m.fn, c.2.2.1⟩
theorem exm_self {K : PySem.W.Frag} {S : Addr} (h1 : PySem.W.subIn K (.ref S) (.type "BaseException") = some true) (h2 : PySem.W.isClsIn K S = true) (h3 : PySem.W.typeIn K (.ref S) = some (.type "type")) (h4 : PySem.W.subIn K (.ref S) (.ref S) = some true) :
    PySem.W.exmOne K (.ref S) (.ref S) = some true := by
  have e1 : (PySem.W.subIn K (.ref S) (.type "BaseException") == some true) = true := by rw [h1] <;> rfl
  have e2 : ((PySem.W.clsIn K S).isSome && PySem.W.typeIn K (.ref S) == some (.type "type")) = true := by
    have h2' : (PySem.W.clsIn K S).isSome = true := h2
    rw [h2', h3] <;> rfl
  show (if (PySem.W.subIn K (.ref S) (.type "BaseException") == some true) = true then (if ((PySem.W.clsIn K S).isSome && PySem.W.typeIn K (.ref S) == some (.type "type")) = true then PySem.W.subIn K (.ref S) (.ref S) else none) else none) = some true
  rw [if_pos e1, if_pos e2]
  exact h4
end
theorem bd_isWord (kV doc pm : Value) (an : Option Addr) (cdv ct : Value) (us : List Value) (hl : us.length = (["thing"] : List Str).length) : bindArgs (PySem.W.fnOf "is_word" "is_word" (defArgs sIsWord) (defBody sIsWord) (defScope sIsWord) .none kV doc pm an cdv ct) ⟨us, []⟩ = pure ((["thing"] : List Str).zip us) := match us, hl with | [_], _ => rfl
theorem bd_isNumber (kV doc pm : Value) (an : Option Addr) (cdv ct : Value) (us : List Value) (hl : us.length = (["thing"] : List Str).length) : bindArgs (PySem.W.fnOf "is_number" "is_number" (defArgs sIsNumber) (defBody sIsNumber) (defScope sIsNumber) .none kV doc pm an cdv ct) ⟨us, []⟩ = pure ((["thing"] : List Str).zip us) := match us, hl with | [_], _ => rfl
theorem bd_isFrom (kV doc pm : Value) (an : Option Addr) (cdv ct : Value) (us : List Value) (hl : us.length = (["thing", "least"] : List Str).length) : bindArgs (PySem.W.fnOf "is_from" "is_from" (defArgs sIsFrom) (defBody sIsFrom) (defScope sIsFrom) .none kV doc pm an cdv ct) ⟨us, []⟩ = pure ((["thing", "least"] : List Str).zip us) := match us, hl with | [_, _], _ => rfl
theorem bd_isAmong (kV doc pm : Value) (an : Option Addr) (cdv ct : Value) (us : List Value) (hl : us.length = (["thing", "least", "most"] : List Str).length) : bindArgs (PySem.W.fnOf "is_among" "is_among" (defArgs sIsAmong) (defBody sIsAmong) (defScope sIsAmong) .none kV doc pm an cdv ct) ⟨us, []⟩ = pure ((["thing", "least", "most"] : List Str).zip us) := match us, hl with | [_, _, _], _ => rfl
theorem bd_areRising (kV doc pm : Value) (an : Option Addr) (cdv ct : Value) (us : List Value) (hl : us.length = (["items"] : List Str).length) : bindArgs (PySem.W.fnOf "are_rising" "are_rising" (defArgs sAreRising) (defBody sAreRising) (defScope sAreRising) .none kV doc pm an cdv ct) ⟨us, []⟩ = pure ((["items"] : List Str).zip us) := match us, hl with | [_], _ => rfl
theorem bd_areWords (kV doc pm : Value) (an : Option Addr) (cdv ct : Value) (us : List Value) (hl : us.length = (["thing"] : List Str).length) : bindArgs (PySem.W.fnOf "are_words" "are_words" (defArgs sAreWords) (defBody sAreWords) (defScope sAreWords) .none kV doc pm an cdv ct) ⟨us, []⟩ = pure ((["thing"] : List Str).zip us) := match us, hl with | [_], _ => rfl
theorem bd_needPeople (kV doc pm : Value) (an : Option Addr) (cdv ct : Value) (us : List Value) (hl : us.length = (["thing"] : List Str).length) : bindArgs (PySem.W.fnOf "need_people" "need_people" (defArgs sNeedPeople) (defBody sNeedPeople) (defScope sNeedPeople) .none kV doc pm an cdv ct) ⟨us, []⟩ = pure ((["thing"] : List Str).zip us) := match us, hl with | [_], _ => rfl
theorem bd_isLot (kV doc pm : Value) (an : Option Addr) (cdv ct : Value) (us : List Value) (hl : us.length = (["people", "thing"] : List Str).length) : bindArgs (PySem.W.fnOf "is_lot" "is_lot" (defArgs sIsLot) (defBody sIsLot) (defScope sIsLot) .none kV doc pm an cdv ct) ⟨us, []⟩ = pure ((["people", "thing"] : List Str).zip us) := match us, hl with | [_, _], _ => rfl
theorem bd_needLot (kV doc pm : Value) (an : Option Addr) (cdv ct : Value) (us : List Value) (hl : us.length = (["people", "thing"] : List Str).length) : bindArgs (PySem.W.fnOf "need_lot" "need_lot" (defArgs sNeedLot) (defBody sNeedLot) (defScope sNeedLot) .none kV doc pm an cdv ct) ⟨us, []⟩ = pure ((["people", "thing"] : List Str).zip us) := match us, hl with | [_, _], _ => rfl
theorem bd_lentOn (kV doc pm : Value) (an : Option Addr) (cdv ct : Value) (us : List Value) (hl : us.length = (["book", "person"] : List Str).length) : bindArgs (PySem.W.fnOf "lent_on" "lent_on" (defArgs sLentOn) (defBody sLentOn) (defScope sLentOn) .none kV doc pm an cdv ct) ⟨us, []⟩ = pure ((["book", "person"] : List Str).zip us) := match us, hl with | [_, _], _ => rfl
theorem bd_whoMay (kV doc pm : Value) (an : Option Addr) (cdv ct : Value) (us : List Value) (hl : us.length = (["book", "number"] : List Str).length) : bindArgs (PySem.W.fnOf "who_may" "who_may" (defArgs sWhoMay) (defBody sWhoMay) (defScope sWhoMay) .none kV doc pm an cdv ct) ⟨us, []⟩ = pure ((["book", "number"] : List Str).zip us) := match us, hl with | [_, _], _ => rfl
theorem bd_fillInit (kV doc pm : Value) (an : Option Addr) (cdv ct : Value) (us : List Value) (hl : us.length = (["self", "book", "lot", "number"] : List Str).length) : bindArgs (PySem.W.fnOf "__init__" "Filling.__init__" (defArgs sFillInit) (defBody sFillInit) (defScope sFillInit) .none kV doc pm an cdv ct) ⟨us, []⟩ = pure ((["self", "book", "lot", "number"] : List Str).zip us) := match us, hl with | [_, _, _, _], _ => rfl
theorem bd_fillPut (kV doc pm : Value) (an : Option Addr) (cdv ct : Value) (us : List Value) (hl : us.length = (["self", "slot", "tried"] : List Str).length) : bindArgs (PySem.W.fnOf "put" "Filling.put" (defArgs sFillPut) (defBody sFillPut) (defScope sFillPut) .none kV doc pm an cdv ct) ⟨us, []⟩ = pure ((["self", "slot", "tried"] : List Str).zip us) := match us, hl with | [_, _, _], _ => rfl
theorem bd_fillFailing (kV doc pm : Value) (an : Option Addr) (cdv ct : Value) (us : List Value) (hl : us.length = (["self"] : List Str).length) : bindArgs (PySem.W.fnOf "failing" "Filling.failing" (defArgs sFillFailing) (defBody sFillFailing) (defScope sFillFailing) .none kV doc pm an cdv ct) ⟨us, []⟩ = pure ((["self"] : List Str).zip us) := match us, hl with | [_], _ => rfl
theorem bd_fillInOrder (kV doc pm : Value) (an : Option Addr) (cdv ct : Value) (us : List Value) (hl : us.length = (["self"] : List Str).length) : bindArgs (PySem.W.fnOf "in_order" "Filling.in_order" (defArgs sFillInOrder) (defBody sFillInOrder) (defScope sFillInOrder) .none kV doc pm an cdv ct) ⟨us, []⟩ = pure ((["self"] : List Str).zip us) := match us, hl with | [_], _ => rfl
theorem bd_triedOut (kV doc pm : Value) (an : Option Addr) (cdv ct : Value) (us : List Value) (hl : us.length = (["book", "lot", "number"] : List Str).length) : bindArgs (PySem.W.fnOf "tried_out" "tried_out" (defArgs sTriedOut) (defBody sTriedOut) (defScope sTriedOut) .none kV doc pm an cdv ct) ⟨us, []⟩ = pure ((["book", "lot", "number"] : List Str).zip us) := match us, hl with | [_, _, _], _ => rfl
theorem bd_doesSign (kV doc pm : Value) (an : Option Addr) (cdv ct : Value) (us : List Value) (hl : us.length = (["book", "lot", "number"] : List Str).length) : bindArgs (PySem.W.fnOf "does_sign" "does_sign" (defArgs sDoesSign) (defBody sDoesSign) (defScope sDoesSign) .none kV doc pm an cdv ct) ⟨us, []⟩ = pure ((["book", "lot", "number"] : List Str).zip us) := match us, hl with | [_, _, _], _ => rfl
theorem bd_isPayment (kV doc pm : Value) (an : Option Addr) (cdv ct : Value) (us : List Value) (hl : us.length = (["book", "thing"] : List Str).length) : bindArgs (PySem.W.fnOf "is_payment" "is_payment" (defArgs sIsPayment) (defBody sIsPayment) (defScope sIsPayment) .none kV doc pm an cdv ct) ⟨us, []⟩ = pure ((["book", "thing"] : List Str).zip us) := match us, hl with | [_, _], _ => rfl
theorem bd_isRow (kV doc pm : Value) (an : Option Addr) (cdv ct : Value) (us : List Value) (hl : us.length = (["book", "thing"] : List Str).length) : bindArgs (PySem.W.fnOf "is_row" "is_row" (defArgs sIsRow) (defBody sIsRow) (defScope sIsRow) .none kV doc pm an cdv ct) ⟨us, []⟩ = pure ((["book", "thing"] : List Str).zip us) := match us, hl with | [_, _], _ => rfl
theorem bd_paidWithin (kV doc pm : Value) (an : Option Addr) (cdv ct : Value) (us : List Value) (hl : us.length = (["row", "number", "start", "size"] : List Str).length) : bindArgs (PySem.W.fnOf "paid_within" "paid_within" (defArgs sPaidWithin) (defBody sPaidWithin) (defScope sPaidWithin) .none kV doc pm an cdv ct) ⟨us, []⟩ = pure ((["row", "number", "start", "size"] : List Str).zip us) := match us, hl with | [_, _, _, _], _ => rfl
theorem bd_holdsBy (kV doc pm : Value) (an : Option Addr) (cdv ct : Value) (us : List Value) (hl : us.length = (["book", "row", "number"] : List Str).length) : bindArgs (PySem.W.fnOf "holds_by" "holds_by" (defArgs sHoldsBy) (defBody sHoldsBy) (defScope sHoldsBy) .none kV doc pm an cdv ct) ⟨us, []⟩ = pure ((["book", "row", "number"] : List Str).zip us) := match us, hl with | [_, _, _], _ => rfl
theorem bd_keeps (kV doc pm : Value) (an : Option Addr) (cdv ct : Value) (us : List Value) (hl : us.length = (["book", "row"] : List Str).length) : bindArgs (PySem.W.fnOf "keeps" "keeps" (defArgs sKeeps) (defBody sKeeps) (defScope sKeeps) .none kV doc pm an cdv ct) ⟨us, []⟩ = pure ((["book", "row"] : List Str).zip us) := match us, hl with | [_, _], _ => rfl
theorem bd_deskInit (kV doc pm : Value) (an : Option Addr) (cdv ct : Value) (us : List Value) (hl : us.length = (["self", "book"] : List Str).length) : bindArgs (PySem.W.fnOf "__init__" "Desk.__init__" (defArgs sDeskInit) (defBody sDeskInit) (defScope sDeskInit) .none kV doc pm an cdv ct) ⟨us, []⟩ = pure ((["self", "book"] : List Str).zip us) := match us, hl with | [_, _], _ => rfl
theorem bd_deskRow (kV doc pm : Value) (an : Option Addr) (cdv ct : Value) (us : List Value) (hl : us.length = (["self"] : List Str).length) : bindArgs (PySem.W.fnOf "row" "Desk.row" (defArgs sDeskRow) (defBody sDeskRow) (defScope sDeskRow) .none kV doc pm an cdv ct) ⟨us, []⟩ = pure ((["self"] : List Str).zip us) := match us, hl with | [_], _ => rfl
theorem bd_deskLen (kV doc pm : Value) (an : Option Addr) (cdv ct : Value) (us : List Value) (hl : us.length = (["self"] : List Str).length) : bindArgs (PySem.W.fnOf "__len__" "Desk.__len__" (defArgs sDeskLen) (defBody sDeskLen) (defScope sDeskLen) .none kV doc pm an cdv ct) ⟨us, []⟩ = pure ((["self"] : List Str).zip us) := match us, hl with | [_], _ => rfl
theorem bd_deskEq (kV doc pm : Value) (an : Option Addr) (cdv ct : Value) (us : List Value) (hl : us.length = (["self", "other"] : List Str).length) : bindArgs (PySem.W.fnOf "__eq__" "Desk.__eq__" (defArgs sDeskEq) (defBody sDeskEq) (defScope sDeskEq) .none kV doc pm an cdv ct) ⟨us, []⟩ = pure ((["self", "other"] : List Str).zip us) := match us, hl with | [_, _], _ => rfl
theorem bd_deskDay (kV doc pm : Value) (an : Option Addr) (cdv ct : Value) (us : List Value) (hl : us.length = (["self"] : List Str).length) : bindArgs (PySem.W.fnOf "day" "Desk.day" (defArgs sDeskDay) (defBody sDeskDay) (defScope sDeskDay) .none kV doc pm an cdv ct) ⟨us, []⟩ = pure ((["self"] : List Str).zip us) := match us, hl with | [_], _ => rfl
theorem bd_deskPay (kV doc pm : Value) (an : Option Addr) (cdv ct : Value) (us : List Value) (hl : us.length = (["self", "lot", "payment"] : List Str).length) : bindArgs (PySem.W.fnOf "pay" "Desk.pay" (defArgs sDeskPay) (defBody sDeskPay) (defScope sDeskPay) .none kV doc pm an cdv ct) ⟨us, []⟩ = pure ((["self", "lot", "payment"] : List Str).zip us) := match us, hl with | [_, _, _], _ => rfl
theorem bd_deskTrial (kV doc pm : Value) (an : Option Addr) (cdv ct : Value) (us : List Value) (hl : us.length = (["self"] : List Str).length) : bindArgs (PySem.W.fnOf "trial" "Desk.trial" (defArgs sDeskTrial) (defBody sDeskTrial) (defScope sDeskTrial) .none kV doc pm an cdv ct) ⟨us, []⟩ = pure ((["self"] : List Str).zip us) := match us, hl with | [_], _ => rfl
theorem bd_trialInit (kV doc pm : Value) (an : Option Addr) (cdv ct : Value) (us : List Value) (hl : us.length = (["self", "desk"] : List Str).length) : bindArgs (PySem.W.fnOf "__init__" "Trial.__init__" (defArgs sTrialInit) (defBody sTrialInit) (defScope sTrialInit) .none kV doc pm an cdv ct) ⟨us, []⟩ = pure ((["self", "desk"] : List Str).zip us) := match us, hl with | [_, _], _ => rfl
theorem bd_trialEnter (kV doc pm : Value) (an : Option Addr) (cdv ct : Value) (us : List Value) (hl : us.length = (["self"] : List Str).length) : bindArgs (PySem.W.fnOf "__enter__" "Trial.__enter__" (defArgs sTrialEnter) (defBody sTrialEnter) (defScope sTrialEnter) .none kV doc pm an cdv ct) ⟨us, []⟩ = pure ((["self"] : List Str).zip us) := match us, hl with | [_], _ => rfl
theorem bd_trialExit (kV doc pm : Value) (an : Option Addr) (cdv ct : Value) (us : List Value) (hl : us.length = (["self", "kind", "value", "trace"] : List Str).length) : bindArgs (PySem.W.fnOf "__exit__" "Trial.__exit__" (defArgs sTrialExit) (defBody sTrialExit) (defScope sTrialExit) .none kV doc pm an cdv ct) ⟨us, []⟩ = pure ((["self", "kind", "value", "trace"] : List Str).zip us) := match us, hl with | [_, _, _, _], _ => rfl
theorem bd_tried (kV doc pm : Value) (an : Option Addr) (cdv ct : Value) (us : List Value) (hl : us.length = (["desk", "function"] : List Str).length) : bindArgs (PySem.W.fnOf "tried" "tried" (defArgs sTried) (defBody sTried) (defScope sTried) .none kV doc pm an cdv ct) ⟨us, []⟩ = pure ((["desk", "function"] : List Str).zip us) := match us, hl with | [_, _], _ => rfl
theorem bd_areSlots (kV doc pm : Value) (an : Option Addr) (cdv ct : Value) (us : List Value) (hl : us.length = (["people", "thing"] : List Str).length) : bindArgs (PySem.W.fnOf "are_slots" "are_slots" (defArgs sAreSlots) (defBody sAreSlots) (defScope sAreSlots) .none kV doc pm an cdv ct) ⟨us, []⟩ = pure ((["people", "thing"] : List Str).zip us) := match us, hl with | [_, _], _ => rfl
theorem bd_isSum (kV doc pm : Value) (an : Option Addr) (cdv ct : Value) (us : List Value) (hl : us.length = (["thing"] : List Str).length) : bindArgs (PySem.W.fnOf "is_sum" "is_sum" (defArgs sIsSum) (defBody sIsSum) (defScope sIsSum) .none kV doc pm an cdv ct) ⟨us, []⟩ = pure ((["thing"] : List Str).zip us) := match us, hl with | [_], _ => rfl
theorem bd_areSums (kV doc pm : Value) (an : Option Addr) (cdv ct : Value) (us : List Value) (hl : us.length = (["thing"] : List Str).length) : bindArgs (PySem.W.fnOf "are_sums" "are_sums" (defArgs sAreSums) (defBody sAreSums) (defScope sAreSums) .none kV doc pm an cdv ct) ⟨us, []⟩ = pure ((["thing"] : List Str).zip us) := match us, hl with | [_], _ => rfl
theorem bd_clauseFields (kV doc pm : Value) (an : Option Addr) (cdv ct : Value) (us : List Value) (hl : us.length = (["self"] : List Str).length) : bindArgs (PySem.W.fnOf "fields" "Clause.fields" (defArgs sClauseFields) (defBody sClauseFields) (defScope sClauseFields) .none kV doc pm an cdv ct) ⟨us, []⟩ = pure ((["self"] : List Str).zip us) := match us, hl with | [_], _ => rfl
theorem bd_clauseEq (kV doc pm : Value) (an : Option Addr) (cdv ct : Value) (us : List Value) (hl : us.length = (["self", "other"] : List Str).length) : bindArgs (PySem.W.fnOf "__eq__" "Clause.__eq__" (defArgs sClauseEq) (defBody sClauseEq) (defScope sClauseEq) .none kV doc pm an cdv ct) ⟨us, []⟩ = pure ((["self", "other"] : List Str).zip us) := match us, hl with | [_, _], _ => rfl
theorem bd_isClause (kV doc pm : Value) (an : Option Addr) (cdv ct : Value) (us : List Value) (hl : us.length = (["people", "thing"] : List Str).length) : bindArgs (PySem.W.fnOf "is_clause" "is_clause" (defArgs sIsClause) (defBody sIsClause) (defScope sIsClause) .none kV doc pm an cdv ct) ⟨us, []⟩ = pure ((["people", "thing"] : List Str).zip us) := match us, hl with | [_, _], _ => rfl
theorem bd_areLent (kV doc pm : Value) (an : Option Addr) (cdv ct : Value) (us : List Value) (hl : us.length = (["people", "thing"] : List Str).length) : bindArgs (PySem.W.fnOf "are_lent" "are_lent" (defArgs sAreLent) (defBody sAreLent) (defScope sAreLent) .none kV doc pm an cdv ct) ⟨us, []⟩ = pure ((["people", "thing"] : List Str).zip us) := match us, hl with | [_, _], _ => rfl
theorem bd_bookLen (kV doc pm : Value) (an : Option Addr) (cdv ct : Value) (us : List Value) (hl : us.length = (["self"] : List Str).length) : bindArgs (PySem.W.fnOf "__len__" "Book.__len__" (defArgs sBookLen) (defBody sBookLen) (defScope sBookLen) .none kV doc pm an cdv ct) ⟨us, []⟩ = pure ((["self"] : List Str).zip us) := match us, hl with | [_], _ => rfl
theorem bd_bookGet (kV doc pm : Value) (an : Option Addr) (cdv ct : Value) (us : List Value) (hl : us.length = (["self", "number"] : List Str).length) : bindArgs (PySem.W.fnOf "__getitem__" "Book.__getitem__" (defArgs sBookGet) (defBody sBookGet) (defScope sBookGet) .none kV doc pm an cdv ct) ⟨us, []⟩ = pure ((["self", "number"] : List Str).zip us) := match us, hl with | [_, _], _ => rfl
theorem bd_bookEq (kV doc pm : Value) (an : Option Addr) (cdv ct : Value) (us : List Value) (hl : us.length = (["self", "other"] : List Str).length) : bindArgs (PySem.W.fnOf "__eq__" "Book.__eq__" (defArgs sBookEq) (defBody sBookEq) (defScope sBookEq) .none kV doc pm an cdv ct) ⟨us, []⟩ = pure ((["self", "other"] : List Str).zip us) := match us, hl with | [_, _], _ => rfl
theorem bd_bookAdding (kV doc pm : Value) (an : Option Addr) (cdv ct : Value) (us : List Value) (hl : us.length = (["self", "clause"] : List Str).length) : bindArgs (PySem.W.fnOf "adding" "Book.adding" (defArgs sBookAdding) (defBody sBookAdding) (defScope sBookAdding) .none kV doc pm an cdv ct) ⟨us, []⟩ = pure ((["self", "clause"] : List Str).zip us) := match us, hl with | [_, _], _ => rfl
theorem bd_begun (kV doc pm : Value) (an : Option Addr) (cdv ct : Value) (us : List Value) (hl : us.length = (["script"] : List Str).length) : bindArgs (PySem.W.fnOf "_law_begun" "_law_begun" (defArgs sBegun) (defBody sBegun) (defScope sBegun) .none kV doc pm an cdv ct) ⟨us, []⟩ = pure ((["script"] : List Str).zip us) := match us, hl with | [_], _ => rfl
theorem bd_next (kV doc pm : Value) (an : Option Addr) (cdv ct : Value) (us : List Value) (hl : us.length = (["m", "many"] : List Str).length) : bindArgs (PySem.W.fnOf "_law_next" "_law_next" (defArgs sNext) (defBody sNext) (defScope sNext) .none kV doc pm an cdv ct) ⟨us, []⟩ = pure ((["m", "many"] : List Str).zip us) := match us, hl with | [_, _], _ => rfl
theorem bd_names (kV doc pm : Value) (an : Option Addr) (cdv ct : Value) (us : List Value) (hl : us.length = (["m", "many"] : List Str).length) : bindArgs (PySem.W.fnOf "_law_names" "_law_names" (defArgs sNames) (defBody sNames) (defScope sNames) .none kV doc pm an cdv ct) ⟨us, []⟩ = pure ((["m", "many"] : List Str).zip us) := match us, hl with | [_, _], _ => rfl
theorem bd_folk (kV doc pm : Value) (an : Option Addr) (cdv ct : Value) (us : List Value) (hl : us.length = (["m", "size"] : List Str).length) : bindArgs (PySem.W.fnOf "_law_folk" "_law_folk" (defArgs sFolk) (defBody sFolk) (defScope sFolk) .none kV doc pm an cdv ct) ⟨us, []⟩ = pure ((["m", "size"] : List Str).zip us) := match us, hl with | [_, _], _ => rfl
theorem bd_shown (kV doc pm : Value) (an : Option Addr) (cdv ct : Value) (us : List Value) (hl : us.length = (["live"] : List Str).length) : bindArgs (PySem.W.fnOf "_law_shown" "_law_shown" (defArgs sShown) (defBody sShown) (defScope sShown) .none kV doc pm an cdv ct) ⟨us, []⟩ = pure ((["live"] : List Str).zip us) := match us, hl with | [_], _ => rfl
theorem bd_led (kV doc pm : Value) (an : Option Addr) (cdv ct : Value) (us : List Value) (hl : us.length = (["live", "lot", "amounts"] : List Str).length) : bindArgs (PySem.W.fnOf "_law_led" "_law_led" (defArgs sLed) (defBody sLed) (defScope sLed) .none kV doc pm an cdv ct) ⟨us, []⟩ = pure ((["live", "lot", "amounts"] : List Str).zip us) := match us, hl with | [_, _, _], _ => rfl
theorem bd_fails (kV doc pm : Value) (an : Option Addr) (cdv ct : Value) (us : List Value) (hl : us.length = (["live"] : List Str).length) : bindArgs (PySem.W.fnOf "_law_fails" "_law_fails" (defArgs sFails) (defBody sFails) (defScope sFails) .none kV doc pm an cdv ct) ⟨us, []⟩ = pure ((["live"] : List Str).zip us) := match us, hl with | [_], _ => rfl
theorem bd_breaks (kV doc pm : Value) (an : Option Addr) (cdv ct : Value) (us : List Value) (hl : us.length = (["live"] : List Str).length) : bindArgs (PySem.W.fnOf "_law_breaks" "_law_breaks" (defArgs sBreaks) (defBody sBreaks) (defScope sBreaks) .none kV doc pm an cdv ct) ⟨us, []⟩ = pure ((["live"] : List Str).zip us) := match us, hl with | [_], _ => rfl
theorem bd_endsRight (kV doc pm : Value) (an : Option Addr) (cdv ct : Value) (us : List Value) (hl : us.length = (["live", "due"] : List Str).length) : bindArgs (PySem.W.fnOf "_law_ends_right" "_law_ends_right" (defArgs sEndsRight) (defBody sEndsRight) (defScope sEndsRight) .none kV doc pm an cdv ct) ⟨us, []⟩ = pure ((["live", "due"] : List Str).zip us) := match us, hl with | [_, _], _ => rfl
theorem bd_trialRight (kV doc pm : Value) (an : Option Addr) (cdv ct : Value) (us : List Value) (hl : us.length = (["live", "lot", "some", "more"] : List Str).length) : bindArgs (PySem.W.fnOf "_law_trial_right" "_law_trial_right" (defArgs sTrialRight) (defBody sTrialRight) (defScope sTrialRight) .none kV doc pm an cdv ct) ⟨us, []⟩ = pure ((["live", "lot", "some", "more"] : List Str).zip us) := match us, hl with | [_, _, _, _], _ => rfl
theorem bd_law (kV doc pm : Value) (an : Option Addr) (cdv ct : Value) (us : List Value) (hl : us.length = (["script"] : List Str).length) : bindArgs (PySem.W.fnOf "law" "law" (defArgs sLaw) (defBody sLaw) (defScope sLaw) .none kV doc pm an cdv ct) ⟨us, []⟩ = pure ((["script"] : List Str).zip us) := match us, hl with | [_], _ => rfl
section
variable {K : PySem.W.Frag}
theorem bx_clauseInit_b4 {et2 : Addr} {f : Addr} {fd : FuncData} (F : FunD K "__init__" "Clause.__init__" (defArgs sClauseInit) (defBody sClauseInit) (defScope sClauseInit) [V.non, V.ref et2] [] f fd) : ∃ ds, Vals (([V.non, V.ref et2] : List V).drop 2) ds ∧ Binds K fd ["self", "people", "slots", "cap", "sums"] ds := F.binds1 (ps := ["self", "people", "slots", "cap", "sums"]) 5 2 (by intro z; cases z) rfl fun T _ _ _ _ _ _ us its hu hi => match us, its, hu, hi with | [_, _, _, _, _], [_, _], _, _ => ⟨_, rfl, rfl⟩
theorem bx_bookInit_b2 {et : Addr} {f : Addr} {fd : FuncData} (F : FunD K "__init__" "Book.__init__" (defArgs sBookInit) (defBody sBookInit) (defScope sBookInit) [V.ref et] [] f fd) : ∃ ds, Vals (([V.ref et] : List V).drop 0) ds ∧ Binds K fd ["self", "people", "clauses", "lent"] ds := F.binds1 (ps := ["self", "people", "clauses", "lent"]) 3 0 (by intro z; cases z) rfl fun T _ _ _ _ _ _ us its hu hi => match us, its, hu, hi with | [_, _, _], [_], _, _ => ⟨_, rfl, rfl⟩
theorem bx_bookInit_b3 {et : Addr} {f : Addr} {fd : FuncData} (F : FunD K "__init__" "Book.__init__" (defArgs sBookInit) (defBody sBookInit) (defScope sBookInit) [V.ref et] [] f fd) : ∃ ds, Vals (([V.ref et] : List V).drop 1) ds ∧ Binds K fd ["self", "people", "clauses", "lent"] ds := F.binds1 (ps := ["self", "people", "clauses", "lent"]) 4 1 (by intro z; cases z) rfl fun T _ _ _ _ _ _ us its hu hi => match us, its, hu, hi with | [_, _, _, _], [_], _, _ => ⟨_, rfl, rfl⟩
theorem bx_deskUndo_b0 {f : Addr} {fd : FuncData} (F : FunD K "undo" "Desk.undo" (defArgs sDeskUndo) (defBody sDeskUndo) (defScope sDeskUndo) [V.int 1] [] f fd) : ∃ ds, Vals (([V.int 1] : List V).drop 0) ds ∧ Binds K fd ["self", "many"] ds := F.binds1 (ps := ["self", "many"]) 1 0 (by intro z; cases z) rfl fun T _ _ _ _ _ _ us its hu hi => match us, its, hu, hi with | [_], [_], _, _ => ⟨_, rfl, rfl⟩
theorem bx_deskUndo_b1 {f : Addr} {fd : FuncData} (F : FunD K "undo" "Desk.undo" (defArgs sDeskUndo) (defBody sDeskUndo) (defScope sDeskUndo) [V.int 1] [] f fd) : ∃ ds, Vals (([V.int 1] : List V).drop 1) ds ∧ Binds K fd ["self", "many"] ds := F.binds1 (ps := ["self", "many"]) 2 1 (by intro z; cases z) rfl fun T _ _ _ _ _ _ us its hu hi => match us, its, hu, hi with | [_, _], [_], _, _ => ⟨_, rfl, rfl⟩
end
theorem ex_mg {K : PySem.W.Frag} {h : Heap} {mg : Str → Option Value} {n : Str} {v : Int} (X : K.In h) (G : h.Ns mainGlobals mg) (e : ∃ t, PySem.W.nsIn K mainGlobals n = some (some (.int v t))) : ∃ t, mg n = some (.int v t) := by
  obtain ⟨t, e⟩ := e
  exact ⟨t, PySem.W.mg_of X G e⟩
theorem ex_mgS {K : PySem.W.Frag} {h : Heap} {mg : Str → Option Value} {n v : Str} (X : K.In h) (G : h.Ns mainGlobals mg) (e : ∃ t, PySem.W.nsIn K mainGlobals n = some (some (.str v t))) : ∃ t, mg n = some (.str v t) := by
  obtain ⟨t, e⟩ := e
  exact ⟨t, PySem.W.mg_of X G e⟩
theorem fnIn_of {K : PySem.W.Frag} {x q : Str} {st : Stmt} {f : Addr} {fd : FuncData} (F : Fun K x q st f fd) : PySem.W.fnIn K f = true := by
  obtain ⟨oc, od, kV, doc, pm, an, cdv, ct, osl, rfl, lk, hcd⟩ := F.ex
  unfold PySem.W.fnIn
  rw [lk]
theorem kit_self (K : PySem.W.Frag) (C : Addr) : PySem.W.kitOne K (.ref C) (.ref C) = some true := by
  unfold PySem.W.kitOne
  rw [if_pos (by simp)]
theorem et_of {K : PySem.W.Frag} {t : Addr} {od : Option Addr} {n : Nat} {sl : Array (Option Value)} (e : K.lookup t = some ⟨.type "tuple", od, .seq #[] n, sl⟩) : ∀ H : Hp, SqT K H t [] := fun H => .inr ⟨_, #[], n, e, rfl, rfl, Nat.zero_le _, .nil⟩
/-- the facts of the top together; the law by its promise -/
theorem all_mk {P : Program} {K : PySem.W.Frag} {h : Heap} {mg : Str → Option Value} {et et2 badRow_C badRow_f desk_rowp filling_C desk_C trial_C clause_C book_C tr_f cd : Addr} {tr_d : FuncData} (X : K.In h) (G : h.Ns mainGlobals mg)
    (C_filling : ClsG K mg "Filling" filling_C)
    (n_filling_own_who : PySem.W.findIn K (.ref filling_C) "own_who" = some none)
    (n_filling_held : PySem.W.findIn K (.ref filling_C) "held" = some none)
    (C_desk : ClsG K mg "Desk" desk_C)
    (n_desk_own_book : PySem.W.findIn K (.ref desk_C) "own_book" = some none)
    (n_desk_own_row : PySem.W.findIn K (.ref desk_C) "own_row" = some none)
    (C_trial : ClsG K mg "Trial" trial_C)
    (n_trial_held_desk : PySem.W.findIn K (.ref trial_C) "held_desk" = some none)
    (n_trial_row_ahead : PySem.W.findIn K (.ref trial_C) "row_ahead" = some none)
    (C_clause : ClsG K mg "Clause" clause_C)
    (n_clause_people : PySem.W.findIn K (.ref clause_C) "people" = some none)
    (n_clause_slots : PySem.W.findIn K (.ref clause_C) "slots" = some none)
    (n_clause_cap : PySem.W.findIn K (.ref clause_C) "cap" = some none)
    (n_clause_sums : PySem.W.findIn K (.ref clause_C) "sums" = some none)
    (C_book : ClsG K mg "Book" book_C)
    (n_book_people : PySem.W.findIn K (.ref book_C) "people" = some none)
    (n_book_clauses : PySem.W.findIn K (.ref book_C) "clauses" = some none)
    (n_book_lent : PySem.W.findIn K (.ref book_C) "lent" = some none)
    (D_isWord : DefG K mg "is_word" sIsWord ["thing"])
    (D_isNumber : DefG K mg "is_number" sIsNumber ["thing"])
    (D_isFrom : DefG K mg "is_from" sIsFrom ["thing", "least"])
    (D_isAmong : DefG K mg "is_among" sIsAmong ["thing", "least", "most"])
    (D_areRising : DefG K mg "are_rising" sAreRising ["items"])
    (D_areWords : DefG K mg "are_words" sAreWords ["thing"])
    (D_needPeople : DefG K mg "need_people" sNeedPeople ["thing"])
    (D_isLot : DefG K mg "is_lot" sIsLot ["people", "thing"])
    (D_needLot : DefG K mg "need_lot" sNeedLot ["people", "thing"])
    (D_lentOn : DefG K mg "lent_on" sLentOn ["book", "person"])
    (D_whoMay : DefG K mg "who_may" sWhoMay ["book", "number"])
    (D_fillInit : DefM K filling_C "__init__" "Filling.__init__" sFillInit ["self", "book", "lot", "number"])
    (D_fillPut : DefM K filling_C "put" "Filling.put" sFillPut ["self", "slot", "tried"])
    (D_fillFailing : DefM K filling_C "failing" "Filling.failing" sFillFailing ["self"])
    (D_fillInOrder : DefM K filling_C "in_order" "Filling.in_order" sFillInOrder ["self"])
    (D_triedOut : DefG K mg "tried_out" sTriedOut ["book", "lot", "number"])
    (D_doesSign : DefG K mg "does_sign" sDoesSign ["book", "lot", "number"])
    (D_isPayment : DefG K mg "is_payment" sIsPayment ["book", "thing"])
    (D_isRow : DefG K mg "is_row" sIsRow ["book", "thing"])
    (D_paidWithin : DefG K mg "paid_within" sPaidWithin ["row", "number", "start", "size"])
    (D_holdsBy : DefG K mg "holds_by" sHoldsBy ["book", "row", "number"])
    (D_keeps : DefG K mg "keeps" sKeeps ["book", "row"])
    (D_deskInit : DefM K desk_C "__init__" "Desk.__init__" sDeskInit ["self", "book"])
    (D_deskRow : ∃ f fd, Fun K "row" "Desk.row" sDeskRow f fd ∧ Binds K fd ["self"] [] ∧ PropOf K desk_C "row" desk_rowp f)
    (D_deskLen : DefM K desk_C "__len__" "Desk.__len__" sDeskLen ["self"])
    (D_deskEq : DefM K desk_C "__eq__" "Desk.__eq__" sDeskEq ["self", "other"])
    (D_deskDay : DefM K desk_C "day" "Desk.day" sDeskDay ["self"])
    (D_deskPay : DefM K desk_C "pay" "Desk.pay" sDeskPay ["self", "lot", "payment"])
    (D_deskUndo : DefD K desk_C "undo" "Desk.undo" sDeskUndo [V.int 1])
    (D_deskTrial : DefM K desk_C "trial" "Desk.trial" sDeskTrial ["self"])
    (D_trialInit : DefM K trial_C "__init__" "Trial.__init__" sTrialInit ["self", "desk"])
    (D_trialEnter : DefM K trial_C "__enter__" "Trial.__enter__" sTrialEnter ["self"])
    (D_trialExit : DefM K trial_C "__exit__" "Trial.__exit__" sTrialExit ["self", "kind", "value", "trace"])
    (D_tried : DefG K mg "tried" sTried ["desk", "function"])
    (D_areSlots : DefG K mg "are_slots" sAreSlots ["people", "thing"])
    (D_isSum : DefG K mg "is_sum" sIsSum ["thing"])
    (D_areSums : DefG K mg "are_sums" sAreSums ["thing"])
    (D_clauseInit : DefD K clause_C "__init__" "Clause.__init__" sClauseInit [V.non, V.ref et2])
    (D_clauseFields : DefM K clause_C "fields" "Clause.fields" sClauseFields ["self"])
    (D_clauseEq : DefM K clause_C "__eq__" "Clause.__eq__" sClauseEq ["self", "other"])
    (D_isClause : DefG K mg "is_clause" sIsClause ["people", "thing"])
    (D_areLent : DefG K mg "are_lent" sAreLent ["people", "thing"])
    (D_bookInit : DefD K book_C "__init__" "Book.__init__" sBookInit [V.ref et])
    (D_bookLen : DefM K book_C "__len__" "Book.__len__" sBookLen ["self"])
    (D_bookGet : DefM K book_C "__getitem__" "Book.__getitem__" sBookGet ["self", "number"])
    (D_bookEq : DefM K book_C "__eq__" "Book.__eq__" sBookEq ["self", "other"])
    (D_bookAdding : DefM K book_C "adding" "Book.adding" sBookAdding ["self", "clause"])
    (D_begun : DefG K mg "_law_begun" sBegun ["script"])
    (D_next : DefG K mg "_law_next" sNext ["m", "many"])
    (D_names : DefG K mg "_law_names" sNames ["m", "many"])
    (D_folk : DefG K mg "_law_folk" sFolk ["m", "size"])
    (D_shown : DefG K mg "_law_shown" sShown ["live"])
    (D_led : DefG K mg "_law_led" sLed ["live", "lot", "amounts"])
    (D_fails : DefG K mg "_law_fails" sFails ["live"])
    (D_breaks : DefG K mg "_law_breaks" sBreaks ["live"])
    (D_endsRight : DefG K mg "_law_ends_right" sEndsRight ["live", "due"])
    (z_isinstance : PySem.W.nsIn K mainGlobals "isinstance" = some none)
    (z_str : PySem.W.nsIn K mainGlobals "str" = some none)
    (z_int : PySem.W.nsIn K mainGlobals "int" = some none)
    (z_bool : PySem.W.nsIn K mainGlobals "bool" = some none)
    (z_tuple : PySem.W.nsIn K mainGlobals "tuple" = some none)
    (z_list : PySem.W.nsIn K mainGlobals "list" = some none)
    (z_len : PySem.W.nsIn K mainGlobals "len" = some none)
    (z_all : PySem.W.nsIn K mainGlobals "all" = some none)
    (z_any : PySem.W.nsIn K mainGlobals "any" = some none)
    (z_zip : PySem.W.nsIn K mainGlobals "zip" = some none)
    (z_sorted : PySem.W.nsIn K mainGlobals "sorted" = some none)
    (z_set : PySem.W.nsIn K mainGlobals "set" = some none)
    (z_sum : PySem.W.nsIn K mainGlobals "sum" = some none)
    (z_min : PySem.W.nsIn K mainGlobals "min" = some none)
    (z_max : PySem.W.nsIn K mainGlobals "max" = some none)
    (z_range : PySem.W.nsIn K mainGlobals "range" = some none)
    (z_enumerate : PySem.W.nsIn K mainGlobals "enumerate" = some none)
    (z_KeyError : PySem.W.nsIn K mainGlobals "KeyError" = some none)
    (k_MOST_PEOPLE : ∃ t, PySem.W.nsIn K mainGlobals "MOST_PEOPLE" = some (some (.int 6 t)))
    (k_MOST_LETTERS : ∃ t, PySem.W.nsIn K mainGlobals "MOST_LETTERS" = some (some (.int 8 t)))
    (k_MOST_SLOTS : ∃ t, PySem.W.nsIn K mainGlobals "MOST_SLOTS" = some (some (.int 4 t)))
    (k_MOST_SUMS : ∃ t, PySem.W.nsIn K mainGlobals "MOST_SUMS" = some (some (.int 3 t)))
    (k_MOST_DAYS : ∃ t, PySem.W.nsIn K mainGlobals "MOST_DAYS" = some (some (.int 7 t)))
    (k_MOST_CLAUSES : ∃ t, PySem.W.nsIn K mainGlobals "MOST_CLAUSES" = some (some (.int 5 t)))
    (k_LETTERS : ∃ t, PySem.W.nsIn K mainGlobals "LETTERS" = some (some (.str "abcdefghijklmnopqrstuvwxyz" t)))
    (et_ok : ∀ H : Hp, SqT K H et [])
    (badRow : PySem.BadX.BadTxt P K mg "BadRow" badRow_C badRow_f)
    (cc : PySem.W.specialIn K (.builtin "object.__class__") "__get__" = some (some (.builtin "getset_descriptor.__get__")))
    (ct : PySem.W.takesIn K (.builtin "object.__class__") = some true)
    (desk_ca : PySem.W.findIn K (.ref desk_C) "__class__" = some (some (.builtin "object.__class__")))
    (desk_cm : PySem.W.mroIn K desk_C (.type "object") = some true)
    (clause_ca : PySem.W.findIn K (.ref clause_C) "__class__" = some (some (.builtin "object.__class__")))
    (clause_cm : PySem.W.mroIn K clause_C (.type "object") = some true)
    (book_ca : PySem.W.findIn K (.ref book_C) "__class__" = some (some (.builtin "object.__class__")))
    (book_cm : PySem.W.mroIn K book_C (.type "object") = some true)
    (desk_ne : PySem.W.findIn K (.ref desk_C) "__ne__" = some (some (.builtin "object.__ne__")))
    (desk_nb : PySem.W.kitOne K (.ref book_C) (.ref desk_C) = some false)
    (desk_fb : PySem.W.notFirst K desk_C (.ref book_C) = true)
    (desk_nn : PySem.W.kitOne K (.type "NoneType") (.ref desk_C) = some false)
    (desk_fn : PySem.W.notFirst K desk_C (.type "NoneType") = true)
    (desk_ni : PySem.W.kitOne K (.type "int") (.ref desk_C) = some false)
    (desk_fi : PySem.W.notFirst K desk_C (.type "int") = true)
    (desk_nt : PySem.W.kitOne K (.type "tuple") (.ref desk_C) = some false)
    (desk_ft : PySem.W.notFirst K desk_C (.type "tuple") = true)
    (ne_db : desk_C ≠ book_C)
    (ne_bc : book_C ≠ clause_C)
    (ne_dc : desk_C ≠ clause_C)
    (ne_dt : desk_C ≠ trial_C)
    (tr_F : Fun K "_law_trial_right" "_law_trial_right" sTrialRight tr_f tr_d) (tr_C : FunC K "_law_trial_right" "_law_trial_right" sTrialRight tr_f tr_d cd) (tr_b : Binds K tr_d ["live", "lot", "some", "more"] []) (tr_g : mg "_law_trial_right" = some (.ref tr_f)) :
    ∃ T : TX P K mg, FunC K "_law_trial_right" "_law_trial_right" sTrialRight T.trialRight_f T.trialRight_d cd := by
  obtain ⟨isWord_f, isWord_d, isWord_F, isWord_b, isWord_g⟩ := D_isWord
  obtain ⟨isNumber_f, isNumber_d, isNumber_F, isNumber_b, isNumber_g⟩ := D_isNumber
  obtain ⟨isFrom_f, isFrom_d, isFrom_F, isFrom_b, isFrom_g⟩ := D_isFrom
  obtain ⟨isAmong_f, isAmong_d, isAmong_F, isAmong_b, isAmong_g⟩ := D_isAmong
  obtain ⟨areRising_f, areRising_d, areRising_F, areRising_b, areRising_g⟩ := D_areRising
  obtain ⟨areWords_f, areWords_d, areWords_F, areWords_b, areWords_g⟩ := D_areWords
  obtain ⟨needPeople_f, needPeople_d, needPeople_F, needPeople_b, needPeople_g⟩ := D_needPeople
  obtain ⟨isLot_f, isLot_d, isLot_F, isLot_b, isLot_g⟩ := D_isLot
  obtain ⟨needLot_f, needLot_d, needLot_F, needLot_b, needLot_g⟩ := D_needLot
  obtain ⟨lentOn_f, lentOn_d, lentOn_F, lentOn_b, lentOn_g⟩ := D_lentOn
  obtain ⟨whoMay_f, whoMay_d, whoMay_F, whoMay_b, whoMay_g⟩ := D_whoMay
  obtain ⟨fillInit_f, fillInit_d, fillInit_F, fillInit_b, fillInit_m⟩ := D_fillInit
  obtain ⟨fillPut_f, fillPut_d, fillPut_F, fillPut_b, fillPut_m⟩ := D_fillPut
  obtain ⟨fillFailing_f, fillFailing_d, fillFailing_F, fillFailing_b, fillFailing_m⟩ := D_fillFailing
  obtain ⟨fillInOrder_f, fillInOrder_d, fillInOrder_F, fillInOrder_b, fillInOrder_m⟩ := D_fillInOrder
  obtain ⟨triedOut_f, triedOut_d, triedOut_F, triedOut_b, triedOut_g⟩ := D_triedOut
  obtain ⟨doesSign_f, doesSign_d, doesSign_F, doesSign_b, doesSign_g⟩ := D_doesSign
  obtain ⟨isPayment_f, isPayment_d, isPayment_F, isPayment_b, isPayment_g⟩ := D_isPayment
  obtain ⟨isRow_f, isRow_d, isRow_F, isRow_b, isRow_g⟩ := D_isRow
  obtain ⟨paidWithin_f, paidWithin_d, paidWithin_F, paidWithin_b, paidWithin_g⟩ := D_paidWithin
  obtain ⟨holdsBy_f, holdsBy_d, holdsBy_F, holdsBy_b, holdsBy_g⟩ := D_holdsBy
  obtain ⟨keeps_f, keeps_d, keeps_F, keeps_b, keeps_g⟩ := D_keeps
  obtain ⟨deskInit_f, deskInit_d, deskInit_F, deskInit_b, deskInit_m⟩ := D_deskInit
  obtain ⟨deskRow_f, deskRow_d, deskRow_F, deskRow_b, deskRow_p⟩ := D_deskRow
  obtain ⟨deskLen_f, deskLen_d, deskLen_F, deskLen_b, deskLen_m⟩ := D_deskLen
  obtain ⟨deskEq_f, deskEq_d, deskEq_F, deskEq_b, deskEq_m⟩ := D_deskEq
  obtain ⟨deskDay_f, deskDay_d, deskDay_F, deskDay_b, deskDay_m⟩ := D_deskDay
  obtain ⟨deskPay_f, deskPay_d, deskPay_F, deskPay_b, deskPay_m⟩ := D_deskPay
  obtain ⟨deskUndo_f, deskUndo_d, deskUndo_F, deskUndo_m⟩ := D_deskUndo
  obtain ⟨deskTrial_f, deskTrial_d, deskTrial_F, deskTrial_b, deskTrial_m⟩ := D_deskTrial
  obtain ⟨trialInit_f, trialInit_d, trialInit_F, trialInit_b, trialInit_m⟩ := D_trialInit
  obtain ⟨trialEnter_f, trialEnter_d, trialEnter_F, trialEnter_b, trialEnter_m⟩ := D_trialEnter
  obtain ⟨trialExit_f, trialExit_d, trialExit_F, trialExit_b, trialExit_m⟩ := D_trialExit
  obtain ⟨tried_f, tried_d, tried_F, tried_b, tried_g⟩ := D_tried
  obtain ⟨areSlots_f, areSlots_d, areSlots_F, areSlots_b, areSlots_g⟩ := D_areSlots
  obtain ⟨isSum_f, isSum_d, isSum_F, isSum_b, isSum_g⟩ := D_isSum
  obtain ⟨areSums_f, areSums_d, areSums_F, areSums_b, areSums_g⟩ := D_areSums
  obtain ⟨clauseInit_f, clauseInit_d, clauseInit_F, clauseInit_m⟩ := D_clauseInit
  obtain ⟨clauseFields_f, clauseFields_d, clauseFields_F, clauseFields_b, clauseFields_m⟩ := D_clauseFields
  obtain ⟨clauseEq_f, clauseEq_d, clauseEq_F, clauseEq_b, clauseEq_m⟩ := D_clauseEq
  obtain ⟨isClause_f, isClause_d, isClause_F, isClause_b, isClause_g⟩ := D_isClause
  obtain ⟨areLent_f, areLent_d, areLent_F, areLent_b, areLent_g⟩ := D_areLent
  obtain ⟨bookInit_f, bookInit_d, bookInit_F, bookInit_m⟩ := D_bookInit
  obtain ⟨bookLen_f, bookLen_d, bookLen_F, bookLen_b, bookLen_m⟩ := D_bookLen
  obtain ⟨bookGet_f, bookGet_d, bookGet_F, bookGet_b, bookGet_m⟩ := D_bookGet
  obtain ⟨bookEq_f, bookEq_d, bookEq_F, bookEq_b, bookEq_m⟩ := D_bookEq
  obtain ⟨bookAdding_f, bookAdding_d, bookAdding_F, bookAdding_b, bookAdding_m⟩ := D_bookAdding
  obtain ⟨begun_f, begun_d, begun_F, begun_b, begun_g⟩ := D_begun
  obtain ⟨next_f, next_d, next_F, next_b, next_g⟩ := D_next
  obtain ⟨names_f, names_d, names_F, names_b, names_g⟩ := D_names
  obtain ⟨folk_f, folk_d, folk_F, folk_b, folk_g⟩ := D_folk
  obtain ⟨shown_f, shown_d, shown_F, shown_b, shown_g⟩ := D_shown
  obtain ⟨led_f, led_d, led_F, led_b, led_g⟩ := D_led
  obtain ⟨fails_f, fails_d, fails_F, fails_b, fails_g⟩ := D_fails
  obtain ⟨breaks_f, breaks_d, breaks_F, breaks_b, breaks_g⟩ := D_breaks
  obtain ⟨endsRight_f, endsRight_d, endsRight_F, endsRight_b, endsRight_g⟩ := D_endsRight
  exact ⟨{ filling_C := filling_C, filling_c := C_filling.1, filling_g := C_filling.2.2.2, filling_own_who := n_filling_own_who, filling_held := n_filling_held, desk_C := desk_C, desk_c := C_desk.1, desk_g := C_desk.2.2.2, desk_own_book := n_desk_own_book, desk_own_row := n_desk_own_row, trial_C := trial_C, trial_c := C_trial.1, trial_g := C_trial.2.2.2, trial_held_desk := n_trial_held_desk, trial_row_ahead := n_trial_row_ahead, clause_C := clause_C, clause_c := C_clause.1, clause_g := C_clause.2.2.2, clause_people := n_clause_people, clause_slots := n_clause_slots, clause_cap := n_clause_cap, clause_sums := n_clause_sums, book_C := book_C, book_c := C_book.1, book_g := C_book.2.2.2, book_people := n_book_people, book_clauses := n_book_clauses, book_lent := n_book_lent, isWord_f := isWord_f, isWord_d := isWord_d, isWord_F := isWord_F, isWord_b := isWord_b, isWord_g := isWord_g, isNumber_f := isNumber_f, isNumber_d := isNumber_d, isNumber_F := isNumber_F, isNumber_b := isNumber_b, isNumber_g := isNumber_g, isFrom_f := isFrom_f, isFrom_d := isFrom_d, isFrom_F := isFrom_F, isFrom_b := isFrom_b, isFrom_g := isFrom_g, isAmong_f := isAmong_f, isAmong_d := isAmong_d, isAmong_F := isAmong_F, isAmong_b := isAmong_b, isAmong_g := isAmong_g, areRising_f := areRising_f, areRising_d := areRising_d, areRising_F := areRising_F, areRising_b := areRising_b, areRising_g := areRising_g, areWords_f := areWords_f, areWords_d := areWords_d, areWords_F := areWords_F, areWords_b := areWords_b, areWords_g := areWords_g, needPeople_f := needPeople_f, needPeople_d := needPeople_d, needPeople_F := needPeople_F, needPeople_b := needPeople_b, needPeople_g := needPeople_g, isLot_f := isLot_f, isLot_d := isLot_d, isLot_F := isLot_F, isLot_b := isLot_b, isLot_g := isLot_g, needLot_f := needLot_f, needLot_d := needLot_d, needLot_F := needLot_F, needLot_b := needLot_b, needLot_g := needLot_g, lentOn_f := lentOn_f, lentOn_d := lentOn_d, lentOn_F := lentOn_F, lentOn_b := lentOn_b, lentOn_g := lentOn_g, whoMay_f := whoMay_f, whoMay_d := whoMay_d, whoMay_F := whoMay_F, whoMay_b := whoMay_b, whoMay_g := whoMay_g, fillInit_f := fillInit_f, fillInit_d := fillInit_d, fillInit_F := fillInit_F, fillInit_b := fillInit_b, fillPut_f := fillPut_f, fillPut_d := fillPut_d, fillPut_F := fillPut_F, fillPut_b := fillPut_b, fillFailing_f := fillFailing_f, fillFailing_d := fillFailing_d, fillFailing_F := fillFailing_F, fillFailing_b := fillFailing_b, fillInOrder_f := fillInOrder_f, fillInOrder_d := fillInOrder_d, fillInOrder_F := fillInOrder_F, fillInOrder_b := fillInOrder_b, triedOut_f := triedOut_f, triedOut_d := triedOut_d, triedOut_F := triedOut_F, triedOut_b := triedOut_b, triedOut_g := triedOut_g, doesSign_f := doesSign_f, doesSign_d := doesSign_d, doesSign_F := doesSign_F, doesSign_b := doesSign_b, doesSign_g := doesSign_g, isPayment_f := isPayment_f, isPayment_d := isPayment_d, isPayment_F := isPayment_F, isPayment_b := isPayment_b, isPayment_g := isPayment_g, isRow_f := isRow_f, isRow_d := isRow_d, isRow_F := isRow_F, isRow_b := isRow_b, isRow_g := isRow_g, paidWithin_f := paidWithin_f, paidWithin_d := paidWithin_d, paidWithin_F := paidWithin_F, paidWithin_b := paidWithin_b, paidWithin_g := paidWithin_g, holdsBy_f := holdsBy_f, holdsBy_d := holdsBy_d, holdsBy_F := holdsBy_F, holdsBy_b := holdsBy_b, holdsBy_g := holdsBy_g, keeps_f := keeps_f, keeps_d := keeps_d, keeps_F := keeps_F, keeps_b := keeps_b, keeps_g := keeps_g, deskInit_f := deskInit_f, deskInit_d := deskInit_d, deskInit_F := deskInit_F, deskInit_b := deskInit_b, deskRow_f := deskRow_f, deskRow_d := deskRow_d, deskRow_F := deskRow_F, deskRow_b := deskRow_b, desk_rowp := desk_rowp, desk_row := deskRow_p, deskLen_f := deskLen_f, deskLen_d := deskLen_d, deskLen_F := deskLen_F, deskLen_b := deskLen_b, deskEq_f := deskEq_f, deskEq_d := deskEq_d, deskEq_F := deskEq_F, deskEq_b := deskEq_b, deskDay_f := deskDay_f, deskDay_d := deskDay_d, deskDay_F := deskDay_F, deskDay_b := deskDay_b, deskPay_f := deskPay_f, deskPay_d := deskPay_d, deskPay_F := deskPay_F, deskPay_b := deskPay_b, deskUndo_f := deskUndo_f, deskUndo_d := deskUndo_d, deskUndo_F := deskUndo_F, deskTrial_f := deskTrial_f, deskTrial_d := deskTrial_d, deskTrial_F := deskTrial_F, deskTrial_b := deskTrial_b, trialInit_f := trialInit_f, trialInit_d := trialInit_d, trialInit_F := trialInit_F, trialInit_b := trialInit_b, trialEnter_f := trialEnter_f, trialEnter_d := trialEnter_d, trialEnter_F := trialEnter_F, trialEnter_b := trialEnter_b, trialExit_f := trialExit_f, trialExit_d := trialExit_d, trialExit_F := trialExit_F, trialExit_b := trialExit_b, tried_f := tried_f, tried_d := tried_d, tried_F := tried_F, tried_b := tried_b, tried_g := tried_g, areSlots_f := areSlots_f, areSlots_d := areSlots_d, areSlots_F := areSlots_F, areSlots_b := areSlots_b, areSlots_g := areSlots_g, isSum_f := isSum_f, isSum_d := isSum_d, isSum_F := isSum_F, isSum_b := isSum_b, isSum_g := isSum_g, areSums_f := areSums_f, areSums_d := areSums_d, areSums_F := areSums_F, areSums_b := areSums_b, areSums_g := areSums_g, clauseInit_f := clauseInit_f, clauseInit_d := clauseInit_d, clauseInit_F := clauseInit_F, clauseFields_f := clauseFields_f, clauseFields_d := clauseFields_d, clauseFields_F := clauseFields_F, clauseFields_b := clauseFields_b, clauseEq_f := clauseEq_f, clauseEq_d := clauseEq_d, clauseEq_F := clauseEq_F, clauseEq_b := clauseEq_b, isClause_f := isClause_f, isClause_d := isClause_d, isClause_F := isClause_F, isClause_b := isClause_b, isClause_g := isClause_g, areLent_f := areLent_f, areLent_d := areLent_d, areLent_F := areLent_F, areLent_b := areLent_b, areLent_g := areLent_g, bookInit_f := bookInit_f, bookInit_d := bookInit_d, bookInit_F := bookInit_F, bookLen_f := bookLen_f, bookLen_d := bookLen_d, bookLen_F := bookLen_F, bookLen_b := bookLen_b, bookGet_f := bookGet_f, bookGet_d := bookGet_d, bookGet_F := bookGet_F, bookGet_b := bookGet_b, bookEq_f := bookEq_f, bookEq_d := bookEq_d, bookEq_F := bookEq_F, bookEq_b := bookEq_b, bookAdding_f := bookAdding_f, bookAdding_d := bookAdding_d, bookAdding_F := bookAdding_F, bookAdding_b := bookAdding_b, begun_f := begun_f, begun_d := begun_d, begun_F := begun_F, begun_b := begun_b, begun_g := begun_g, next_f := next_f, next_d := next_d, next_F := next_F, next_b := next_b, next_g := next_g, names_f := names_f, names_d := names_d, names_F := names_F, names_b := names_b, names_g := names_g, folk_f := folk_f, folk_d := folk_d, folk_F := folk_F, folk_b := folk_b, folk_g := folk_g, shown_f := shown_f, shown_d := shown_d, shown_F := shown_F, shown_b := shown_b, shown_g := shown_g, led_f := led_f, led_d := led_d, led_F := led_F, led_b := led_b, led_g := led_g, fails_f := fails_f, fails_d := fails_d, fails_F := fails_F, fails_b := fails_b, fails_g := fails_g, breaks_f := breaks_f, breaks_d := breaks_d, breaks_F := breaks_F, breaks_b := breaks_b, breaks_g := breaks_g, endsRight_f := endsRight_f, endsRight_d := endsRight_d, endsRight_F := endsRight_F, endsRight_b := endsRight_b, endsRight_g := endsRight_g, trialRight_f := tr_f, trialRight_d := tr_d, trialRight_F := tr_F, trialRight_b := tr_b, trialRight_g := tr_g, filling_m := mk_of C_filling fillInit_m, desk_m := mk_of C_desk deskInit_m, trial_m := mk_of C_trial trialInit_m, clause_m := mk_of C_clause clauseInit_m, book_m := mk_of C_book bookInit_m, fillPut_m := fillPut_m, fillFailing_m := fillFailing_m, fillInOrder_m := fillInOrder_m, deskDay_m := deskDay_m, deskPay_m := deskPay_m, deskUndo_m := deskUndo_m, deskTrial_m := deskTrial_m, trialEnter_m := trialEnter_m, trialExit_m := trialExit_m, clauseFields_m := clauseFields_m, bookAdding_m := bookAdding_m, clauseInit_b4 := bx_clauseInit_b4 clauseInit_F, bookInit_b2 := bx_bookInit_b2 bookInit_F, bookInit_b3 := bx_bookInit_b3 bookInit_F, deskUndo_b0 := bx_deskUndo_b0 deskUndo_F, deskUndo_b1 := bx_deskUndo_b1 deskUndo_F, z_isinstance := PySem.W.mg_none_of X G z_isinstance, z_str := PySem.W.mg_none_of X G z_str, z_int := PySem.W.mg_none_of X G z_int, z_bool := PySem.W.mg_none_of X G z_bool, z_tuple := PySem.W.mg_none_of X G z_tuple, z_list := PySem.W.mg_none_of X G z_list, z_len := PySem.W.mg_none_of X G z_len, z_all := PySem.W.mg_none_of X G z_all, z_any := PySem.W.mg_none_of X G z_any, z_zip := PySem.W.mg_none_of X G z_zip, z_sorted := PySem.W.mg_none_of X G z_sorted, z_set := PySem.W.mg_none_of X G z_set, z_sum := PySem.W.mg_none_of X G z_sum, z_min := PySem.W.mg_none_of X G z_min, z_max := PySem.W.mg_none_of X G z_max, z_range := PySem.W.mg_none_of X G z_range, z_enumerate := PySem.W.mg_none_of X G z_enumerate, z_KeyError := PySem.W.mg_none_of X G z_KeyError, k_MOST_PEOPLE := ex_mg X G k_MOST_PEOPLE, k_MOST_LETTERS := ex_mg X G k_MOST_LETTERS, k_MOST_SLOTS := ex_mg X G k_MOST_SLOTS, k_MOST_SUMS := ex_mg X G k_MOST_SUMS, k_MOST_DAYS := ex_mg X G k_MOST_DAYS, k_MOST_CLAUSES := ex_mg X G k_MOST_CLAUSES, k_LETTERS := ex_mgS X G k_LETTERS, et := et, et2 := et2, et_ok := et_ok, badRow_C := badRow_C, badRow_f := badRow_f, badRow := badRow, cc := cc, ct := ct, desk_ca := desk_ca, desk_cm := desk_cm, desk_is := kit_self K desk_C, desk_eq := deskEq_m.at_, desk_ef := deskEq_m.fn, clause_ca := clause_ca, clause_cm := clause_cm, clause_is := kit_self K clause_C, clause_eq := clauseEq_m.at_, clause_ef := clauseEq_m.fn, book_ca := book_ca, book_cm := book_cm, book_is := kit_self K book_C, book_eq := bookEq_m.at_, book_ef := bookEq_m.fn, desk_ne := desk_ne, desk_len := deskLen_m.at_, desk_lf := deskLen_m.fn, book_get := bookGet_m.at_, book_gf := bookGet_m.fn, book_gk := fnIn_of bookGet_F, desk_nb := desk_nb, desk_fb := desk_fb, desk_nn := desk_nn, desk_fn := desk_fn, desk_ni := desk_ni, desk_fi := desk_fi, desk_nt := desk_nt, desk_ft := desk_ft, ne_db := ne_db, ne_bc := ne_bc, ne_dc := ne_dc, ne_dt := ne_dt }, tr_C⟩
end Wm
/-! H2 -/
namespace Wm
open PySem PySem.Spec PyProof.Rows L2 LamX NdefX
theorem bad_mk {P : Program} {K : PySem.W.Frag} {h : Heap} {mg : Str → Option Value} {C fI : Addr} {nm q : Str} {N : Addr} {bs bm : List Value} {sn : List Str} {sub : List Value} {ab : Bool} {col : Option Bool} {dd : Option Addr} {k0 k1 k2 k3 k5 : Option Value}
    {oc : Value} {od : Option Addr} {doc pm : Value} {an : Option Addr} {cda cc : Addr} {ct : Value} {osl : Array (Option Value)} {vs : Array Value} {file : Str} {tf : Tok} {ccl cl : Value} {cdd cld : Option Addr} {ccs csl : Array (Option Value)} (X : K.In h) (G : h.Ns mainGlobals mg)
    (gC : PySem.W.nsIn K mainGlobals "BadRow" = some (some (.ref C)))
    (cls : K.lookup C = some (excClassObj nm q C N bs bm true sn sub ab col dd k0 k1 k2 k3 k5 "ValueError.__new__")) (bmo : PySem.HandSPX.refsVE bm = true)
    (sa : PySem.W.findIn K (.ref C) "__setattr__" = some (some (.builtin "object.__setattr__"))) (ga : PySem.W.findIn K (.ref C) "__getattribute__" = some (some (.builtin "BaseException.__getattribute__"))) (gg : PySem.W.findIn K (.ref C) "__getattr__" = some none)
    (noN : PySem.W.findIn K (.ref C) "value" = some none) (iC : PySem.W.findIn K (.ref C) "__init__" = some (some (.ref fI))) (tC : PySem.W.typeIn K (.ref fI) = some (.type "function")) (kC : PySem.W.keepIn K (.ref C) = true)
    (exC : PySem.W.subIn K (.ref C) (.type "BaseException") = some true) (veC : PySem.W.subIn K (.ref C) (.type "ValueError") = some true) (tyC : PySem.W.typeIn K (.ref C) = some (.type "type")) (hdC : PySem.W.hasDictIn K C = true) (isC : PySem.W.isClsIn K C = true) (sC : PySem.W.subIn K (.ref C) (.ref C) = some true)
    (sup : PySem.W.ks_superIn K C C "__init__" = some (some (.builtin "ValueError.__init__"))) (self : PySem.W.mroIn K C (.ref C) = some true) (opq : PySem.W.nsIn K PySem.cStatics "thirdparty.any" = some none) (noS : PySem.W.nsIn K mainGlobals "super" = some none)
    (main : (P.main.scope.names.lookup ("super" : Str)).isSome = false)
    (l : K.lookup fI = some ⟨oc, od, .func (PySem.W.fnX "__init__" (("BadRow" : Str) ++ ".__init__") PySem.BadX.iA PySem.BadX.iB PySem.BadX.iS [("__class__", cc)] .none .none doc pm an (.ref cda) ct), osl⟩) (c : PySem.W.codeIn K (.ref cda) (("BadRow" : Str) ++ ".__init__") = true)
    (lc : K.lookup cda = some ⟨ccl, cdd, .fields vs, ccs⟩) (lv : vs[2]? = some (.str file tf)) (fe : ((P.main.file : Str) == file) = true) (lcc : K.lookup cc = some ⟨cl, cld, .cell (some (.ref C)), csl⟩) : PySem.BadX.BadTxt P K mg "BadRow" C fI :=
  { gC := PySem.W.mg_of X G gC, cls := ⟨_, _, _, _, _, _, _, _, _, _, _, _, _, _, _, cls, bmo⟩, sa := sa, ga := ga, gg := gg, noN := noN, iC := iC, tC := tC, kC := kC, exC := exC, veC := veC, tyC := tyC, hdC := hdC, te := exm_self exC isC tyC sC, sup := sup, self := self, opq := opq,
    noS := PySem.W.mg_none_of X G noS, main := main, fn := ⟨_, _, _, _, _, _, _, _, _, _, _, _, _, _, _, _, _, _, l, c, lc, lv, fe, lcc⟩ }
theorem noAt {K : PySem.W.Frag} {mg : Str → Option Value} {x : Str} {C : Addr} (_ : ClsG K mg x C) {f : Str} (e : PySem.W.findIn K (.ref C) f = some none) : PySem.W.findIn K (.ref C) f = some none := e
theorem zAt {K : PySem.W.Frag} {h : Heap} (_ : K.In h) {x : Str} (e : PySem.W.nsIn K mainGlobals x = some none) : PySem.W.nsIn K mainGlobals x = some none := e
theorem cAt {K : PySem.W.Frag} {h : Heap} (_ : K.In h) {x : Str} {n : Int} {t : Tok} (e : PySem.W.nsIn K mainGlobals x = some (some (.int n t))) : ∃ t, PySem.W.nsIn K mainGlobals x = some (some (.int n t)) := ⟨t, e⟩
theorem sAt {K : PySem.W.Frag} {h : Heap} (_ : K.In h) {x n : Str} {t : Tok} (e : PySem.W.nsIn K mainGlobals x = some (some (.str n t))) : ∃ t, PySem.W.nsIn K mainGlobals x = some (some (.str n t)) := ⟨t, e⟩
theorem defM_mkC {K : PySem.W.Frag} {mg : Str → Option Value} {C : Addr} {y x q : Str} (_ : ClsG K mg y C) {st : Stmt} {ps : List Str} {f : Addr} {oc kV doc pm cdv ct : Value} {od an : Option Addr} {osl : Array (Option Value)}
    (a : PySem.W.findIn K (.ref C) x = some (some (.ref f))) (i : PySem.W.isFn K (.ref f) = true) (l : K.lookup f = some ⟨oc, od, .func (PySem.W.fnOf x q (defArgs st) (defBody st) (defScope st) .none kV doc pm an cdv ct), osl⟩) (c : PySem.W.codeIn K cdv q = true) (k : PySem.W.keepIn K (.ref f) = true)
    (b : ∀ (kV doc pm : Value) (an : Option Addr) (cdv ct : Value) (us : List Value), us.length = ps.length → bindArgs (PySem.W.fnOf x q (defArgs st) (defBody st) (defScope st) .none kV doc pm an cdv ct) ⟨us, []⟩ = pure (ps.zip us)) : DefM K C x q st ps := defM_mk a i l c k b
theorem defD_mkC {K : PySem.W.Frag} {mg : Str → Option Value} {C : Addr} {y x q : Str} (_ : ClsG K mg y C) {st : Stmt} {f t : Addr} {oc kV doc pm cdv ct : Value} {od an : Option Addr} {osl : Array (Option Value)} {dvs : List V} {to : Obj} {its : List Value} {n : Nat}
    (a : PySem.W.findIn K (.ref C) x = some (some (.ref f))) (i : PySem.W.isFn K (.ref f) = true) (l : K.lookup f = some ⟨oc, od, .func (PySem.W.fnOf x q (defArgs st) (defBody st) (defScope st) (.ref t) kV doc pm an cdv ct), osl⟩) (c : PySem.W.codeIn K cdv q = true) (k : PySem.W.keepIn K (.ref f) = true)
    (lt : K.lookup t = some to) (hd : to.data = .seq its.toArray n) (r : Vals dvs its) (ne : dvs ≠ []) : DefD K C x q st dvs := defD_mk a i l c k lt hd r ne
theorem row_mk {K : PySem.W.Frag} {mg : Str → Option Value} {C : Addr} {y : Str} (_ : ClsG K mg y C) {p f : Addr} {rest : List Value} {oc kV doc pm cdv ct : Value} {od an : Option Addr} {osl : Array (Option Value)}
    (a : PySem.W.findIn K (.ref C) "row" = some (some (.ref p))) (gt : PySem.W.specialIn K (.ref p) "__get__" = some (some (.builtin "property.__get__"))) (tk : PySem.W.takesIn K (.ref p) = some true) (r : PySem.W.recIn K p "property" = some (.ref f :: rest))
    (l : K.lookup f = some ⟨oc, od, .func (PySem.W.fnOf "row" "Desk.row" (defArgs sDeskRow) (defBody sDeskRow) (defScope sDeskRow) .none kV doc pm an cdv ct), osl⟩) (c : PySem.W.codeIn K cdv "Desk.row" = true) (k : PySem.W.keepIn K (.ref f) = true) :
    ∃ f fd, Fun K "row" "Desk.row" sDeskRow f fd ∧ Binds K fd ["self"] [] ∧ PropOf K C "row" p f := ⟨f, _, fun_mk l c k, (fun_mk l c k).binds bd_deskRow, ⟨a, gt, tk, rest, r⟩⟩
theorem tr_mk {K : PySem.W.Frag} {h : Heap} {mg : Str → Option Value} (X : K.In h) (G : h.Ns mainGlobals mg) {f cd : Addr} {oc kV doc pm ct : Value} {od an : Option Addr} {osl : Array (Option Value)} (a : PySem.W.nsIn K mainGlobals "_law_trial_right" = some (some (.ref f)))
    (l : K.lookup f = some ⟨oc, od, .func (PySem.W.fnOf "_law_trial_right" "_law_trial_right" (defArgs sTrialRight) (defBody sTrialRight) (defScope sTrialRight) .none kV doc pm an (.ref cd) ct), osl⟩) (c : PySem.W.codeIn K (.ref cd) "_law_trial_right" = true) (k : PySem.W.keepIn K (.ref f) = true) :
    ∃ fd, Fun K "_law_trial_right" "_law_trial_right" sTrialRight f fd ∧ FunC K "_law_trial_right" "_law_trial_right" sTrialRight f fd cd ∧ Binds K fd ["live", "lot", "some", "more"] [] ∧ mg "_law_trial_right" = some (.ref f) :=
  ⟨_, fun_mk l c k, ⟨⟨oc, od, kV, doc, pm, an, ct, osl, rfl, l, c⟩⟩, (fun_mk l c k).binds bd_trialRight, PySem.W.mg_of X G a⟩
theorem law_at {K : PySem.W.Frag} {w : World} {h : Heap} {mg : Str → Option Value} {cd Pt fa : Addr} (hT : h.get? Pt = some { cls := .none, data := .fields #[] }) (nT : K.lookup Pt = none) (cH : PySem.W.CodeHd h cd Pt) (hfa : mg "law" = some (.ref fa)) (L : DefG K mg "law" sLaw ["script"])
    (hX : ∃ T : TX PySem.Challenge.rw_whomaysign_k47_whole_desks_tried.prog K mg, FunC K "_law_trial_right" "_law_trial_right" sTrialRight T.trialRight_f T.trialRight_d cd) : LawAtS PySem.Challenge.rw_whomaysign_k47_whole_desks_tried w K CX0 21 63 "script" mg fa h := by
  obtain ⟨f, fd, FL, b, g⟩ := L
  obtain ⟨T, FC⟩ := hX
  have e := hfa.symm.trans g
  cases e
  refine ⟨fd, [(cd, Pt)], spLaw T Pt, fun p hp => ?_, fun p hp => ?_, fun p hp => ?_, ?_, fun H a ns hl hb hTb hS => ?_, fun base _ _ hTB => ok_law T FL FC (hTB _ (List.mem_singleton.mpr rfl))⟩
  · rw [List.mem_singleton.mp hp]; exact hT
  · rw [List.mem_singleton.mp hp]; exact nT
  · rw [List.mem_singleton.mp hp]; exact cH
  · obtain ⟨oc, od, kV, doc, pm, an, cdv, ct, osl, rfl, lk, hcd⟩ := FL.ex
    exact fun s u => .of_eq (bd_law kV doc pm an cdv ct [u] rfl)
  · exact ⟨a, ns, rfl, hS, Nat.lt_of_le_of_lt hl (by decide), TabR.nil (hTb _ (List.mem_singleton.mpr rfl)), fun H' => rfl⟩
end Wm
open PySem PySem.W PyProof.Rows
set_option maxRecDepth 100000 in
set_option maxHeartbeats 0 in
theorem PySem.Challenge.cw_whomaysign_k47_whole_desks_tried_holds : PySem.Challenge.rw_whomaysign_k47_whole_desks_tried.Holds := by
  w_on; o_law; k_head; (case hw => w_witness2)
  k_fill
  refine LamX.walk_ofTs (l := PySem.Challenge.rw_whomaysign_k47_whole_desks_tried) (n := 63) (k := 21) (CX := fun _ => L2.CX0) (x := "script") rfl (by decide) rfl ⟨rfl, by decide, by decide⟩ (fun w h Y => PySem.W.km_in_of Y) ?F (fun _ _ _ _ _ z => z)
  case F =>
    intro w mg fa h Y KX G hmg
    have hT8 := PySem.W.km_tabs_of Y
    have hT9 := hT8 _ List.mem_cons_self
    have C_filling := Wm.clsG_mk (x := "Filling") KX G (by k_is) (by k_is) (by k_is) (by k_is) (by k_is) (by k_is) (by k_is)
    have n_filling_own_who := Wm.noAt (C := _) C_filling (f := "own_who") (by k_is)
    have n_filling_held := Wm.noAt (C := _) C_filling (f := "held") (by k_is)
    have C_desk := Wm.clsG_mk (x := "Desk") KX G (by k_is) (by k_is) (by k_is) (by k_is) (by k_is) (by k_is) (by k_is)
    have n_desk_own_book := Wm.noAt (C := _) C_desk (f := "own_book") (by k_is)
    have n_desk_own_row := Wm.noAt (C := _) C_desk (f := "own_row") (by k_is)
    have C_trial := Wm.clsG_mk (x := "Trial") KX G (by k_is) (by k_is) (by k_is) (by k_is) (by k_is) (by k_is) (by k_is)
    have n_trial_held_desk := Wm.noAt (C := _) C_trial (f := "held_desk") (by k_is)
    have n_trial_row_ahead := Wm.noAt (C := _) C_trial (f := "row_ahead") (by k_is)
    have C_clause := Wm.clsG_mk (x := "Clause") KX G (by k_is) (by k_is) (by k_is) (by k_is) (by k_is) (by k_is) (by k_is)
    have n_clause_people := Wm.noAt (C := _) C_clause (f := "people") (by k_is)
    have n_clause_slots := Wm.noAt (C := _) C_clause (f := "slots") (by k_is)
    have n_clause_cap := Wm.noAt (C := _) C_clause (f := "cap") (by k_is)
    have n_clause_sums := Wm.noAt (C := _) C_clause (f := "sums") (by k_is)
    have C_book := Wm.clsG_mk (x := "Book") KX G (by k_is) (by k_is) (by k_is) (by k_is) (by k_is) (by k_is) (by k_is)
    have n_book_people := Wm.noAt (C := _) C_book (f := "people") (by k_is)
    have n_book_clauses := Wm.noAt (C := _) C_book (f := "clauses") (by k_is)
    have n_book_lent := Wm.noAt (C := _) C_book (f := "lent") (by k_is)
    have D_isWord := Wm.defG_mk (x := "is_word") (st := Wm.sIsWord) (ps := ["thing"]) KX G (by k_is) (by k_is) (by k_is) (by k_is) Wm.bd_isWord
    have D_isNumber := Wm.defG_mk (x := "is_number") (st := Wm.sIsNumber) (ps := ["thing"]) KX G (by k_is) (by k_is) (by k_is) (by k_is) Wm.bd_isNumber
    have D_isFrom := Wm.defG_mk (x := "is_from") (st := Wm.sIsFrom) (ps := ["thing", "least"]) KX G (by k_is) (by k_is) (by k_is) (by k_is) Wm.bd_isFrom
    have D_isAmong := Wm.defG_mk (x := "is_among") (st := Wm.sIsAmong) (ps := ["thing", "least", "most"]) KX G (by k_is) (by k_is) (by k_is) (by k_is) Wm.bd_isAmong
    have D_areRising := Wm.defG_mk (x := "are_rising") (st := Wm.sAreRising) (ps := ["items"]) KX G (by k_is) (by k_is) (by k_is) (by k_is) Wm.bd_areRising
    have D_areWords := Wm.defG_mk (x := "are_words") (st := Wm.sAreWords) (ps := ["thing"]) KX G (by k_is) (by k_is) (by k_is) (by k_is) Wm.bd_areWords
    have D_needPeople := Wm.defG_mk (x := "need_people") (st := Wm.sNeedPeople) (ps := ["thing"]) KX G (by k_is) (by k_is) (by k_is) (by k_is) Wm.bd_needPeople
    have D_isLot := Wm.defG_mk (x := "is_lot") (st := Wm.sIsLot) (ps := ["people", "thing"]) KX G (by k_is) (by k_is) (by k_is) (by k_is) Wm.bd_isLot
    have D_needLot := Wm.defG_mk (x := "need_lot") (st := Wm.sNeedLot) (ps := ["people", "thing"]) KX G (by k_is) (by k_is) (by k_is) (by k_is) Wm.bd_needLot
    have D_lentOn := Wm.defG_mk (x := "lent_on") (st := Wm.sLentOn) (ps := ["book", "person"]) KX G (by k_is) (by k_is) (by k_is) (by k_is) Wm.bd_lentOn
    have D_whoMay := Wm.defG_mk (x := "who_may") (st := Wm.sWhoMay) (ps := ["book", "number"]) KX G (by k_is) (by k_is) (by k_is) (by k_is) Wm.bd_whoMay
    have D_fillInit := Wm.defM_mkC C_filling (x := "__init__") (q := "Filling.__init__") (st := Wm.sFillInit) (ps := ["self", "book", "lot", "number"]) (by k_is) (by k_is) (by k_is) (by k_is) (by k_is) Wm.bd_fillInit
    have D_fillPut := Wm.defM_mkC C_filling (x := "put") (q := "Filling.put") (st := Wm.sFillPut) (ps := ["self", "slot", "tried"]) (by k_is) (by k_is) (by k_is) (by k_is) (by k_is) Wm.bd_fillPut
    have D_fillFailing := Wm.defM_mkC C_filling (x := "failing") (q := "Filling.failing") (st := Wm.sFillFailing) (ps := ["self"]) (by k_is) (by k_is) (by k_is) (by k_is) (by k_is) Wm.bd_fillFailing
    have D_fillInOrder := Wm.defM_mkC C_filling (x := "in_order") (q := "Filling.in_order") (st := Wm.sFillInOrder) (ps := ["self"]) (by k_is) (by k_is) (by k_is) (by k_is) (by k_is) Wm.bd_fillInOrder
    have D_triedOut := Wm.defG_mk (x := "tried_out") (st := Wm.sTriedOut) (ps := ["book", "lot", "number"]) KX G (by k_is) (by k_is) (by k_is) (by k_is) Wm.bd_triedOut
    have D_doesSign := Wm.defG_mk (x := "does_sign") (st := Wm.sDoesSign) (ps := ["book", "lot", "number"]) KX G (by k_is) (by k_is) (by k_is) (by k_is) Wm.bd_doesSign
    have D_isPayment := Wm.defG_mk (x := "is_payment") (st := Wm.sIsPayment) (ps := ["book", "thing"]) KX G (by k_is) (by k_is) (by k_is) (by k_is) Wm.bd_isPayment
    have D_isRow := Wm.defG_mk (x := "is_row") (st := Wm.sIsRow) (ps := ["book", "thing"]) KX G (by k_is) (by k_is) (by k_is) (by k_is) Wm.bd_isRow
    have D_paidWithin := Wm.defG_mk (x := "paid_within") (st := Wm.sPaidWithin) (ps := ["row", "number", "start", "size"]) KX G (by k_is) (by k_is) (by k_is) (by k_is) Wm.bd_paidWithin
    have D_holdsBy := Wm.defG_mk (x := "holds_by") (st := Wm.sHoldsBy) (ps := ["book", "row", "number"]) KX G (by k_is) (by k_is) (by k_is) (by k_is) Wm.bd_holdsBy
    have D_keeps := Wm.defG_mk (x := "keeps") (st := Wm.sKeeps) (ps := ["book", "row"]) KX G (by k_is) (by k_is) (by k_is) (by k_is) Wm.bd_keeps
    have D_deskInit := Wm.defM_mkC C_desk (x := "__init__") (q := "Desk.__init__") (st := Wm.sDeskInit) (ps := ["self", "book"]) (by k_is) (by k_is) (by k_is) (by k_is) (by k_is) Wm.bd_deskInit
    have D_deskRow := Wm.row_mk C_desk (by k_is) (by k_is) (by k_is) (by k_is) (by k_is) (by k_is) (by k_is)
    have D_deskLen := Wm.defM_mkC C_desk (x := "__len__") (q := "Desk.__len__") (st := Wm.sDeskLen) (ps := ["self"]) (by k_is) (by k_is) (by k_is) (by k_is) (by k_is) Wm.bd_deskLen
    have D_deskEq := Wm.defM_mkC C_desk (x := "__eq__") (q := "Desk.__eq__") (st := Wm.sDeskEq) (ps := ["self", "other"]) (by k_is) (by k_is) (by k_is) (by k_is) (by k_is) Wm.bd_deskEq
    have D_deskDay := Wm.defM_mkC C_desk (x := "day") (q := "Desk.day") (st := Wm.sDeskDay) (ps := ["self"]) (by k_is) (by k_is) (by k_is) (by k_is) (by k_is) Wm.bd_deskDay
    have D_deskPay := Wm.defM_mkC C_desk (x := "pay") (q := "Desk.pay") (st := Wm.sDeskPay) (ps := ["self", "lot", "payment"]) (by k_is) (by k_is) (by k_is) (by k_is) (by k_is) Wm.bd_deskPay
    have D_deskUndo := Wm.defD_mkC C_desk (x := "undo") (q := "Desk.undo") (st := Wm.sDeskUndo) (dvs := [.int 1]) (by k_is) (by k_is) (by k_is) (by k_is) (by k_is) (by k_is) rfl (.cons ⟨_, rfl⟩ .nil) (by intro z; cases z)
    have D_deskTrial := Wm.defM_mkC C_desk (x := "trial") (q := "Desk.trial") (st := Wm.sDeskTrial) (ps := ["self"]) (by k_is) (by k_is) (by k_is) (by k_is) (by k_is) Wm.bd_deskTrial
    have D_trialInit := Wm.defM_mkC C_trial (x := "__init__") (q := "Trial.__init__") (st := Wm.sTrialInit) (ps := ["self", "desk"]) (by k_is) (by k_is) (by k_is) (by k_is) (by k_is) Wm.bd_trialInit
    have D_trialEnter := Wm.defM_mkC C_trial (x := "__enter__") (q := "Trial.__enter__") (st := Wm.sTrialEnter) (ps := ["self"]) (by k_is) (by k_is) (by k_is) (by k_is) (by k_is) Wm.bd_trialEnter
    have D_trialExit := Wm.defM_mkC C_trial (x := "__exit__") (q := "Trial.__exit__") (st := Wm.sTrialExit) (ps := ["self", "kind", "value", "trace"]) (by k_is) (by k_is) (by k_is) (by k_is) (by k_is) Wm.bd_trialExit
    have D_tried := Wm.defG_mk (x := "tried") (st := Wm.sTried) (ps := ["desk", "function"]) KX G (by k_is) (by k_is) (by k_is) (by k_is) Wm.bd_tried
    have D_areSlots := Wm.defG_mk (x := "are_slots") (st := Wm.sAreSlots) (ps := ["people", "thing"]) KX G (by k_is) (by k_is) (by k_is) (by k_is) Wm.bd_areSlots
    have D_isSum := Wm.defG_mk (x := "is_sum") (st := Wm.sIsSum) (ps := ["thing"]) KX G (by k_is) (by k_is) (by k_is) (by k_is) Wm.bd_isSum
    have D_areSums := Wm.defG_mk (x := "are_sums") (st := Wm.sAreSums) (ps := ["thing"]) KX G (by k_is) (by k_is) (by k_is) (by k_is) Wm.bd_areSums
    have D_clauseInit := Wm.defD_mkC C_clause (x := "__init__") (q := "Clause.__init__") (st := Wm.sClauseInit) (dvs := [.non, .ref _]) (by k_is) (by k_is) (by k_is) (by k_is) (by k_is) (by k_is) rfl (.cons rfl (.cons rfl .nil)) (by intro z; cases z)
    have D_clauseFields := Wm.defM_mkC C_clause (x := "fields") (q := "Clause.fields") (st := Wm.sClauseFields) (ps := ["self"]) (by k_is) (by k_is) (by k_is) (by k_is) (by k_is) Wm.bd_clauseFields
    have D_clauseEq := Wm.defM_mkC C_clause (x := "__eq__") (q := "Clause.__eq__") (st := Wm.sClauseEq) (ps := ["self", "other"]) (by k_is) (by k_is) (by k_is) (by k_is) (by k_is) Wm.bd_clauseEq
    have D_isClause := Wm.defG_mk (x := "is_clause") (st := Wm.sIsClause) (ps := ["people", "thing"]) KX G (by k_is) (by k_is) (by k_is) (by k_is) Wm.bd_isClause
    have D_areLent := Wm.defG_mk (x := "are_lent") (st := Wm.sAreLent) (ps := ["people", "thing"]) KX G (by k_is) (by k_is) (by k_is) (by k_is) Wm.bd_areLent
    have D_bookInit := Wm.defD_mkC C_book (x := "__init__") (q := "Book.__init__") (st := Wm.sBookInit) (dvs := [.ref _]) (by k_is) (by k_is) (by k_is) (by k_is) (by k_is) (by k_is) rfl (.cons rfl .nil) (by intro z; cases z)
    have D_bookLen := Wm.defM_mkC C_book (x := "__len__") (q := "Book.__len__") (st := Wm.sBookLen) (ps := ["self"]) (by k_is) (by k_is) (by k_is) (by k_is) (by k_is) Wm.bd_bookLen
    have D_bookGet := Wm.defM_mkC C_book (x := "__getitem__") (q := "Book.__getitem__") (st := Wm.sBookGet) (ps := ["self", "number"]) (by k_is) (by k_is) (by k_is) (by k_is) (by k_is) Wm.bd_bookGet
    have D_bookEq := Wm.defM_mkC C_book (x := "__eq__") (q := "Book.__eq__") (st := Wm.sBookEq) (ps := ["self", "other"]) (by k_is) (by k_is) (by k_is) (by k_is) (by k_is) Wm.bd_bookEq
    have D_bookAdding := Wm.defM_mkC C_book (x := "adding") (q := "Book.adding") (st := Wm.sBookAdding) (ps := ["self", "clause"]) (by k_is) (by k_is) (by k_is) (by k_is) (by k_is) Wm.bd_bookAdding
    have D_begun := Wm.defG_mk (x := "_law_begun") (st := Wm.sBegun) (ps := ["script"]) KX G (by k_is) (by k_is) (by k_is) (by k_is) Wm.bd_begun
    have D_next := Wm.defG_mk (x := "_law_next") (st := Wm.sNext) (ps := ["m", "many"]) KX G (by k_is) (by k_is) (by k_is) (by k_is) Wm.bd_next
    have D_names := Wm.defG_mk (x := "_law_names") (st := Wm.sNames) (ps := ["m", "many"]) KX G (by k_is) (by k_is) (by k_is) (by k_is) Wm.bd_names
    have D_folk := Wm.defG_mk (x := "_law_folk") (st := Wm.sFolk) (ps := ["m", "size"]) KX G (by k_is) (by k_is) (by k_is) (by k_is) Wm.bd_folk
    have D_shown := Wm.defG_mk (x := "_law_shown") (st := Wm.sShown) (ps := ["live"]) KX G (by k_is) (by k_is) (by k_is) (by k_is) Wm.bd_shown
    have D_led := Wm.defG_mk (x := "_law_led") (st := Wm.sLed) (ps := ["live", "lot", "amounts"]) KX G (by k_is) (by k_is) (by k_is) (by k_is) Wm.bd_led
    have D_fails := Wm.defG_mk (x := "_law_fails") (st := Wm.sFails) (ps := ["live"]) KX G (by k_is) (by k_is) (by k_is) (by k_is) Wm.bd_fails
    have D_breaks := Wm.defG_mk (x := "_law_breaks") (st := Wm.sBreaks) (ps := ["live"]) KX G (by k_is) (by k_is) (by k_is) (by k_is) Wm.bd_breaks
    have D_endsRight := Wm.defG_mk (x := "_law_ends_right") (st := Wm.sEndsRight) (ps := ["live", "due"]) KX G (by k_is) (by k_is) (by k_is) (by k_is) Wm.bd_endsRight
    have D_law := Wm.defG_mk (x := "law") (st := Wm.sLaw) (ps := ["script"]) KX G (by k_is) (by k_is) (by k_is) (by k_is) Wm.bd_law
    have z_isinstance := Wm.zAt KX (x := "isinstance") (by k_is)
    have z_str := Wm.zAt KX (x := "str") (by k_is)
    have z_int := Wm.zAt KX (x := "int") (by k_is)
    have z_bool := Wm.zAt KX (x := "bool") (by k_is)
    have z_tuple := Wm.zAt KX (x := "tuple") (by k_is)
    have z_list := Wm.zAt KX (x := "list") (by k_is)
    have z_len := Wm.zAt KX (x := "len") (by k_is)
    have z_all := Wm.zAt KX (x := "all") (by k_is)
    have z_any := Wm.zAt KX (x := "any") (by k_is)
    have z_zip := Wm.zAt KX (x := "zip") (by k_is)
    have z_sorted := Wm.zAt KX (x := "sorted") (by k_is)
    have z_set := Wm.zAt KX (x := "set") (by k_is)
    have z_sum := Wm.zAt KX (x := "sum") (by k_is)
    have z_min := Wm.zAt KX (x := "min") (by k_is)
    have z_max := Wm.zAt KX (x := "max") (by k_is)
    have z_range := Wm.zAt KX (x := "range") (by k_is)
    have z_enumerate := Wm.zAt KX (x := "enumerate") (by k_is)
    have z_KeyError := Wm.zAt KX (x := "KeyError") (by k_is)
    have k_MOST_PEOPLE := Wm.cAt KX (x := "MOST_PEOPLE") (n := 6) (by k_is)
    have k_MOST_LETTERS := Wm.cAt KX (x := "MOST_LETTERS") (n := 8) (by k_is)
    have k_MOST_SLOTS := Wm.cAt KX (x := "MOST_SLOTS") (n := 4) (by k_is)
    have k_MOST_SUMS := Wm.cAt KX (x := "MOST_SUMS") (n := 3) (by k_is)
    have k_MOST_DAYS := Wm.cAt KX (x := "MOST_DAYS") (n := 7) (by k_is)
    have k_MOST_CLAUSES := Wm.cAt KX (x := "MOST_CLAUSES") (n := 5) (by k_is)
    have k_LETTERS := Wm.sAt KX (x := "LETTERS") (n := "abcdefghijklmnopqrstuvwxyz") (by k_is)
    have badRow := Wm.bad_mk (P := PySem.Challenge.rw_whomaysign_k47_whole_desks_tried.prog) KX G (by k_is) (by k_is) (by decide +kernel) (by k_is) (by k_is) (by k_is) (by k_is) (by k_is) (by k_is) (by k_is) (by k_is) (by k_is) (by k_is) (by k_is) (by k_is) (by k_is) (by kernel_rfl) (by k_is) (by k_is) (by k_is) (by decide +kernel) (by k_is) (by k_is) (by k_is) (by rfl) (by decide +kernel) (by k_is)
    obtain ⟨tr_d, tr_F, tr_C, tr_b, tr_g⟩ := Wm.tr_mk KX G (by k_is) (by k_is) (by k_is) (by k_is)
    exact Wm.law_at hT9 (by kernel_rfl) (PySem.W.codeHd_of_K KX (by kernel_rfl)) hmg D_law (Wm.all_mk KX G C_filling n_filling_own_who n_filling_held C_desk n_desk_own_book n_desk_own_row C_trial n_trial_held_desk n_trial_row_ahead C_clause n_clause_people n_clause_slots n_clause_cap n_clause_sums C_book n_book_people n_book_clauses n_book_lent D_isWord D_isNumber D_isFrom D_isAmong D_areRising D_areWords D_needPeople D_isLot D_needLot D_lentOn D_whoMay D_fillInit D_fillPut D_fillFailing D_fillInOrder D_triedOut D_doesSign D_isPayment D_isRow D_paidWithin D_holdsBy D_keeps D_deskInit D_deskRow D_deskLen D_deskEq D_deskDay D_deskPay D_deskUndo D_deskTrial D_trialInit D_trialEnter D_trialExit D_tried D_areSlots D_isSum D_areSums D_clauseInit D_clauseFields D_clauseEq D_isClause D_areLent D_bookInit D_bookLen D_bookGet D_bookEq D_bookAdding D_begun D_next D_names D_folk D_shown D_led D_fails D_breaks D_endsRight z_isinstance z_str z_int z_bool z_tuple z_list z_len z_all z_any z_zip z_sorted z_set z_sum z_min z_max z_range z_enumerate z_KeyError k_MOST_PEOPLE k_MOST_LETTERS k_MOST_SLOTS k_MOST_SUMS k_MOST_DAYS k_MOST_CLAUSES k_LETTERS (Wm.et_of (by k_is)) badRow (by k_is) (by k_is) (by k_is) (by k_is) (by k_is) (by k_is) (by k_is) (by k_is) (by k_is) (by kernel_rfl) (by k_is) (by kernel_rfl) (by k_is) (by kernel_rfl) (by k_is) (by kernel_rfl) (by k_is) (by decide) (by decide) (by decide) (by decide) tr_F tr_C tr_b tr_g)
