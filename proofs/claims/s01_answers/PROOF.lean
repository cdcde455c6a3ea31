import PyProof.Rows.All
import Wide.All
import OpenK.AllK
import Wide.FinOn
import PyProof.EqAt
import PyProof.EqKinds
import PyProof.TupleCall
import Open.SpecLaws
import KE.OsGo
import HandS.ForSpec
import HandS.TryMany
import HandS.Comp
import HandS.Dict
import HandS.Iter
import HandS.Text
import HandS.Walk
import HandS.SortInts
import HandS.Strs
import HandS.DictComp
import HandS.ExcInit
import HandS.ExcField
import HandS.ExcCtx
import HandS.Hot
import HandS.HotCalls
import HandS.SuiteRaise
import HandS.RaiseFrom
import HandS.ExcInitHot
import HandS.CallSlots
import KE.KExcNote
import HandS.ClsMeth
import PySem.Challenge.RW_taflahead_s01_answers
set_option Elab.async false
set_option linter.all false
set_option maxRecDepth 100000
set_option maxHeartbeats 4000000
/-! # Rules of this claim's own, beside the hand layer -/
namespace Tf
open PySem PySem.Spec PyProof.Rows L2
section
variable {P : Program} {w : World} {K : PySem.W.Frag} {mg : Str → Option Value} {base : Heap}
/-- a def by its body, whatever its way with exceptions -/
theorem okG {CX : CXT} {x qual : Str} {st : Stmt} {f : Addr} {fd : FuncData} {N ps : List Str} {k : Nat} {sp : Sp} (F : Fun K x qual st f fd) (S : FnScope N ps (defScope st)) (len : ∀ vs H Q E, sp vs H Q E → vs.length = ps.length)
    (hbody : ∀ (cdv : Value) (A : Around) (outer : List Env) (s : Shared) (H : Hp) (vs : List V) (Q : VK) (E : XK), Room k (A.deeper (envOfC qual (defScope st) s.heap.objs.size f cdv)) → sp vs H Q E →
      ∃ t, PSs (cxOf CX P w K mg base N qual (defScope st) f cdv A outer s H E) (defBody st) t ∧ t { nx := fun _ H' => Q .non H', rt := Q } (start N vs) H) : FnOk P w K mg base CX (k + 1) f fd ps sp := by
  obtain ⟨oc, od, kV, doc, pm, an, cdv, ct, osl, rfl, lk, hcd⟩ := F.ex
  exact fn_of lk hcd S len (fun A outer s H vs Q E hr h => hbody cdv A outer s H vs Q E hr h)
/-- .. where an exception is handled already -/
theorem okH {CX : CXT} {x qual : Str} {st : Stmt} {f : Addr} {fd : FuncData} {N ps : List Str} {k : Nat} {sp : Sp} (F : Fun K x qual st f fd) (S : FnScope N ps (defScope st)) (len : ∀ vs H Q E, sp vs H Q E → vs.length = ps.length)
    (hbody : ∀ (cdv : Value) (A : Around) (outer : List Env) (s : Shared) (H : Hp) (vs : List V) (Q : VK) (E : XK) (p : Addr × Obj), L2H.Hot1 A p → L2H.RoomH k (A.deeper (envOfC qual (defScope st) s.heap.objs.size f cdv)) → sp vs H Q E →
      ∃ t, PSs (L2H.cxH CX P w K mg base N qual (defScope st) f cdv A outer s H E p) (defBody st) t ∧ t { nx := fun _ H' => Q .non H', rt := Q } (start N vs) H) : L2H.FnH P w K mg base CX (k + 1) f fd ps sp := by
  obtain ⟨oc, od, kV, doc, pm, an, cdv, ct, osl, rfl, lk, hcd⟩ := F.ex
  exact L2H.fn_ofH lk hcd S len (fun A outer s H vs Q E p hp hr h => hbody cdv A outer s H vs Q E p hp hr h)
end
section
variable {X : Cx}
/-- a module's constant: an int, a text, an object -/
theorem pe_gi {x : Str} {pos : Pos} {i : Int} (h : ∃ t, X.mg x = some (.int i t)) (hg : Gl X x := by rfl) (hd : (x == ("__debug__" : Str)) = false := by decide) : PE X (.Name x pos) (tC (.int i)) := by
  obtain ⟨t, h⟩ := h
  exact pe_glob hg h ⟨t, rfl⟩ hd
theorem pe_gs {x : Str} {pos : Pos} {i : Str} (h : ∃ t, X.mg x = some (.str i t)) (hg : Gl X x := by rfl) (hd : (x == ("__debug__" : Str)) = false := by decide) : PE X (.Name x pos) (tC (.str i)) := by
  obtain ⟨t, h⟩ := h
  exact pe_glob hg h ⟨t, rfl⟩ hd
theorem pe_gr {x : Str} {pos : Pos} {a : Addr} (h : X.mg x = some (.ref a)) (hg : Gl X x := by rfl) (hd : (x == ("__debug__" : Str)) = false := by decide) : PE X (.Name x pos) (tC (.ref a)) := pe_glob hg h rfl hd
end
/-! ### an own exception with an __init__, its context None -/
theorem pmkN {X : Cx} {e : Expr} {es : List Expr} {ta : TA} {p pos : Pos} {CX : CXT} {x : Str} {C fI : Addr} {k : Nat} {fd : FuncData} {ps : List Str} {sp : Sp} (T : OexC X.K C) (iC : PySem.W.findIn X.K (.ref C) "__init__" = some (some (.ref fI))) (tI : PySem.W.typeIn X.K (.ref fI) = some (.type "function"))
    (F1 : FnOk X.prog X.w X.K X.mg X.base CX k fI fd ps sp) (hr : Room (k + 1) X.A) (hb : Binds X.K fd ps []) (hx : Passes CX X (fun _ _ _ => False)) (hg : Gl X x) (hm : X.mg x = some (.ref C)) (ha : PA X (e :: es) ta)
    (hdb : (x == ("__debug__" : Str)) = false := by decide) (he : starEach (e :: es) X.env = (false, eval e X.env) :: starEach es X.env := by rfl) (hpl : (backTo pos (starEach es X.env)).any (·.1) = false := by rfl) :
    L2N.PMk X (.Call (.Name x p) (e :: es) [] pos) (tMkO C sp [] ta) := by
  intro pins s σ H Q I h
  obtain ⟨nm, q, N, bs, bm, sn, sub, ab, col, dd, k0, k1, k2, k3, k5, hC, hbm⟩ := T.cls
  refine wpAny_Call_Name_kw (ld_glob I hg hm ?_ hdb)
  refine PySem.W.callWith_K (h₀ := X.base) I.ok.mod.kin T.kC (thn (ha.run pos pins s σ H _ I h) fun us s1 hh => ?_) he hpl
  obtain ⟨vs, H1, I1, r1, hz, q1⟩ := hh
  refine ⟨I1.kIn, ?_⟩
  show wpAny _ _ (call (.ref C) us) _ _ _
  obtain ⟨hp, g, dr, tk, os⟩ := s1
  have fresh : H1 (hp.objs.size + 1) = none := I1.hok.fresh (Nat.le_succ _)
  have want := q1 (hp.objs.size + 1) fresh
  rw [List.append_nil] at want
  have grows : ∀ b o, hp.get? b = some o → ((hp.push (PySem.W.kdv_tup us)).push (PySem.HandSPX.excO C hp.objs.size)).get? b = some o := fun b o z => Heap.get?_push_of_some _ (Heap.get?_push_of_some _ z)
  have I2 : Inv X pins σ (upd H1 (hp.objs.size + 1) (exo (hp.objs.size + 1) C none)) ⟨(hp.push (PySem.W.kdv_tup us)).push (PySem.HandSPX.excO C hp.objs.size), g, dr, tk, os⟩ :=
    Inv.laid (t' := tk) I1 grows (Nat.le_succ _) (exo_ok (t1 := hp.objs.size) (by heap_get))
  have r2 : Vals (V.ref (hp.objs.size + 1) :: vs) (Value.ref (hp.objs.size + 1) :: us) := .cons rfl r1
  have hl : (Value.ref (hp.objs.size + 1) :: us ++ []).length = ps.length := by
    rw [List.append_nil, ← r2.length]
    exact F1.len _ _ _ _ want
  have few : us.length ≤ sizeLine := by
    have := r1.length
    rw [sizeLine_eq]
    omega
  have binds := hb _ (Value.ref (hp.objs.size + 1) :: us) I2.kIn hl
  rw [List.append_nil] at binds
  have runs := F1.run _ X.stack _ _ ⟨Value.ref (hp.objs.size + 1) :: us, []⟩ _ _ _ (fun _ _ _ => False) (hr.make C us []) (I2.env0.make C us []) binds r2 want
  refine wpAny_call (PySem.HandSPX.call_own F.excBase_ValueError (fun Y => PySem.HandSPX.refsVE_contains Y bm hbm) (I1.kIn _ _ hC) (PySem.W.looks_findIn I1.kIn iC) (fun self => PySem.W.bind_fn I1.kIn self tI) few (codeAny_mono runs fun r s' rr => ?_))
  match r with
  | .error er => exact hx pins σ _ _ er s' I2 rr
  | .ok .next => exact False.elim rr
  | .ok .brk => exact False.elim rr
  | .ok .cont => exact False.elim rr
  | .ok (.ret u) =>
    obtain ⟨v, H2, os2, bare2, un2, hok2, rv, ev, d, fs, ea, ed, hd1, q2⟩ := rr
    subst ev
    obtain ⟨h2, g2, d2, t2, os'⟩ := s'
    obtain ⟨t0, G, J, kG, ge, hoe, na⟩ := mk_end0 (d2 := d2) (t2 := t2) I1 (Nat.le_succ _) grows un2 hok2 os2 bare2 ea ed hd1
    exact ⟨rv, hp.objs.size + 1, _, _, ⟨G, g2, d2, t2, os'⟩, _, .ref C, some d, rfl, J, kG, ge, hoe, ⟨rfl, rfl, fun vs hv => by cases hv; rfl⟩, rfl, rfl, na, rfl, bare2, raises_own T.exC T.tyC, q2⟩
end Tf

set_option maxRecDepth 100000
set_option maxHeartbeats 4000000
/-! # try: .. except X as n: a suite that raises out of the def -/
namespace Tf
open PySem PySem.Spec PyProof.Rows L2
/-- the context of such a suite -/
abbrev suiteE (X : Cx) (a : Addr) (pn : List (Addr × Obj)) (xe : Value → Shared → Prop) : Cx := { X with A := X.A.mark (some (.ref a)), calm := false, pn := pn, xe := xe }
theorem traced_but {h h' base : Heap} {e L : Addr} {Z : Obj → Prop} {fl : Value} {m : Str → Option Value} (x : HandSPX.TracedZ h base e Z fl) (hn : h.Ns L m) (hs : Heap.SameBut L h h') : HandSPX.TracedZ h' base e Z fl := by
  obtain ⟨oe, vs, T, oT, ts, he, hz, hd, h1, hnT, hTe, hT, hdT, h3⟩ := x
  obtain ⟨oL, es, ep, hoL, hdL, _⟩ := hn
  have neE : e ≠ L := by
    rintro rfl
    rw [hoL] at he
    cases he
    rw [hdL] at hd
    cases hd
  have neT : T ≠ L := by
    rintro rfl
    rw [hoL] at hT
    cases hT
    rw [hdL] at hdT
    cases hdT
  exact ⟨oe, vs, T, oT, ts, (hs.2 e neE).trans he, hz, hd, h1, hnT, hTe, (hs.2 T neT).trans hT, hdT, h3⟩
/-- the exception of the suite, from where it is raised to the def's own end -/
theorem as_out {X Y : Cx} {E : XK} {E1 Ez : Value → Shared → Prop} {n : Str} {pos : Pos} {h : Option Value} {u : Value} {s' : Shared}
    (hY : Y.env = X.env ∧ Y.outer = X.outer ∧ Y.stack = X.stack ∧ Y.prog = X.prog ∧ Y.w = X.w ∧ Y.ex = X.ex ∧ Y.H_0 = X.H_0 ∧ Y.s_0 = X.s_0 ∧ Y.A = X.A.mark h)
    (hs : X.stack = X.env :: X.outer) (hf : X.env.frame = some X.env.locals) (hex : X.ex = []) (hln : X.env.kindOf n = some .local)
    (hx : X.xe = fun e s' => wpAny (model X.prog X.w) X.A (leaving X.env e) (fun _ s'' => L2.CX X.prog X.w X.outer X.H_0 X.s_0 E e s'') E1 s')
    (x : L2.XE Y (fun cls d _ H => E cls d H) u s') :
    wpAny (model X.prog X.w) (X.A.mark h) (noteFrame u X.env) (fun _ s₃ =>
        wpAny (model X.prog X.w) (X.A.mark h) (do bindName X.env n .none; unbindBehindTheSuite X.env n pos)
          (fun _ s₄ => wpAny (model X.prog X.w) (X.A.mark h) (passOn "try.except-as" u X.env : Sem Flow) (fun _ _ => False) (notedBy (model X.prog X.w) (X.A.mark h) X.env (cameBackBy (model X.prog X.w) X.A X.env X.xe)) s₄) Ez s₃)
      (notedBy (model X.prog X.w) (X.A.mark h) X.env (cameBackBy (model X.prog X.w) X.A X.env X.xe)) s' := by
  obtain ⟨y1, y2, y3, y4, y5, y6, y7, y8, y9⟩ := hY
  obtain ⟨a, B, sI, pins, σ, H, cls, d, rfl, I, nb, up, sky, na, os, ag, wE⟩ := x
  have hfr : (X.A.mark h).frames = some (X.env :: X.outer) := by
    have := I.ok.frames
    rw [y9] at this
    rw [this, y3, hs]
  have kind := I.ok.kind
  rw [y1] at kind
  have plainScope : (X.env.scope.kind == .class || (X.env.scope.kind == .module && X.env.locals != X.env.globals)) = false := by rw [kind]; rfl
  rw [y3, hs, y1] at sky
  obtain ⟨m, hns, _⟩ := I.loc
  rw [y1] at hns
  have held : ∀ {Q : Unit → Shared → Prop} {E₂ : Value → Shared → Prop}, (∀ h1, HandSPX.HeldZ B (X.env :: X.outer) a (Zc cls d) X.env.locals h1 → s'.heap.UpToSlots h1 → Q () { s' with heap := h1 }) →
      wpAny (model X.prog X.w) (X.A.mark h) (noteFrame (.ref a) X.env) Q E₂ s' := fun {Q E₂} hQ => by
    rcases sky with ⟨hB, hn, hl, oe, vs, he, hz, hd, h1⟩ | fl | hh
    · exact HandSPX.look_newZ Zc.steady hfr hl hf he hB hn hd h1 hz hQ
    · exact HandSPX.looks_onZ Zc.steady hfr hf fl hQ
    · exact HandSPX.againZ hf hh.2.2.2 (hQ s'.heap hh (Heap.UpToSlots.refl _))
  refine held fun h1 hh1 up1 => ?_
  obtain ⟨b1, b0, f1, t1⟩ := hh1
  have hbL : B.get? X.env.locals = none := by
    obtain ⟨_, ⟨L', _, hf', hb', _⟩, _⟩ := f1
    rw [hf] at hf'
    rw [Option.some.inj hf']
    exact hb'
  have hn1 : h1.Ns X.env.locals m := Heap.UpToSlots.ns (up.trans up1) hns
  refine wpAny_nameGoes hln hn1 plainScope fun h2 m2 hn2 hs2 => ?_
  have b2 : B.StaysIn h2 := fun b o hb => (hs2.2 b fun q => by rw [q, hbL] at hb; cases hb).trans (b1 b o hb)
  have f2 : h2.FunFrames B (X.env :: X.outer) := Heap.FunFrames.sameBut hs2 hn2 f1
  have hh2 : HandSPX.HeldZ B (X.env :: X.outer) a (Zc cls d) X.env.locals h2 := ⟨b2, b0, f2, traced_but t1 hn1 hs2⟩
  -- the frames outside this def, from the entry to here
  have frameOn : ∀ {b : Addr} {o : Obj} {hZ : Heap}, b ∈ X.fs → X.s_0.heap.get? b = some o → h2.UpToSlots hZ → ∃ sl, hZ.get? b = some { o with slots := sl } := fun {b o hZ} hb e upZ => by
    obtain ⟨_, o₀, e₀, hnf⟩ := (show Heap.FunFrames X.s_0.heap Y.base X.outer by have := I.ok.funs; rw [y8, y2] at this; exact this).mem hb
    rw [e] at e₀; cases e₀
    have fr0 : Y.H_0 b = none := I.ok.frf b (by show b ∈ frs Y.outer; rw [y2]; exact hb)
    obtain ⟨sl, e1⟩ := I.base.slot b o (by rw [y8]; exact e) fr0 (by show b ∈ frs Y.outer; rw [y2]; exact hb) (by rw [y6, hex]; exact fun q => nomatch q)
    obtain ⟨sl2, e2⟩ := (up.trans up1) b _ e1 hnf
    have hbl : b ≠ X.env.locals := by
      have h3 := Heap.lt_size e
      have h4 := I.ok.above
      rw [y8, y1] at h4
      exact Nat.ne_of_lt (Nat.lt_of_lt_of_le h3 h4)
    obtain ⟨sl3, e3⟩ := upZ b _ ((hs2.2 b hbl).trans e2) hnf
    exact ⟨sl3, e3⟩
  obtain ⟨oe, vs, T, oT, ts, he, hz, hd, hv1, r⟩ := id hh2.2.2.2
  show wpAny _ _ (passOn "try.except-as" (.ref a) X.env : Sem Flow) _ _ _
  unfold PySem.passOn
  refine wpAny_bind (wpAny_field he hd hv1 ?_)
  rw [if_neg (show ¬ ((Value.ref T == Value.none) = true) from by simp)]
  have fin : wpAny (model X.prog X.w) (X.A.mark h) (setFlight (.ref a) X.env.frame) (fun _ s4 => wpAny (model X.prog X.w) (X.A.mark h) (throw (.ref a) : Sem Flow) (fun _ _ => False) (notedBy (model X.prog X.w) (X.A.mark h) X.env (cameBackBy (model X.prog X.w) X.A X.env X.xe)) s4)
      (notedBy (model X.prog X.w) (X.A.mark h) X.env (cameBackBy (model X.prog X.w) X.A X.env X.xe)) { s' with heap := h2, toks := s'.toks + 1 } := by
    rw [hf]
    refine HandSPX.setFlight_onZ hh2 fun h3 hh3 up3 => wpAny_throw ?_
    show wpAny (model X.prog X.w) (X.A.mark h) (noteFrame (.ref a) X.env) _ _ _
    refine HandSPX.againZ hf hh3.2.2.2 ?_
    obtain ⟨oe', vs', T', oT', ts', he', hz', hd', hv1', r'⟩ := id hh3.2.2.2
    show wpAny (model X.prog X.w) X.A (do
      if (← field (.ref a) 1) == .none then unsupported "frame.own-activation:exception-without-traceback"
      setFlight (.ref a) X.env.frame) _ _ _
    refine wpAny_bind (wpAny_field he' hd' hv1' ?_)
    rw [if_neg (show ¬ ((Value.ref T' == Value.none) = true) from by simp), hf]
    refine HandSPX.setFlight_onZ hh3 fun h4 hh4 up4 => ?_
    rw [hx]
    refine HandSPX.leaves_heldZ hf hh4 fun h5 fl5 up5 => ?_
    have upA : h2.UpToSlots h5 := (up3.trans up4).trans up5
    have hokB : HOk X.prog X.w H B := by
      have := I.inGround nb
      rw [y4, y5] at this
      exact this
    have notStack : ∀ b o, X.s_0.heap.get? b = some o → b ∉ X.fs → b ∉ frs Y.stack := fun b o e hb hm => by
      rcases List.mem_cons.mp (I.stkSub b hm) with z | z
      · have h3 := Heap.lt_size e
        have h4 := I.ok.above
        rw [y8] at h4
        rw [z] at h3
        exact absurd (Nat.lt_of_lt_of_le h3 h4) (Nat.lt_irrefl _)
      · exact hb (by have q : b ∈ frs Y.outer := z; rw [y2] at q; exact q)
    have noex : ∀ b, b ∉ Y.ex := fun b hb => by rw [y6, hex] at hb; cases hb
    have base := I.base
    rw [y7, y8] at base
    have fsEq : Y.fs = X.fs := by show frs Y.outer = frs X.outer; rw [y2]
    rw [fsEq] at base
    refine ⟨a, B, H, cls, d, rfl, fl5, hokB, ⟨fun b o e nH hb => nb b o (base.keep b o e nH hb (noex b)) (notStack b o e hb), fun b o e hb => frameOn hb e upA, fun b o e nH => base.free b o e nH (noex b), fun b o e hb => ?_, base.tups, base.frzs, base.tbls⟩, na, ?_, ag, wE⟩
    · obtain ⟨o', e1⟩ := base.there b o e (noex b)
      exact ⟨o', nb b o' e1 (notStack b o e hb)⟩
    · have := I.os
      rw [y8] at this
      exact os.trans this
  first
    | exact wpAny_bind (wpAny_pure (wpAny_bind fin))
    | exact wpAny_bind fin
/-- what such a clause wishes of the body's exception: it is of the clause's class -/
def wAsX (K : PySem.W.Frag) (c : Value) (i : Nat) (ts : Addr → Value → Option Addr → TS) : WX := fun cls d σ H =>
  PySem.W.exmOne K cls c = some true ∧ ∀ a, H a = none → ts a cls d { nx := fun _ _ => False, rt := fun _ _ => False } (σ.set i (some (.ref a))) H
theorem ps_try_asX {X : Cx} {x n : Str} {c : Value} {i : Nat} {body suite : List Stmt} {b₀ : Stmt} {np pos pos' : Pos} {tb : WX → TS} {ts : Addr → Value → Option Addr → TS} {E : XK} {E1 : Value → Shared → Prop}
    (hs : X.stack = X.env :: X.outer) (hf : X.env.frame = some X.env.locals) (hex : X.ex = []) (hN : X.N.Nodup) (hi : X.N[i]? = some n) (hln : X.env.kindOf n = some .local) (hc : Names X x c)
    (hx : X.xe = fun e s' => wpAny (model X.prog X.w) X.A (leaving X.env e) (fun _ s'' => L2.CX X.prog X.w X.outer X.H_0 X.s_0 E e s'') E1 s')
    (hb : ∀ (W : WX) (pn : List (Addr × Obj)) (xe : Value → Shared → Prop), L2N.Takes (X.tr pn xe) W → PassesOwn (model X.prog X.w) X.A X.env xe → PSs (X.tr pn xe) body (tb W))
    (hsu : ∀ (a : Addr) (oe : Obj) (cls : Value) (d : Option Addr) (pn : List (Addr × Obj)) (xe : Value → Shared → Prop), L2N.Zn cls d oe → (∃ vs, oe.data = .fields vs) → L2.Takes (suiteE X a ((a, oe) :: pn) xe) (fun cls d _ H => E cls d H) →
      L2H.HotC (suiteE X a ((a, oe) :: pn) xe) → PSs (suiteE X a ((a, oe) :: pn) xe) (b₀ :: suite) (ts a cls d)) :
    PS X (.Try body [.ExceptHandler (some (.Name x np)) (some n) (b₀ :: suite) pos'] [] [] pos) (fun D σ H => tb (wAsX X.K c i ts) D σ H) := by
  refine ⟨fun pins s σ H D I h => ?_⟩
  have ok := I.ok
  have hfr : X.A.frames = some (X.env :: X.outer) := by rw [ok.frames, hs]
  refine wpAny_Try_except ?_
  refine wpAny_mono ((hb (wAsX X.K c i ts) (X.pn ++ pins) (fun e s₁ => wpAny (model X.prog X.w) X.A (noteFrame e X.env) (fun _ s₂ => wpAny (model X.prog X.w) X.A (setFlight e none) (fun _ s₃ =>
    wpAny (model X.prog X.w) X.A (handleBy e X.env [.ExceptHandler (some (.Name x np)) (some n) (b₀ :: suite) pos']) (SP X pins D) X.xe s₃) X.xe s₂) X.xe s₁) (fun u s' xx => ?_) PassesOwn.looking).run [] s σ H D (I.toTry _) h) (fun f s1 hsp => ?_) (fun e s1 he => he)
  · obtain ⟨a, B, sI, pins', σ', H', cls, d, rfl, J', nb, up, sky, na, os, ag, hyes, hgo⟩ := xx
    have J : Inv X pins σ' H' sI := J'.ofTry ok
    have sky' : L2.Sky B (X.env :: X.outer) a (L2N.Zn cls d) X.env.locals s'.heap := by rw [← hs]; exact sky
    show wpAny (model X.prog X.w) X.A (noteFrame (.ref a) X.env) _ _ _
    refine L2N.Sky.land L2N.Zn.steady hfr hf sky' fun h3 fl3 up3 => ?_
    have J3 : Inv X pins σ' H' { s' with heap := h3 } := J.landed nb fl3.1 (up.trans up3) os ag
    obtain ⟨oe3, vs3, he3, hz3, hd3⟩ := fl3.there
    have nfr : a ∉ frs (X.env :: X.outer) := fun hm => by
      obtain ⟨_, o', e', hnf⟩ := fl3.2.2.1.mem hm
      rw [he3] at e'; cases e'
      exact hnf _ hd3
    have nL : a ≠ X.env.locals := fun z => nfr (List.mem_filterMap.mpr ⟨X.env, List.mem_cons_self, by rw [hf, z]⟩)
    have nF : a ∉ X.fs := fun hm => by
      obtain ⟨e, he, q⟩ := List.mem_filterMap.mp hm
      exact nfr (List.mem_filterMap.mpr ⟨e, List.mem_cons_of_mem _ he, q⟩)
    have S3 := J3.suite he3 hd3 na nL nF
    refine wpAny_handleBy_cons (codeAny_handlers_test ?_) (by intro q; cases q)
    have LT : PySem.W.Looks (model X.prog X.w) h3 (typeOf (.ref a)) cls := fun A Q E s k q => wpAny_typeOf_ref (k _ _ he3) (by rw [hz3.1]; exact q)
    have LM := PySem.W.exm_one (M := model X.prog X.w) (J3.kIn) LT hyes
    have test : ∀ {Q : Value → Shared → Prop} {E : Value → Shared → Prop}, Q c { s' with heap := h3 } → wpAny (model X.prog X.w) (X.A.mark (some (.ref a))) (eval (.Name x np) X.env) Q E { s' with heap := h3 } := fun {Q E} q => by
      obtain ⟨hg, hdbg, hm | ⟨hm, hv, hnn⟩⟩ := hc
      · exact ld_glob (X := X.suite a ((a, oe3) :: (X.pn ++ pins))) S3 hg hm q hdbg
      · exact ld_blt (X := X.suite a ((a, oe3) :: (X.pn ++ pins))) S3 hg hm hv q hnn hdbg
    refine test (LM.here ?_)
    refine codeAny_handlers_suite_as ?_
    refine HandSPX.lands_againZ fl3 fun h4 fl4 up4 => ?_
    have J4 : Inv X pins σ' H' { s' with heap := h4 } := J.landed nb fl4.1 ((up.trans up3).trans up4) os ag
    obtain ⟨oe4, vs4, he4, hz4, hd4⟩ := fl4.there
    have S4 := J4.suite he4 hd4 na nL nF
    refine store_ok (X := X.suite a ((a, oe4) :: (X.pn ++ pins))) (v := .ref a) S4 hN hi (.inl hln) rfl (fun s5 S5 => ?_) (.inr hln)
    refine wpAny_mono ((hsu a oe4 cls d (X.pn ++ pins) _ hz4 ⟨_, hd4⟩ (fun u2 s2 x2 => ?_) ⟨(a, oe4), ⟨rfl, vs4, hd4, hz4.2.2 vs4 hd4⟩, List.mem_cons_self⟩).run [] s5 _ H' _ (S5.wish _) (hgo a na)) (fun f s6 hsp => ?_) (fun _ _ z => z)
    · refine wpAny_mono (as_out (X := X) (Y := suiteE X a ((a, oe4) :: (X.pn ++ pins)) _) (n := n) (pos := pos') (h := some (.ref a)) ⟨rfl, rfl, rfl, rfl, rfl, rfl, rfl, rfl, rfl⟩ hs hf hex hln hx x2) (fun _ _ z => z) (fun _ _ z => z)
    · cases f with
      | next => obtain ⟨_, _, _, q6⟩ := hsp; exact q6.elim
      | brk => obtain ⟨_, _, _, q6⟩ := hsp; exact q6.elim
      | cont => obtain ⟨_, _, _, q6⟩ := hsp; exact q6.elim
      | ret u => obtain ⟨_, _, _, _, _, q6⟩ := hsp; exact q6.elim
  · cases f with
    | next =>
      obtain ⟨σ', H', J', q⟩ := hsp
      exact wpAny_execs_nil ⟨σ', H', J'.ofTry ok, q⟩
    | brk =>
      obtain ⟨σ', H', J', q⟩ := hsp
      exact ⟨σ', H', J'.ofTry ok, q⟩
    | cont =>
      obtain ⟨σ', H', J', q⟩ := hsp
      exact ⟨σ', H', J'.ofTry ok, q⟩
    | ret u =>
      obtain ⟨v, σ', H', J', r, q⟩ := hsp
      exact ⟨v, σ', H', J'.ofTry ok, r, q⟩
end Tf

set_option maxRecDepth 100000
set_option maxHeartbeats 4000000
/-! # min of a list of pairs of ints; == and != against an empty list, an empty dict; C.m(self, ..) -/
namespace Tf
open PySem PySem.Spec PyProof.Rows L2
section
variable {prog : Program} {w : World} {A : Around} {R : Result → Shared → Prop} {I S : Addr} {fp wr : List Addr} {n : Nat} {P : Nat → Value → Prop} {St : Nat → Heap → Prop} {G : Heap → Prop}
/-- the best so far lies in the list at S; the comparison may look at what G tells of the heap -/
theorem min_goes (W : Walks prog w A.in1 I fp wr n P St) (bt : Nat → Nat → Bool) (hSf : S ∉ fp) (hG : ∀ h h', G h → (∀ b o, b ∉ wr → b ≠ S → h.get? b = some o → h'.get? b = some o) → G h')
    (hcmp : ∀ i j vi vj (s : Shared) (Q : Value → Shared → Prop) (E : Value → Shared → Prop), G s.heap → P i vi → P j vj → Q (.bool (bt i j)) s → wpAny (model prog w) A.in1 (richCompare .Lt vi vj) Q E s) :
    ∀ (k j : Nat) (s : Shared) (vb : Value) (c : Nat), n - (j + 1) = k → j + 1 ≤ n → St (j + 1) s.heap → G s.heap → P (argBest bt j) vb →
    s.heap.get? S = some { cls := .type "list", dict := none, data := .seq #[vb, vb] c, slots := #[] } →
    (∀ v h' tk, P (argBest bt (n - 1)) v → (∀ b o, b ∉ wr → b ≠ S → s.heap.get? b = some o → h'.get? b = some o) → R (.ok (.ret v)) { s with heap := h', toks := tk }) →
    codeAny (model prog w) A (.builtin "min.loop" ⟨[.ref I, .none, .ref S], []⟩) R s := by
  have hSw : S ∉ wr := fun h => hSf (W.sub _ h)
  have own : (toString "min" ++ toString ".loop" : String) = "min.loop" := by decide
  intro k
  induction k with
  | zero =>
    intro j s vb c hk hj hst hg hPb hS hR
    have last : j + 1 = n := by omega
    refine codeAny_builtin F.entry_min_loop ?_
    rw [Around.under_plainId F.plain_min_loop _]
    show wpAny _ A.in1 (seqItems? (.ref S) >>= _) _ _ s
    refine wpAny_bind (wpAny_seqItems hS rfl ?_)
    show wpAny _ A.in1 (tryCatch (pyNext (.ref I)) _ >>= _) _ _ s
    refine wpAny_bind (wpAny_tryCatch (W.done s _ _ (last ▸ hst) fun h' tk keeps => ?_))
    show wpAny _ A.in1 (updateSeq S (fun _ => #[]) >>= _) _ _ _
    refine wpAny_bind (wpAny_updateSeq (keeps S _ hSw hS) rfl (wpAny_bind (wpAny_letGo (wpAny_pure ?_))))
    exact hR vb _ tk (by rw [← last]; exact hPb) fun b o hb hbS e => (Heap.get?_update_other _ _ (Ne.symm hbS)).trans (keeps b o hb e)
  | succ k ih =>
    intro j s vb c hk hj hst hg hPb hS hR
    have more : j + 1 < n := by omega
    refine codeAny_builtin F.entry_min_loop ?_
    rw [Around.under_plainId F.plain_min_loop _]
    show wpAny _ A.in1 (seqItems? (.ref S) >>= _) _ _ s
    refine wpAny_bind (wpAny_seqItems hS rfl ?_)
    show wpAny _ A.in1 (tryCatch (pyNext (.ref I)) _ >>= _) _ _ s
    refine wpAny_bind (wpAny_tryCatch (W.item (j + 1) s _ _ more hst fun v h' tk hP hst' keeps => ?_))
    have hS' := keeps S _ hSw hS
    have hg' : G h' := hG _ _ hg fun b o hb _ e => keeps b o hb e
    show wpAny _ A.in1 (tryCatch (holding [v, v] (richCompare .Lt v vb >>= _)) _ >>= _) _ _ _
    refine wpAny_bind (wpAny_tryCatch (wpAny_holding (wpAny_bind (hcmp (j + 1) (argBest bt j) v vb _ _ _ hg' hP hPb (wpAny_bind (wpAny_holding (wpAny_truthy_bool (wpAny_bind (wpAny_letGo (wpAny_pure ?_))))))))))
    by_cases hb : bt (j + 1) (argBest bt j) = true
    · rw [if_pos hb]
      refine wpAny_bind (wpAny_updateSeq hS' rfl (wpAny_bind (wpAny_letGo ?_)))
      rw [own]
      have off : ∀ b o, b ≠ S → h'.get? b = some o → (h'.update S (Obj.mapSeq fun _ => #[v, v])).get? b = some o := fun b o hbS e => (Heap.get?_update_other _ _ (Ne.symm hbS)).trans e
      refine wpAny_pure ⟨plainId_quiet F.plain_min_loop _, ih (j + 1) _ v _ (by omega) more (W.frame _ _ _ hst' fun b hbf o e => off b o (fun z => hSf (z ▸ hbf)) e) (hG _ _ hg' fun b o _ hbS e => off b o hbS e)
        (by simp only [argBest, hb, if_true]; exact hP) (Heap.get?_update_self _ hS' rfl) fun v' h2 tk2 hP' keeps2 => ?_⟩
      exact hR v' h2 tk2 hP' fun b o hbw hbS e => keeps2 b o hbw hbS (off b o hbS (keeps b o hbw e))
    · rw [if_neg hb]
      refine wpAny_bind (wpAny_letGo ?_)
      rw [own]
      refine wpAny_pure ⟨plainId_quiet F.plain_min_loop _, ih (j + 1) _ vb c (by omega) more hst' hg' (by simp only [argBest, hb]; exact hPb) hS' fun v' h2 tk2 hP' keeps2 => ?_⟩
      exact hR v' h2 tk2 hP' fun b o hbw hbS e => keeps2 b o hbw hbS (keeps b o hbw e)
end
section
variable {prog : Program} {w : World} {A : Around} {E : Value → Shared → Prop} {s : Shared}
theorem call_min_good {l : Addr} {items : Array Value} (bt : Nat → Nat → Bool) {Q : Value → Shared → Prop} (hh : A.handled = none) (hl : s.heap.IsList l items) (hn : 0 < items.size)
    (hcmp : ∀ i j vi vj (s' : Shared) (Q : Value → Shared → Prop) (E : Value → Shared → Prop), (∀ b o, s.heap.get? b = some o → s'.heap.get? b = some o) → items[i]? = some vi → items[j]? = some vj → Q (.bool (bt i j)) s' → wpAny (model prog w) A.in1 (richCompare .Lt vi vj) Q E s')
    (hQ : ∀ v h' tk, items[argBest bt (items.size - 1)]? = some v → (∀ b o, s.heap.get? b = some o → h'.get? b = some o) → Q v { s with heap := h', toks := tk }) :
    wpAny (model prog w) A (call (.builtin "min") [.ref l]) Q E s := by
  have own : (toString "min" ++ toString ".loop" : String) = "min.loop" := by decide
  have hlt : l < s.heap.objs.size := by obtain ⟨_, e, _⟩ := hl; exact Heap.lt_size e
  refine call_function_tree F.kind_min F.plain_min F.entry_min (F.args_min1 _) ?_
  show wpAny _ A.in1 (Builtin.Builtins.bindParams "min" ["key", "default"] 0 ⟨[], []⟩ >>= _) _ _ s
  refine wpAny_bind (wpAny_of_eq (show Builtin.Builtins.bindParams "min" ["key", "default"] 0 ⟨[], []⟩ = pure [none, none] from rfl) ?_)
  refine wpAny_bind (wpAny_pure ?_)
  refine wpAny_bind (wpAny_pyIter_list hl ?_)
  refine wpAny_bind (wpAny_newObj_type ?_)
  rw [own]
  let h1 : Heap := s.heap.push { cls := .type "list_iterator", data := .fields #[.ref l, .int 0 0] }
  have z1 : h1.objs.size = s.heap.objs.size + 1 := Heap.size_push ..
  let h2 : Heap := h1.push { cls := .type "list", dict := none, data := .seq #[] 0, slots := #[] }
  have old2 : ∀ b o, s.heap.get? b = some o → h2.get? b = some o := fun b o e => Heap.get?_push_of_some _ (Heap.get?_push_of_some _ e)
  have W := Walks.list (prog := prog) (w := w) (A := A.in1) hh s.heap.objs.size l (Nat.ne_of_lt hlt) items
  have hSf : h1.objs.size ∉ [s.heap.objs.size, l] := fun hm => by
    rcases List.mem_cons.mp hm with z | hm
    · rw [z1] at z; exact absurd z (Nat.succ_ne_self _)
    · have z := List.mem_singleton.mp hm
      rw [z1] at z
      rw [← z] at hlt
      exact absurd (Nat.lt_of_succ_lt hlt) (Nat.lt_irrefl _)
  have hSI : h1.objs.size ≠ s.heap.objs.size := fun z => hSf (z ▸ List.mem_cons_self)
  have st0 : h2.IsListIter s.heap.objs.size l 0 ∧ h2.IsList l items := ⟨⟨_, Heap.get?_push_of_some _ (Heap.get?_push_size _ rfl), rfl, rfl⟩, (hl.push _).push _⟩
  have hS : h2.get? h1.objs.size = some { cls := .type "list", dict := none, data := .seq #[] 0, slots := #[] } := Heap.get?_push_size _ rfl
  let Gd : Heap → Prop := fun h => ∀ b o, s.heap.get? b = some o → h.get? b = some o
  have hG : ∀ h h', Gd h → (∀ b o, b ∉ [s.heap.objs.size] → b ≠ h1.objs.size → h.get? b = some o → h'.get? b = some o) → Gd h' := fun h h' g k b o e =>
    k b o (fun m => absurd (Heap.lt_size e) (by rw [List.mem_singleton.mp m]; exact Nat.lt_irrefl _)) (fun m => absurd (Heap.lt_size e) (by rw [m, z1]; exact fun q => Nat.lt_irrefl _ (Nat.lt_of_succ_lt q))) (g b o e)
  refine wpAny_pure ⟨plainId_quiet F.plain_min_loop _, ?_⟩
  refine codeAny_builtin F.entry_min_loop ?_
  rw [Around.under_plainId F.plain_min_loop _]
  show wpAny _ A.in1 (seqItems? (.ref h1.objs.size) >>= _) _ _ { s with heap := h2, toks := _ }
  refine wpAny_bind (wpAny_seqItems hS rfl ?_)
  show wpAny _ A.in1 (tryCatch (pyNext (.ref s.heap.objs.size)) _ >>= _) _ _ _
  refine wpAny_bind (wpAny_tryCatch (W.item 0 _ _ _ hn st0 fun v h' tk hP hst' keeps => ?_))
  have hS' := keeps h1.objs.size _ (fun m => hSI (List.mem_singleton.mp m)) hS
  show wpAny _ A.in1 (updateSeq h1.objs.size (fun _ => #[v, v]) >>= _) _ _ _
  refine wpAny_bind (wpAny_updateSeq hS' rfl ?_)
  rw [own]
  have off : ∀ b o, b ≠ h1.objs.size → h'.get? b = some o → (h'.update h1.objs.size (Obj.mapSeq fun _ => #[v, v])).get? b = some o := fun b o hbS e => (Heap.get?_update_other _ _ (Ne.symm hbS)).trans e
  have g' : Gd h' := hG h2 h' old2 fun b o hb _ e => keeps b o hb e
  refine wpAny_pure ⟨plainId_quiet F.plain_min_loop _, min_goes (G := Gd) W bt hSf hG hcmp _ 0 _ v _ rfl hn (W.frame _ _ _ hst' fun b hbf o e => off b o (fun z => hSf (z ▸ hbf)) e)
    (hG _ _ g' fun b o _ hbS e => off b o hbS e) hP (Heap.get?_update_self _ hS' rfl) fun v' h3 tk3 hP' keeps3 => ?_⟩
  exact hQ v' h3 tk3 hP' (hG _ _ (hG _ _ g' fun b o _ hbS e => off b o hbS e) keeps3)
end
/-! ### pairs -/
abbrev Pr : Type := Int × Int
def prLt (m n : Pr) : Bool := HT.lexLt [m.1, m.2] [n.1, n.2]
theorem prLt_iff (m n : Pr) : prLt m n = true ↔ m.1 < n.1 ∨ (m.1 = n.1 ∧ m.2 < n.2) := by
  unfold prLt
  rw [HT.lexLt_cons, HT.lexLt_cons, HT.lexLt_nil_nil]
  by_cases h : m.1 = n.1
  · rw [if_pos h]
    by_cases h2 : m.2 = n.2
    · rw [if_pos h2]
      constructor
      · intro q; cases q
      · intro q; omega
    · rw [if_neg h2, decide_eq_true_iff]
      omega
  · rw [if_neg h, decide_eq_true_iff]
    omega
theorem best_pr (f : Nat → Pr) : ∀ k, argBest (fun i j => prLt (f i) (f j)) k ≤ k ∧ ∀ j, j ≤ k → prLt (f j) (f (argBest (fun i j => prLt (f i) (f j)) k)) = false
  | 0 => ⟨Nat.le_refl _, fun j hj => by
      obtain rfl : j = 0 := by omega
      cases e : prLt (f 0) (f (argBest (fun i j => prLt (f i) (f j)) 0)) with
      | false => rfl
      | true =>
        have := (prLt_iff _ _).mp e
        simp only [argBest] at this
        omega⟩
  | k + 1 => by
    obtain ⟨h1, h2⟩ := best_pr f k
    have no : ∀ a b : Pr, prLt a b = false ↔ ¬ (a.1 < b.1 ∨ (a.1 = b.1 ∧ a.2 < b.2)) := fun a b => by
      rw [← prLt_iff]
      cases prLt a b <;> simp
    simp only [argBest]
    by_cases c : prLt (f (k + 1)) (f (argBest (fun i j => prLt (f i) (f j)) k)) = true
    · rw [if_pos c]
      refine ⟨Nat.le_refl _, fun j hj => ?_⟩
      rw [no]
      have c' := (prLt_iff _ _).mp c
      by_cases e : j = k + 1
      · subst e; omega
      · have := (no _ _).mp (h2 j (by omega))
        omega
    · rw [if_neg c]
      refine ⟨by omega, fun j hj => ?_⟩
      by_cases e : j = k + 1
      · subst e
        cases q : prLt (f (k + 1)) (f (argBest (fun i j => prLt (f i) (f j)) k)) with
        | false => rfl
        | true => exact absurd q c
      · exact h2 j (by omega)
/-- min(xs) of a list of pairs of ints -/
def rMinP (K : PySem.W.Frag) : List V → Hp → VK → Prop := fun vs H Q => ∃ (a : Addr) (ps : List Addr) (ns : List Pr), vs = [V.ref a] ∧ SqL K H a (ps.map V.ref) ∧ Paired (fun p n => SqT K H p [.int n.1, .int n.2]) ps ns ∧ 0 < ns.length ∧
  ∀ p n, n ∈ ns → SqT K H p [.int n.1, .int n.2] → (∀ m ∈ ns, prLt m n = false) → Q (.ref p) H
theorem cr_minP {X : Cx} (hc : X.calm = true) (hu : X.A.units + 64 < cLine) : CallR X (.builtin "min") (rMinP X.K) := by
  intro pins s σ H vs us Q I r h
  obtain ⟨a, ps, ns, rfl, hs, hp, hne, q⟩ := h
  obtain ⟨its, rv, hl, _⟩ := I.list hs
  rw [Vals.ref1 r]
  have e1 := refs_at rv
  have lenP : ps.length = ns.length := hp.length
  have at_ : ∀ {i : Nat} {v : Value}, its.toArray[i]? = some v → ∃ p n, v = .ref p ∧ ps[i]? = some p ∧ ns[i]? = some n ∧ SqT X.K H p [.int n.1, .int n.2] := fun {i v} e => by
    rw [e1, List.getElem?_toArray, List.getElem?_map] at e
    cases ep : ps[i]? with
    | none => rw [ep] at e; cases e
    | some p =>
      rw [ep] at e
      have lt : i < ns.length := by rw [← lenP]; exact (List.getElem?_eq_some_iff.mp ep).1
      obtain ⟨n, hn⟩ : ∃ n, ns[i]? = some n := ⟨_, List.getElem?_eq_getElem lt⟩
      refine ⟨p, n, (Option.some.inj e).symm, ?_, hn, ?_⟩
      · first | exact ep | rfl
      have : ∀ {l : List Addr} {m : List Pr} {i : Nat} {p : Addr} {n : Pr}, Paired (fun p n => SqT X.K H p [.int n.1, .int n.2]) l m → l[i]? = some p → m[i]? = some n → SqT X.K H p [.int n.1, .int n.2] := by
        intro l m i p n hp
        induction hp generalizing i with
        | nil => intro e; simp at e
        | cons c _ ih =>
          cases i with
          | zero =>
            intro e1 e2
            cases Option.some.inj e1
            cases Option.some.inj e2
            exact c
          | succ i => exact fun e1 e2 => ih e1 e2
      exact this hp ep hn
  let f : Nat → Pr := fun i => ns.getD i (0, 0)
  have fAt : ∀ {i n}, ns[i]? = some n → f i = n := fun {i n} e => by show ns.getD i (0, 0) = n; rw [List.getD_eq_getElem?_getD, e]; rfl
  have size : its.toArray.size = ns.length := by rw [e1, List.size_toArray, List.length_map, lenP]
  refine call_min_good (fun i j => prLt (f i) (f j)) (I.ok.hd hc) hl.isList (by rw [size]; exact hne) (fun i j vi vj s' Q' E' old hi hj q' => ?_) (fun v h' tk hv old => ?_)
  · obtain ⟨p, n, rfl, _, en, tp⟩ := at_ hi
    obtain ⟨p', n', rfl, _, en', tp'⟩ := at_ hj
    obtain ⟨xs, rx, tx, _⟩ := I.tuple tp
    obtain ⟨ys, ry, ty, _⟩ := I.tuple tp'
    have rx' : IntsAre xs [n.1, n.2] := Vals.ints (ns := [n.1, n.2]) rx
    have ry' : IntsAre ys [n'.1, n'.2] := Vals.ints (ns := [n'.1, n'.2]) ry
    have q2 : Q' (.bool (HT.lexLt [n.1, n.2] [n'.1, n'.2])) s' := by
      have q3 := q'
      rw [fAt en, fAt en'] at q3
      exact q3
    have lt := HT.lt_tupInts (prog := X.prog) (w := X.w) (A := X.A.in1) (E := E') (s := s') (l := p) (b := p') (items := xs.toArray) (items2 := ys.toArray) (Q := Q') (by obtain ⟨o, z, r⟩ := tx; exact ⟨o, old _ _ z, r⟩) (by obtain ⟨o, z, r⟩ := ty; exact ⟨o, old _ _ z, r⟩) (by simpa using rx') (by simpa using ry') (by show X.A.units + 1 < cLine; omega) q2
    exact lt
  · obtain ⟨p, n, rfl, _, en, tp⟩ := at_ hv
    refine ⟨.ref p, H, I.kept old, rfl, q p n (List.mem_of_getElem? en) tp fun m hm => ?_⟩
    obtain ⟨j, hj⟩ := List.getElem?_of_mem hm
    have jl : j < ns.length := (List.getElem?_eq_some_iff.mp hj).1
    have := (best_pr f (its.toArray.size - 1)).2 j (by rw [size]; omega)
    rw [fAt hj, fAt en] at this
    exact this
end Tf

set_option maxRecDepth 100000
set_option maxHeartbeats 4000000
/-! # == and != against an empty list, an empty dict; C.m(self, ..) -/
namespace Tf
open PySem PySem.Spec PyProof.Rows L2
section
variable {X : Cx}
/-- xs == [], xs != [], whatever xs holds -/
def rEqNil (K : PySem.W.Frag) : R2 := fun x y H Q => ∃ a b xs, x = .ref a ∧ y = .ref b ∧ SqL K H a xs ∧ SqL K H b [] ∧ Q (.bl xs.isEmpty) H
def rNeNil (K : PySem.W.Frag) : R2 := fun x y H Q => ∃ a b xs, x = .ref a ∧ y = .ref b ∧ SqL K H a xs ∧ SqL K H b [] ∧ Q (.bl (!xs.isEmpty)) H
theorem op_eqNil (hu : X.A.units < cLine) : OpR X (compareOp .Eq) (rEqNil X.K) := by
  intro pins s σ H x y v u Q I rx ry h
  obtain ⟨a, b, xs, rfl, rfl, ha, hb, q⟩ := h
  obtain rfl : v = Value.ref a := rx
  obtain rfl : u = Value.ref b := ry
  obtain ⟨its, rv, la, _⟩ := I.list ha
  obtain ⟨its2, rv2, lb, _⟩ := I.list hb
  cases rv2
  cases xs with
  | nil =>
    cases rv
    exact SeqAt.eq_listAt (e := fun _ => true) la.isList lb.isList rfl hu (fun j h1 _ => absurd h1 (Nat.not_lt_zero _)) (fin_bl I q rfl)
  | cons c r =>
    cases rv with
    | cons hc hr =>
      exact SeqAt.eq_list_lengthsAt la.isList lb.isList (by simp) hu (fin_bl I q rfl)
theorem op_neNil (hu : X.A.units < cLine) : OpR X (compareOp .NotEq) (rNeNil X.K) := by
  intro pins s σ H x y v u Q I rx ry h
  obtain ⟨a, b, xs, rfl, rfl, ha, hb, q⟩ := h
  obtain rfl : v = Value.ref a := rx
  obtain rfl : u = Value.ref b := ry
  obtain ⟨its, rv, la, _⟩ := I.list ha
  obtain ⟨its2, rv2, lb, _⟩ := I.list hb
  cases rv2
  cases xs with
  | nil =>
    cases rv
    exact SeqAt.RcNeAt.lists (e := fun _ => true) la.isList lb.isList rfl hu (fun j h1 _ => absurd h1 (Nat.not_lt_zero _)) X.prog X.w _ _ (fin_bl I q rfl)
  | cons c r =>
    cases rv with
    | cons hc hr =>
      exact SeqAt.RcNeAt.lists_lengths la.isList lb.isList (by simp) hu X.prog X.w _ _ (fin_bl I q rfl)
/-- d == {} -/
def rEqD0 : R2 := fun x y H Q => ∃ a b ks, x = .ref a ∧ y = .ref b ∧ H a = some (.dK ks) ∧ H b = some (.dK []) ∧ Q (.bl ks.isEmpty) H
theorem op_eqD0 (hu : X.A.units < cLine) : OpR X (compareOp .Eq) rEqD0 := by
  intro pins s σ H x y v u Q I rx ry h
  obtain ⟨a, b, ks, rfl, rfl, ea, eb, q⟩ := h
  obtain rfl : v = Value.ref a := rx
  obtain rfl : u = Value.ref b := ry
  obtain ⟨_, ya, va, ra, da⟩ := (show ObjOk X.prog X.w H s.heap a (.dK ks) from I.hok a _ ea)
  obtain ⟨_, yb, vb, rb, db⟩ := (show ObjOk X.prog X.w H s.heap b (.dK []) from I.hok b _ eb)
  cases rb
  cases ks with
  | nil =>
    cases ra
    exact PySem.W.keq_eq (knd := mixKind X.prog X.w) (r := true) ya yb da db hu (fun _ => .nil) (fin_bl I q rfl)
  | cons c r =>
    cases ra with
    | cons hc hr =>
      exact PySem.W.keq_eq (knd := mixKind X.prog X.w) (r := true) ya yb da db hu (fun z => by simp at z) (fin_bl I q (by simp))
/-- C.m(e, ..), m a plain def of the class at C -/
theorem pe_clsfn {CX : CXT} {k : Nat} {C f : Addr} {mc : Value} {fd : FuncData} {ps : List Str} {sp : Sp} {E : XK} {x m : Str} {p pos apos : Pos} {e : Expr} {es : List Expr} {t : TA} {pl : Sem Bool}
    (hg : Gl X x) (hm : X.mg x = some (.ref C)) (r : ClX.CRead X.K C mc) (c : ClX.CVal X.K C mc m (.ref f) (.ref f)) (kp : PySem.W.keepIn X.K (.ref f) = true)
    (F : FnOk X.prog X.w X.K X.mg X.base CX k f fd ps sp) (hr : Room k X.A) (hb : Binds X.K fd ps []) (hx : Passes CX X E) (ha : PA X (e :: es) t) (hdb : (x == ("__debug__" : Str)) = false := by decide)
    (hst : starEach (e :: es) X.env = (false, eval e X.env) :: starEach es X.env := by rfl) (hpl : (backTo pos (starEach es X.env)).any (·.1) = false := by rfl)
    (ht : eval (.Call (.Attribute (.Name x p) m apos) (e :: es) [] pos) X.env = (do
      let ov ← eval (.Name x p) X.env
      standAt apos.atName
      let (f, first) ← holding [ov] (getMethod ov m pl)
      callWith pos f first (backTo pos (starEach (e :: es) X.env)) (backToKw pos (keywordEach [] X.env))) := by rfl) :
    PE X (.Call (.Attribute (.Name x p) m apos) (e :: es) [] pos) (tCall sp [] E t) := by
  refine ⟨fun pins s σ H Q I h => ?_⟩
  refine PySem.W.methodCall_KW (pl := pl) (ld_glob I hg hm ?_ hdb) ht
  refine PySem.W.method_cls I.kIn r.ga (ClX.getcval_ok I r c fun s1 I1 => ?_)
  refine PySem.W.callWith_K (first := []) (h₀ := X.base) I1.ok.mod.kin kp (thn (ha.run pos pins s1 σ H _ I1 h) fun us s2 hh => ?_) hst hpl
  obtain ⟨vs, H2, I2, r2, q2⟩ := hh
  exact ⟨I2.kIn, run_fn F hr hb .nil hx I2 r2 q2⟩
/-! ### a written tuple whose object is kept: its methods may be called -/
def tTupF (t : TA) : TE := fun σ H Q => t σ H fun xs H1 => xs.length ≤ sizeLine ∧ ∀ (p : Addr) (o : Obj), H1 p = none → o.cls = .type "tuple" → o.dict = none → Q (.ref p) (upd H1 p (.frz o (.tup xs)))
theorem pe_tupF {es : List Expr} {t : TA} {pos : Pos} {x1} (h : PA X es t) : PE X (.Tuple es x1 pos) (tTupF t) := by
  refine ⟨fun pins s σ H Q I hq => ?_⟩
  refine wpAny_Tuple_spliced (thn (h.run pos pins s σ H _ I hq) fun us s1 hh => ?_)
  obtain ⟨xs, H1, I1, r, z, q⟩ := hh
  refine ⟨by rw [← r.length]; exact z, ?_⟩
  have fresh : H1 s1.heap.objs.size = none := I1.hok.fresh (Nat.le_refl _)
  refine ⟨.ref s1.heap.objs.size, upd H1 s1.heap.objs.size (.frz { cls := .type "tuple", data := .seq us.toArray } (.tup xs)), I1.laid (t' := s1.toks) (fun b u e => Heap.get?_push_of_some _ e) (Nat.le_refl _) ?_, rfl, q _ _ fresh rfl rfl⟩
  exact ⟨Heap.get?_push_size _ rfl, z, us, r, ⟨_, Heap.get?_push_size _ rfl, rfl, _, rfl⟩⟩
/-- a tuple of the text, or such a one -/
def tyT (K : PySem.W.Frag) (x : V) (H : Hp) : Prop := ∃ p, x = .ref p ∧ ((∃ o, K.lookup p = some o ∧ o.cls = .type "tuple" ∧ o.dict = none) ∨ ∃ o xs, H p = some (.frz o (.tup xs)) ∧ o.cls = .type "tuple" ∧ o.dict = none)
def tTix (K : PySem.W.Frag) (to : TE) (t : TA) : TE := fun σ H Q => to σ H fun x H1 => tyT K x H1 ∧ t σ H1 fun xs H2 => ∃ p, ∃ ys : List Str, ∃ z j, x = .ref p ∧ xs = [.str z] ∧ SqT K H2 p (ys.map V.str) ∧ ys[j]? = some z ∧ (∀ m, m < j → ys[m]? ≠ some z) ∧ Q (.int (j : Nat)) H2
/-- t.index(z), t a tuple of texts -/
theorem pe_tix {o e : Expr} {es : List Expr} {to : TE} {t : TA} {apos cpos : Pos} (ho : PE X o to) (ha : PA X (e :: es) t)
    (hbase : attributeBase o "index" X.env (eval o X.env) = eval o X.env := by rfl)
    (hfew : ((backTo cpos (starEach (e :: es) X.env)).all (fun x => !x.1) && (backToKw cpos (keywordEach [] X.env)).all (fun x => x.1.isSome)
      && decide ((e :: es).length + ([] : List Keyword).length + (if ([] : List Keyword).isEmpty then 0 else 1) < 30)) = true := by rfl)
    (hline : (apos.endLine == cpos.line) = true := by rfl) (hs : starEach (e :: es) X.env = (false, eval e X.env) :: starEach es X.env := by rfl) (hplain : (backTo cpos (starEach es X.env)).any (·.1) = false := by rfl) :
    PE X (.Call (.Attribute o "index" apos) (e :: es) [] cpos) (tTix X.K to t) := by
  refine ⟨fun pins s σ H Q I h => ?_⟩
  refine wpAny_Call_method_late hbase hfew hline rfl (thn (ho.run pins s σ H _ I h) fun v s1 hh => ?_)
  obtain ⟨x, H1, I1, r1, ⟨p, rfl, ty⟩, q1⟩ := hh
  obtain rfl : v = Value.ref p := r1
  obtain ⟨ob, hob, hc, hd⟩ : ∃ ob, s1.heap.get? p = some ob ∧ ob.cls = .type "tuple" ∧ ob.dict = none := by
    rcases ty with ⟨ob, z, hc, hd⟩ | ⟨ob, xs, z, hc, hd⟩
    · exact ⟨ob, I1.kIn _ _ z, hc, hd⟩
    · exact ⟨ob, (I1.hok p _ z).1, hc, hd⟩
  refine ⟨"tuple", "tuple.index", PySem.F.plainAttrs_tuple, PySem.F.slot_tuple_index, PySem.F.type_tuple_index, ⟨ob, hob, hc⟩, fun a ea => ?_, ?_⟩
  · cases ea
    exact ⟨ob, hob, hd⟩
  have hA := ha.run cpos pins s1 σ H1 _ I1 q1
  rw [hs] at hA ⊢
  refine Calls.callWith_builtin (by show (false || (backTo cpos (starEach es X.env)).any (·.1)) = false; rw [hplain] <;> rfl) (Calls.evalArgs_plain ?_)
  refine thn hA fun us s2 hh => ?_
  obtain ⟨vs, H2, I2, r2, q2⟩ := hh
  exact mt_tup_index pins s2 σ H2 (.ref p) vs (.ref p) us Q I2 rfl r2 q2
end
end Tf

set_option maxRecDepth 100000
set_option maxHeartbeats 4000000
/-! # The text by places; what the top has written of it; heaps -/
namespace Tf
open PySem PySem.Spec PyProof.Rows L2
/-- the i-th statement of the program -/
def top (i : Nat) : Stmt := PySem.Challenge.pw_taflahead_s01_answers.main.body.getD i (.Pass ⟨0, 0, 0, 0⟩)
abbrev s_Fault___init__ : Stmt := inClass (top 17) 0
theorem sc_Fault___init__ : FnScope ["self", "kind", "place"] ["self", "kind", "place"] (defScope s_Fault___init__) := ⟨rfl, rfl, rfl, by decide +kernel, rfl, by decide +kernel, by decide +kernel⟩
abbrev s_Bytes___init__ : Stmt := inClass (top 18) 0
theorem sc_Bytes___init__ : FnScope ["self", "text"] ["self", "text"] (defScope s_Bytes___init__) := ⟨rfl, rfl, rfl, by decide +kernel, rfl, by decide +kernel, by decide +kernel⟩
abbrev s_Bytes_next_byte : Stmt := inClass (top 18) 1
theorem sc_Bytes_next_byte : FnScope ["self"] ["self"] (defScope s_Bytes_next_byte) := ⟨rfl, rfl, rfl, by decide +kernel, rfl, by decide +kernel, by decide +kernel⟩
abbrev s_Bytes_want : Stmt := inClass (top 18) 2
theorem sc_Bytes_want : FnScope ["self", "truth"] ["self", "truth"] (defScope s_Bytes_want) := ⟨rfl, rfl, rfl, by decide +kernel, rfl, by decide +kernel, by decide +kernel⟩
abbrev s_Bytes_is_one_of : Stmt := inClass (top 18) 3
theorem sc_Bytes_is_one_of : FnScope ["self", "signs", "sign"] ["self", "signs"] (defScope s_Bytes_is_one_of) := ⟨rfl, rfl, rfl, by decide +kernel, rfl, by decide +kernel, by decide +kernel⟩
abbrev s_Bytes_take : Stmt := inClass (top 18) 4
theorem sc_Bytes_take : FnScope ["self", "signs", "sign"] ["self", "signs"] (defScope s_Bytes_take) := ⟨rfl, rfl, rfl, by decide +kernel, rfl, by decide +kernel, by decide +kernel⟩
abbrev s_Bytes_literal : Stmt := inClass (top 18) 5
theorem sc_Bytes_literal : FnScope ["self", "word", "sign"] ["self", "word"] (defScope s_Bytes_literal) := ⟨rfl, rfl, rfl, by decide +kernel, rfl, by decide +kernel, by decide +kernel⟩
abbrev s_Bytes_line_end : Stmt := inClass (top 18) 6
theorem sc_Bytes_line_end : FnScope ["self"] ["self"] (defScope s_Bytes_line_end) := ⟨rfl, rfl, rfl, by decide +kernel, rfl, by decide +kernel, by decide +kernel⟩
abbrev s_Bytes_choice : Stmt := inClass (top 18) 7
theorem sc_Bytes_choice : FnScope ["self", "words", "left", "taken", "word"] ["self", "words"] (defScope s_Bytes_choice) := ⟨rfl, rfl, rfl, by decide +kernel, rfl, by decide +kernel, by decide +kernel⟩
abbrev s_Bytes_size : Stmt := inClass (top 18) 8
theorem sc_Bytes_size : FnScope ["self", "first"] ["self"] (defScope s_Bytes_size) := ⟨rfl, rfl, rfl, by decide +kernel, rfl, by decide +kernel, by decide +kernel⟩
abbrev s_Bytes_limit : Stmt := inClass (top 18) 9
theorem sc_Bytes_limit : FnScope ["self", "found"] ["self"] (defScope s_Bytes_limit) := ⟨rfl, rfl, rfl, by decide +kernel, rfl, by decide +kernel, by decide +kernel⟩
abbrev s_Bytes_name : Stmt := inClass (top 18) 10
theorem sc_Bytes_name : FnScope ["self", "begin"] ["self"] (defScope s_Bytes_name) := ⟨rfl, rfl, rfl, by decide +kernel, rfl, by decide +kernel, by decide +kernel⟩
abbrev s_Bytes_finish : Stmt := inClass (top 18) 11
theorem sc_Bytes_finish : FnScope ["self"] ["self"] (defScope s_Bytes_finish) := ⟨rfl, rfl, rfl, by decide +kernel, rfl, by decide +kernel, by decide +kernel⟩
abbrev s_is_letter : Stmt := top 19
theorem sc_is_letter : FnScope ["byte"] ["byte"] (defScope s_is_letter) := ⟨rfl, rfl, rfl, by decide +kernel, rfl, by decide +kernel, by decide +kernel⟩
abbrev s_Rules___init__ : Stmt := inClass (top 20) 0
theorem sc_Rules___init__ : FnScope ["self"] ["self"] (defScope s_Rules___init__) := ⟨rfl, rfl, rfl, by decide +kernel, rfl, by decide +kernel, by decide +kernel⟩
abbrev s_Rules_is_edge : Stmt := inClass (top 20) 1
theorem sc_Rules_is_edge : FnScope ["self", "cell", "x", "y"] ["self", "cell"] (defScope s_Rules_is_edge) := ⟨rfl, rfl, rfl, by decide +kernel, rfl, by decide +kernel, by decide +kernel⟩
abbrev s_Rules_is_goal : Stmt := inClass (top 20) 2
theorem sc_Rules_is_goal : FnScope ["self", "cell"] ["self", "cell"] (defScope s_Rules_is_goal) := ⟨rfl, rfl, rfl, by decide +kernel, rfl, by decide +kernel, by decide +kernel⟩
abbrev s_Rules_has : Stmt := inClass (top 20) 3
theorem sc_Rules_has : FnScope ["self", "cell", "x", "y"] ["self", "cell"] (defScope s_Rules_has) := ⟨rfl, rfl, rfl, by decide +kernel, rfl, by decide +kernel, by decide +kernel⟩
abbrev s_Rules_may_stand : Stmt := inClass (top 20) 4
theorem sc_Rules_may_stand : FnScope ["self", "sign", "cell"] ["self", "sign", "cell"] (defScope s_Rules_may_stand) := ⟨rfl, rfl, rfl, by decide +kernel, rfl, by decide +kernel, by decide +kernel⟩
abbrev s_Rules_settle : Stmt := inClass (top 20) 5
theorem sc_Rules_settle : FnScope ["self", "sign", "cell", "place"] ["self"] (defScope s_Rules_settle) := ⟨rfl, rfl, rfl, by decide +kernel, rfl, by decide +kernel, by decide +kernel⟩
abbrev s_rows_read : Stmt := top 21
theorem sc_rows_read : FnScope ["reader", "rules", "signs", "found", "row", "x", "place"] ["reader", "rules", "signs"] (defScope s_rows_read) := ⟨rfl, rfl, rfl, by decide +kernel, rfl, by decide +kernel, by decide +kernel⟩
abbrev s_head_read : Stmt := top 22
theorem sc_head_read : FnScope ["reader", "rules"] ["reader", "rules"] (defScope s_head_read) := ⟨rfl, rfl, rfl, by decide +kernel, rfl, by decide +kernel, by decide +kernel⟩
abbrev s_king_read : Stmt := top 23
theorem sc_king_read : FnScope ["reader", "rules"] ["reader", "rules"] (defScope s_king_read) := ⟨rfl, rfl, rfl, by decide +kernel, rfl, by decide +kernel, by decide +kernel⟩
abbrev s_rest_read : Stmt := top 24
theorem sc_rest_read : FnScope ["reader", "rules"] ["reader", "rules"] (defScope s_rest_read) := ⟨rfl, rfl, rfl, by decide +kernel, rfl, by decide +kernel, by decide +kernel⟩
abbrev s_second_of : Stmt := top 25
theorem sc_second_of : FnScope ["signs", "sign", "own", "cell", "place"] ["signs", "sign"] (defScope s_second_of) := ⟨rfl, rfl, rfl, by decide +kernel, rfl, by decide +kernel, by decide +kernel⟩
abbrev s_wrong_pieces : Stmt := top 26
theorem sc_wrong_pieces : FnScope ["rules", "found", "sign", "cell", "place"] ["rules"] (defScope s_wrong_pieces) := ⟨rfl, rfl, rfl, by decide +kernel, rfl, by decide +kernel, by decide +kernel⟩
abbrev s_is_goal_wrong : Stmt := top 27
theorem sc_is_goal_wrong : FnScope ["rules", "kings", "sign", "cell", "place"] ["rules"] (defScope s_is_goal_wrong) := ⟨rfl, rfl, rfl, by decide +kernel, rfl, by decide +kernel, by decide +kernel⟩
abbrev s_lacks : Stmt := top 28
theorem sc_lacks : FnScope ["rules", "signs", "sign", "cell", "place"] ["rules"] (defScope s_lacks) := ⟨rfl, rfl, rfl, by decide +kernel, rfl, by decide +kernel, by decide +kernel⟩
abbrev s_read_rules : Stmt := top 29
theorem sc_read_rules : FnScope ["text", "rules", "reader", "faults", "place", "kind"] ["text"] (defScope s_read_rules) := ⟨rfl, rfl, rfl, by decide +kernel, rfl, by decide +kernel, by decide +kernel⟩
abbrev s_second_seats : Stmt := top 30
theorem sc_second_seats : FnScope ["rules"] ["rules"] (defScope s_second_seats) := ⟨rfl, rfl, rfl, by decide +kernel, rfl, by decide +kernel, by decide +kernel⟩
abbrev s_Position___init__ : Stmt := inClass (top 34) 0
theorem sc_Position___init__ : FnScope ["self", "hunters", "men", "king", "turn", "cell"] ["self", "hunters", "men", "king", "turn"] (defScope s_Position___init__) := ⟨rfl, rfl, rfl, by decide +kernel, rfl, by decide +kernel, by decide +kernel⟩
abbrev s_Position_has_piece : Stmt := inClass (top 34) 1
theorem sc_Position_has_piece : FnScope ["self", "cell"] ["self", "cell"] (defScope s_Position_has_piece) := ⟨rfl, rfl, rfl, by decide +kernel, rfl, by decide +kernel, by decide +kernel⟩
abbrev s_LineReader___init__ : Stmt := inClass (top 35) 0
theorem sc_LineReader___init__ : FnScope ["self", "text"] ["self", "text"] (defScope s_LineReader___init__) := ⟨rfl, rfl, rfl, by decide +kernel, rfl, by decide +kernel, by decide +kernel⟩
abbrev s_LineReader_gap : Stmt := inClass (top 35) 1
theorem sc_LineReader_gap : FnScope ["self", "left", "digits", "found"] ["self", "left"] (defScope s_LineReader_gap) := ⟨rfl, rfl, rfl, by decide +kernel, rfl, by decide +kernel, by decide +kernel⟩
abbrev s_LineReader_piece : Stmt := inClass (top 35) 2
theorem sc_LineReader_piece : FnScope ["self", "cell", "place", "signs", "sign", "own", "there"] ["self", "cell"] (defScope s_LineReader_piece) := ⟨rfl, rfl, rfl, by decide +kernel, rfl, by decide +kernel, by decide +kernel⟩
abbrev s_LineReader_row : Stmt := inClass (top 35) 3
theorem sc_LineReader_row : FnScope ["self", "y", "wide", "x", "is_number"] ["self", "y", "wide"] (defScope s_LineReader_row) := ⟨rfl, rfl, rfl, by decide +kernel, rfl, by decide +kernel, by decide +kernel⟩
abbrev s_LineReader_line : Stmt := inClass (top 35) 4
theorem sc_LineReader_line : FnScope ["self", "rules", "row", "turn"] ["self", "rules"] (defScope s_LineReader_line) := ⟨rfl, rfl, rfl, by decide +kernel, rfl, by decide +kernel, by decide +kernel⟩
abbrev s_read_position : Stmt := top 36
theorem sc_read_position : FnScope ["rules", "text", "reader", "turn", "sign", "cell", "place", "cells", "own"] ["rules", "text"] (defScope s_read_position) := ⟨rfl, rfl, rfl, by decide +kernel, rfl, by decide +kernel, by decide +kernel⟩
abbrev s_beside : Stmt := top 45
theorem sc_beside : FnScope ["rules", "cell", "way", "x", "y"] ["rules", "cell", "way"] (defScope s_beside) := ⟨rfl, rfl, rfl, by decide +kernel, rfl, by decide +kernel, by decide +kernel⟩
abbrev s_is_free : Stmt := top 46
theorem sc_is_free : FnScope ["rules", "position", "cell"] ["rules", "position", "cell"] (defScope s_is_free) := ⟨rfl, rfl, rfl, by decide +kernel, rfl, by decide +kernel, by decide +kernel⟩
abbrev s_may_stop : Stmt := top 47
theorem sc_may_stop : FnScope ["rules", "cell", "is_king"] ["rules", "cell", "is_king"] (defScope s_may_stop) := ⟨rfl, rfl, rfl, by decide +kernel, rfl, by decide +kernel, by decide +kernel⟩
abbrev s_may_go_over : Stmt := top 48
theorem sc_may_go_over : FnScope ["rules", "cell", "is_king"] ["rules", "cell", "is_king"] (defScope s_may_go_over) := ⟨rfl, rfl, rfl, by decide +kernel, rfl, by decide +kernel, by decide +kernel⟩
abbrev s_goals_of : Stmt := top 49
theorem sc_goals_of : FnScope ["rules", "position", "cell", "is_king", "found", "way", "here"] ["rules", "position", "cell", "is_king"] (defScope s_goals_of) := ⟨rfl, rfl, rfl, by decide +kernel, rfl, by decide +kernel, by decide +kernel⟩
abbrev s_king_goals : Stmt := top 50
theorem sc_king_goals : FnScope ["rules", "position"] ["rules", "position"] (defScope s_king_goals) := ⟨rfl, rfl, rfl, by decide +kernel, rfl, by decide +kernel, by decide +kernel⟩
abbrev s_movers : Stmt := top 51
theorem sc_movers : FnScope ["position", "cell"] ["position"] (defScope s_movers) := ⟨rfl, rfl, rfl, by decide +kernel, rfl, by decide +kernel, by decide +kernel⟩
abbrev s_moves_of : Stmt := top 52
theorem sc_moves_of : FnScope ["rules", "position", "found", "cell", "to"] ["rules", "position"] (defScope s_moves_of) := ⟨rfl, rfl, rfl, by decide +kernel, rfl, by decide +kernel, by decide +kernel⟩
abbrev s_has_move : Stmt := top 53
theorem sc_has_move : FnScope ["rules", "position", "cell"] ["rules", "position"] (defScope s_has_move) := ⟨rfl, rfl, rfl, by decide +kernel, rfl, by decide +kernel, by decide +kernel⟩
abbrev s_is_against : Stmt := top 54
theorem sc_is_against : FnScope ["rules", "position", "cell", "enmities"] ["rules", "position", "cell", "enmities"] (defScope s_is_against) := ⟨rfl, rfl, rfl, by decide +kernel, rfl, by decide +kernel, by decide +kernel⟩
abbrev s_has_hunter_or_against : Stmt := top 55
theorem sc_has_hunter_or_against : FnScope ["rules", "position", "cell"] ["rules", "position", "cell"] (defScope s_has_hunter_or_against) := ⟨rfl, rfl, rfl, by decide +kernel, rfl, by decide +kernel, by decide +kernel⟩
abbrev s_is_helper : Stmt := top 56
theorem sc_is_helper : FnScope ["rules", "position", "cell"] ["rules", "position", "cell"] (defScope s_is_helper) := ⟨rfl, rfl, rfl, by decide +kernel, rfl, by decide +kernel, by decide +kernel⟩
abbrev s_taken_hunters : Stmt := top 57
theorem sc_taken_hunters : FnScope ["rules", "position", "cell", "found", "way", "there"] ["rules", "position", "cell"] (defScope s_taken_hunters) := ⟨rfl, rfl, rfl, by decide +kernel, rfl, by decide +kernel, by decide +kernel⟩
abbrev s_is_king_shut : Stmt := top 58
theorem sc_is_king_shut : FnScope ["rules", "position", "way", "king", "own"] ["rules", "position", "way"] (defScope s_is_king_shut) := ⟨rfl, rfl, rfl, by decide +kernel, rfl, by decide +kernel, by decide +kernel⟩
abbrev s_taken_men : Stmt := top 59
theorem sc_taken_men : FnScope ["rules", "position", "cell", "found", "way", "there"] ["rules", "position", "cell"] (defScope s_taken_men) := ⟨rfl, rfl, rfl, by decide +kernel, rfl, by decide +kernel, by decide +kernel⟩
abbrev s_gone_to : Stmt := top 60
theorem sc_gone_to : FnScope ["cells", "begin", "to", "cell"] ["cells", "begin", "to"] (defScope s_gone_to) := ⟨rfl, rfl, rfl, by decide +kernel, rfl, by decide +kernel, by decide +kernel⟩
abbrev s_made : Stmt := top 61
theorem sc_made : FnScope ["rules", "position", "begin", "to", "king", "hunters", "men", "come", "taken", "left", "cell"] ["rules", "position", "begin", "to"] (defScope s_made) := ⟨rfl, rfl, rfl, by decide +kernel, rfl, by decide +kernel, by decide +kernel⟩
abbrev s_over_by : Stmt := top 62
theorem sc_over_by : FnScope ["rules", "position"] ["rules", "position"] (defScope s_over_by) := ⟨rfl, rfl, rfl, by decide +kernel, rfl, by decide +kernel, by decide +kernel⟩
abbrev s_have_hunters_won : Stmt := top 63
theorem sc_have_hunters_won : FnScope ["position", "over"] ["position", "over"] (defScope s_have_hunters_won) := ⟨rfl, rfl, rfl, by decide +kernel, rfl, by decide +kernel, by decide +kernel⟩
abbrev s_weighed : Stmt := top 67
theorem sc_weighed : FnScope ["rules", "position", "weights", "hunter", "man", "road", "found"] ["rules", "position", "weights"] (defScope s_weighed) := ⟨rfl, rfl, rfl, by decide +kernel, rfl, by decide +kernel, by decide +kernel⟩
abbrev s_Node___init__ : Stmt := inClass (top 68) 0
theorem sc_Node___init__ : FnScope ["self", "position", "over"] ["self", "position", "over"] (defScope s_Node___init__) := ⟨rfl, rfl, rfl, by decide +kernel, rfl, by decide +kernel, by decide +kernel⟩
abbrev s_Looking___init__ : Stmt := inClass (top 69) 0
theorem sc_Looking___init__ : FnScope ["self", "rules", "most"] ["self", "rules", "most"] (defScope s_Looking___init__) := ⟨rfl, rfl, rfl, by decide +kernel, rfl, by decide +kernel, by decide +kernel⟩
abbrev s_Looking_node : Stmt := inClass (top 69) 1
theorem sc_Looking_node : FnScope ["self", "position", "n", "found", "begin", "to", "come", "taken"] ["self", "position", "n"] (defScope s_Looking_node) := ⟨rfl, rfl, rfl, by decide +kernel, rfl, by decide +kernel, by decide +kernel⟩
abbrev s_worth : Stmt := top 70
theorem sc_worth : FnScope ["rules", "weights", "node", "d", "some"] ["rules", "weights", "node", "d"] (defScope s_worth) := ⟨rfl, rfl, rfl, by decide +kernel, rfl, by decide +kernel, by decide +kernel⟩
abbrev s_branch_worths : Stmt := top 71
theorem sc_branch_worths : FnScope ["rules", "weights", "node", "d", "branch"] ["rules", "weights", "node", "d"] (defScope s_branch_worths) := ⟨rfl, rfl, rfl, by decide +kernel, rfl, by decide +kernel, by decide +kernel⟩
abbrev s_row_of : Stmt := top 72
theorem sc_row_of : FnScope ["rules", "weights", "node", "found", "d", "some", "begin", "to", "taken", "come"] ["rules", "weights", "node"] (defScope s_row_of) := ⟨rfl, rfl, rfl, by decide +kernel, rfl, by decide +kernel, by decide +kernel⟩
abbrev s_Refused___init__ : Stmt := inClass (top 85) 0
theorem sc_Refused___init__ : FnScope ["self", "told"] ["self", "told"] (defScope s_Refused___init__) := ⟨rfl, rfl, rfl, by decide +kernel, rfl, by decide +kernel, by decide +kernel⟩
abbrev s_want : Stmt := top 86
theorem sc_want : FnScope ["truth", "number"] ["truth", "number"] (defScope s_want) := ⟨rfl, rfl, rfl, by decide +kernel, rfl, by decide +kernel, by decide +kernel⟩
abbrev s_Desk___init__ : Stmt := inClass (top 87) 0
theorem sc_Desk___init__ : FnScope ["self"] ["self"] (defScope s_Desk___init__) := ⟨rfl, rfl, rfl, by decide +kernel, rfl, by decide +kernel, by decide +kernel⟩
abbrev s_Desk_set_rules : Stmt := inClass (top 87) 1
theorem sc_Desk_set_rules : FnScope ["self", "text", "e"] ["self", "text"] (defScope s_Desk_set_rules) := ⟨rfl, rfl, rfl, by decide +kernel, rfl, by decide +kernel, by decide +kernel⟩
abbrev s_Desk_position_in : Stmt := inClass (top 87) 2
theorem sc_Desk_position_in : FnScope ["self", "line", "weights", "found", "e", "weight"] ["self", "line", "weights"] (defScope s_Desk_position_in) := ⟨rfl, rfl, rfl, by decide +kernel, rfl, by decide +kernel, by decide +kernel⟩
abbrev s_Desk_weigh : Stmt := inClass (top 87) 3
theorem sc_Desk_weigh : FnScope ["self", "weights", "line", "position"] ["self", "weights", "line"] (defScope s_Desk_weigh) := ⟨rfl, rfl, rfl, by decide +kernel, rfl, by decide +kernel, by decide +kernel⟩
abbrev s_Desk_looked : Stmt := inClass (top 87) 4
theorem sc_Desk_looked : FnScope ["self", "position", "n", "most", "looking", "found"] ["self", "position", "n", "most"] (defScope s_Desk_looked) := ⟨rfl, rfl, rfl, by decide +kernel, rfl, by decide +kernel, by decide +kernel⟩
abbrev s_Desk_ahead : Stmt := inClass (top 87) 5
theorem sc_Desk_ahead : FnScope ["self", "weights", "n", "most", "line", "position", "node", "rows", "found", "row"] ["self", "weights", "n", "most", "line"] (defScope s_Desk_ahead) := ⟨rfl, rfl, rfl, by decide +kernel, rfl, by decide +kernel, by decide +kernel⟩
abbrev s_Desk_each : Stmt := inClass (top 87) 6
theorem sc_Desk_each : FnScope ["self", "weights", "n", "most", "line", "position", "some"] ["self", "weights", "n", "most", "line"] (defScope s_Desk_each) := ⟨rfl, rfl, rfl, by decide +kernel, rfl, by decide +kernel, by decide +kernel⟩
abbrev s_Desk_done : Stmt := inClass (top 87) 7
theorem sc_Desk_done : FnScope ["self", "call", "n", "text"] ["self", "call", "n", "text"] (defScope s_Desk_done) := ⟨rfl, rfl, rfl, by decide +kernel, rfl, by decide +kernel, by decide +kernel⟩
abbrev s_Desk_answer : Stmt := inClass (top 87) 8
theorem sc_Desk_answer : FnScope ["self", "call", "n", "text", "found", "e"] ["self", "call", "n", "text"] (defScope s_Desk_answer) := ⟨rfl, rfl, rfl, by decide +kernel, rfl, by decide +kernel, by decide +kernel⟩
abbrev s_answers : Stmt := top 88
theorem sc_answers : FnScope ["calls", "desk", "found", "place", "call", "end", "behind", "told"] ["calls"] (defScope s_answers) := ⟨rfl, rfl, rfl, by decide +kernel, rfl, by decide +kernel, by decide +kernel⟩
structure Adr where
  c_Fault : Addr
  c_Bytes : Addr
  c_Rules : Addr
  c_Position : Addr
  c_LineReader : Addr
  c_TooMany : Addr
  c_Node : Addr
  c_Looking : Addr
  c_Refused : Addr
  c_Desk : Addr
  f_Fault___init__ : Addr
  d_Fault___init__ : FuncData
  f_Bytes___init__ : Addr
  d_Bytes___init__ : FuncData
  f_Bytes_next_byte : Addr
  d_Bytes_next_byte : FuncData
  f_Bytes_want : Addr
  d_Bytes_want : FuncData
  f_Bytes_is_one_of : Addr
  d_Bytes_is_one_of : FuncData
  f_Bytes_take : Addr
  d_Bytes_take : FuncData
  f_Bytes_literal : Addr
  d_Bytes_literal : FuncData
  f_Bytes_line_end : Addr
  d_Bytes_line_end : FuncData
  f_Bytes_choice : Addr
  d_Bytes_choice : FuncData
  f_Bytes_size : Addr
  d_Bytes_size : FuncData
  f_Bytes_limit : Addr
  d_Bytes_limit : FuncData
  f_Bytes_name : Addr
  d_Bytes_name : FuncData
  f_Bytes_finish : Addr
  d_Bytes_finish : FuncData
  f_is_letter : Addr
  d_is_letter : FuncData
  f_Rules___init__ : Addr
  d_Rules___init__ : FuncData
  f_Rules_is_edge : Addr
  d_Rules_is_edge : FuncData
  f_Rules_is_goal : Addr
  d_Rules_is_goal : FuncData
  f_Rules_has : Addr
  d_Rules_has : FuncData
  f_Rules_may_stand : Addr
  d_Rules_may_stand : FuncData
  f_Rules_settle : Addr
  d_Rules_settle : FuncData
  f_rows_read : Addr
  d_rows_read : FuncData
  f_head_read : Addr
  d_head_read : FuncData
  f_king_read : Addr
  d_king_read : FuncData
  f_rest_read : Addr
  d_rest_read : FuncData
  f_second_of : Addr
  d_second_of : FuncData
  f_wrong_pieces : Addr
  d_wrong_pieces : FuncData
  f_is_goal_wrong : Addr
  d_is_goal_wrong : FuncData
  f_lacks : Addr
  d_lacks : FuncData
  f_read_rules : Addr
  d_read_rules : FuncData
  f_second_seats : Addr
  d_second_seats : FuncData
  f_Position___init__ : Addr
  d_Position___init__ : FuncData
  f_Position_has_piece : Addr
  d_Position_has_piece : FuncData
  f_LineReader___init__ : Addr
  d_LineReader___init__ : FuncData
  f_LineReader_gap : Addr
  d_LineReader_gap : FuncData
  f_LineReader_piece : Addr
  d_LineReader_piece : FuncData
  f_LineReader_row : Addr
  d_LineReader_row : FuncData
  f_LineReader_line : Addr
  d_LineReader_line : FuncData
  f_read_position : Addr
  d_read_position : FuncData
  f_beside : Addr
  d_beside : FuncData
  f_is_free : Addr
  d_is_free : FuncData
  f_may_stop : Addr
  d_may_stop : FuncData
  f_may_go_over : Addr
  d_may_go_over : FuncData
  f_goals_of : Addr
  d_goals_of : FuncData
  f_king_goals : Addr
  d_king_goals : FuncData
  f_movers : Addr
  d_movers : FuncData
  f_moves_of : Addr
  d_moves_of : FuncData
  f_has_move : Addr
  d_has_move : FuncData
  f_is_against : Addr
  d_is_against : FuncData
  f_has_hunter_or_against : Addr
  d_has_hunter_or_against : FuncData
  f_is_helper : Addr
  d_is_helper : FuncData
  f_taken_hunters : Addr
  d_taken_hunters : FuncData
  f_is_king_shut : Addr
  d_is_king_shut : FuncData
  f_taken_men : Addr
  d_taken_men : FuncData
  f_gone_to : Addr
  d_gone_to : FuncData
  f_made : Addr
  d_made : FuncData
  f_over_by : Addr
  d_over_by : FuncData
  f_have_hunters_won : Addr
  d_have_hunters_won : FuncData
  f_weighed : Addr
  d_weighed : FuncData
  f_Node___init__ : Addr
  d_Node___init__ : FuncData
  f_Looking___init__ : Addr
  d_Looking___init__ : FuncData
  f_Looking_node : Addr
  d_Looking_node : FuncData
  f_worth : Addr
  d_worth : FuncData
  f_branch_worths : Addr
  d_branch_worths : FuncData
  f_row_of : Addr
  d_row_of : FuncData
  f_Refused___init__ : Addr
  d_Refused___init__ : FuncData
  f_want : Addr
  d_want : FuncData
  f_Desk___init__ : Addr
  d_Desk___init__ : FuncData
  f_Desk_set_rules : Addr
  d_Desk_set_rules : FuncData
  f_Desk_position_in : Addr
  d_Desk_position_in : FuncData
  f_Desk_weigh : Addr
  d_Desk_weigh : FuncData
  f_Desk_looked : Addr
  d_Desk_looked : FuncData
  f_Desk_ahead : Addr
  d_Desk_ahead : FuncData
  f_Desk_each : Addr
  d_Desk_each : FuncData
  f_Desk_done : Addr
  d_Desk_done : FuncData
  f_Desk_answer : Addr
  d_Desk_answer : FuncData
  f_answers : Addr
  d_answers : FuncData
  a_SIDES : Addr
  a_ENMITIES : Addr
  a_WAYS : Addr
  a_AGAINST_HUNTERS : Addr
  a_AGAINST_MEN : Addr
  a_NUMBERS : Addr
  a_WAY0 : Addr
  a_WAY1 : Addr
  a_WAY2 : Addr
  a_WAY3 : Addr
structure RdC (K : PySem.W.Frag) (A : Adr) (C : Addr) : Prop where
  cl : Cls K C
  n_text : NoAttr K C "text"
  n_at : NoAttr K C "at"
  m_next_byte : Meth K C "next_byte" A.f_Bytes_next_byte
  m_want : Meth K C "want" A.f_Bytes_want
  m_is_one_of : Meth K C "is_one_of" A.f_Bytes_is_one_of
  m_take : Meth K C "take" A.f_Bytes_take
  m_literal : Meth K C "literal" A.f_Bytes_literal
  m_line_end : Meth K C "line_end" A.f_Bytes_line_end
  m_choice : Meth K C "choice" A.f_Bytes_choice
  m_size : Meth K C "size" A.f_Bytes_size
  m_limit : Meth K C "limit" A.f_Bytes_limit
  m_name : Meth K C "name" A.f_Bytes_name
  m_finish : Meth K C "finish" A.f_Bytes_finish
/-- a tuple that the text has written -/
def TupK (K : PySem.W.Frag) (a : Addr) (xs : List V) : Prop := ∃ (o : Obj) (its : Array Value) (n : Nat), K.lookup a = some o ∧ o.cls = .type "tuple" ∧ o.dict = none ∧ o.data = .seq its n ∧ its.size ≤ sizeLine ∧ Vals xs its.toList
theorem TupK.sq {K : PySem.W.Frag} {a : Addr} {xs : List V} (h : TupK K a xs) (H : Hp) : SqT K H a xs := by
  obtain ⟨o, its, n, h1, h2, _, h3, h4, h5⟩ := h
  exact .inr ⟨o, its, n, h1, h2, h3, h4, h5⟩
theorem TupK.ty {K : PySem.W.Frag} {a : Addr} {xs : List V} (h : TupK K a xs) (H : Hp) : tyT K (.ref a) H := by
  obtain ⟨o, its, n, h1, h2, hd, _⟩ := h
  exact ⟨a, rfl, .inl ⟨o, h1, h2, hd⟩⟩
structure TxFun (K : PySem.W.Frag) (mg : Str → Option Value) (A : Adr) : Prop where
  F_Fault___init__ : Fun K "__init__" "Fault.__init__" s_Fault___init__ A.f_Fault___init__ A.d_Fault___init__
  b_Fault___init__ : Binds K A.d_Fault___init__ ["self", "kind", "place"] []
  F_Bytes___init__ : Fun K "__init__" "Bytes.__init__" s_Bytes___init__ A.f_Bytes___init__ A.d_Bytes___init__
  b_Bytes___init__ : Binds K A.d_Bytes___init__ ["self", "text"] []
  F_Bytes_next_byte : Fun K "next_byte" "Bytes.next_byte" s_Bytes_next_byte A.f_Bytes_next_byte A.d_Bytes_next_byte
  b_Bytes_next_byte : Binds K A.d_Bytes_next_byte ["self"] []
  F_Bytes_want : Fun K "want" "Bytes.want" s_Bytes_want A.f_Bytes_want A.d_Bytes_want
  b_Bytes_want : Binds K A.d_Bytes_want ["self", "truth"] []
  F_Bytes_is_one_of : Fun K "is_one_of" "Bytes.is_one_of" s_Bytes_is_one_of A.f_Bytes_is_one_of A.d_Bytes_is_one_of
  b_Bytes_is_one_of : Binds K A.d_Bytes_is_one_of ["self", "signs"] []
  F_Bytes_take : Fun K "take" "Bytes.take" s_Bytes_take A.f_Bytes_take A.d_Bytes_take
  b_Bytes_take : Binds K A.d_Bytes_take ["self", "signs"] []
  F_Bytes_literal : Fun K "literal" "Bytes.literal" s_Bytes_literal A.f_Bytes_literal A.d_Bytes_literal
  b_Bytes_literal : Binds K A.d_Bytes_literal ["self", "word"] []
  F_Bytes_line_end : Fun K "line_end" "Bytes.line_end" s_Bytes_line_end A.f_Bytes_line_end A.d_Bytes_line_end
  b_Bytes_line_end : Binds K A.d_Bytes_line_end ["self"] []
  F_Bytes_choice : Fun K "choice" "Bytes.choice" s_Bytes_choice A.f_Bytes_choice A.d_Bytes_choice
  b_Bytes_choice : Binds K A.d_Bytes_choice ["self", "words"] []
  F_Bytes_size : Fun K "size" "Bytes.size" s_Bytes_size A.f_Bytes_size A.d_Bytes_size
  b_Bytes_size : Binds K A.d_Bytes_size ["self"] []
  F_Bytes_limit : Fun K "limit" "Bytes.limit" s_Bytes_limit A.f_Bytes_limit A.d_Bytes_limit
  b_Bytes_limit : Binds K A.d_Bytes_limit ["self"] []
  F_Bytes_name : Fun K "name" "Bytes.name" s_Bytes_name A.f_Bytes_name A.d_Bytes_name
  b_Bytes_name : Binds K A.d_Bytes_name ["self"] []
  F_Bytes_finish : Fun K "finish" "Bytes.finish" s_Bytes_finish A.f_Bytes_finish A.d_Bytes_finish
  b_Bytes_finish : Binds K A.d_Bytes_finish ["self"] []
  F_is_letter : Fun K "is_letter" "is_letter" s_is_letter A.f_is_letter A.d_is_letter
  b_is_letter : Binds K A.d_is_letter ["byte"] []
  g_is_letter : mg "is_letter" = some (.ref A.f_is_letter)
  F_Rules___init__ : Fun K "__init__" "Rules.__init__" s_Rules___init__ A.f_Rules___init__ A.d_Rules___init__
  b_Rules___init__ : Binds K A.d_Rules___init__ ["self"] []
  F_Rules_is_edge : Fun K "is_edge" "Rules.is_edge" s_Rules_is_edge A.f_Rules_is_edge A.d_Rules_is_edge
  b_Rules_is_edge : Binds K A.d_Rules_is_edge ["self", "cell"] []
  F_Rules_is_goal : Fun K "is_goal" "Rules.is_goal" s_Rules_is_goal A.f_Rules_is_goal A.d_Rules_is_goal
  b_Rules_is_goal : Binds K A.d_Rules_is_goal ["self", "cell"] []
  F_Rules_has : Fun K "has" "Rules.has" s_Rules_has A.f_Rules_has A.d_Rules_has
  b_Rules_has : Binds K A.d_Rules_has ["self", "cell"] []
  F_Rules_may_stand : Fun K "may_stand" "Rules.may_stand" s_Rules_may_stand A.f_Rules_may_stand A.d_Rules_may_stand
  b_Rules_may_stand : Binds K A.d_Rules_may_stand ["self", "sign", "cell"] []
  F_Rules_settle : Fun K "settle" "Rules.settle" s_Rules_settle A.f_Rules_settle A.d_Rules_settle
  b_Rules_settle : Binds K A.d_Rules_settle ["self"] []
  F_rows_read : Fun K "rows_read" "rows_read" s_rows_read A.f_rows_read A.d_rows_read
  b_rows_read : Binds K A.d_rows_read ["reader", "rules", "signs"] []
  g_rows_read : mg "rows_read" = some (.ref A.f_rows_read)
  F_head_read : Fun K "head_read" "head_read" s_head_read A.f_head_read A.d_head_read
  b_head_read : Binds K A.d_head_read ["reader", "rules"] []
  g_head_read : mg "head_read" = some (.ref A.f_head_read)
  F_king_read : Fun K "king_read" "king_read" s_king_read A.f_king_read A.d_king_read
  b_king_read : Binds K A.d_king_read ["reader", "rules"] []
  g_king_read : mg "king_read" = some (.ref A.f_king_read)
  F_rest_read : Fun K "rest_read" "rest_read" s_rest_read A.f_rest_read A.d_rest_read
  b_rest_read : Binds K A.d_rest_read ["reader", "rules"] []
  g_rest_read : mg "rest_read" = some (.ref A.f_rest_read)
  F_second_of : Fun K "second_of" "second_of" s_second_of A.f_second_of A.d_second_of
  b_second_of : Binds K A.d_second_of ["signs", "sign"] []
  g_second_of : mg "second_of" = some (.ref A.f_second_of)
  F_wrong_pieces : Fun K "wrong_pieces" "wrong_pieces" s_wrong_pieces A.f_wrong_pieces A.d_wrong_pieces
  b_wrong_pieces : Binds K A.d_wrong_pieces ["rules"] []
  g_wrong_pieces : mg "wrong_pieces" = some (.ref A.f_wrong_pieces)
  F_is_goal_wrong : Fun K "is_goal_wrong" "is_goal_wrong" s_is_goal_wrong A.f_is_goal_wrong A.d_is_goal_wrong
  b_is_goal_wrong : Binds K A.d_is_goal_wrong ["rules"] []
  g_is_goal_wrong : mg "is_goal_wrong" = some (.ref A.f_is_goal_wrong)
  F_lacks : Fun K "lacks" "lacks" s_lacks A.f_lacks A.d_lacks
  b_lacks : Binds K A.d_lacks ["rules"] []
  g_lacks : mg "lacks" = some (.ref A.f_lacks)
  F_read_rules : Fun K "read_rules" "read_rules" s_read_rules A.f_read_rules A.d_read_rules
  b_read_rules : Binds K A.d_read_rules ["text"] []
  g_read_rules : mg "read_rules" = some (.ref A.f_read_rules)
  F_second_seats : Fun K "second_seats" "second_seats" s_second_seats A.f_second_seats A.d_second_seats
  b_second_seats : Binds K A.d_second_seats ["rules"] []
  g_second_seats : mg "second_seats" = some (.ref A.f_second_seats)
  F_Position___init__ : Fun K "__init__" "Position.__init__" s_Position___init__ A.f_Position___init__ A.d_Position___init__
  b_Position___init__ : Binds K A.d_Position___init__ ["self", "hunters", "men", "king", "turn"] []
  F_Position_has_piece : Fun K "has_piece" "Position.has_piece" s_Position_has_piece A.f_Position_has_piece A.d_Position_has_piece
  b_Position_has_piece : Binds K A.d_Position_has_piece ["self", "cell"] []
  F_LineReader___init__ : Fun K "__init__" "LineReader.__init__" s_LineReader___init__ A.f_LineReader___init__ A.d_LineReader___init__
  b_LineReader___init__ : Binds K A.d_LineReader___init__ ["self", "text"] []
  F_LineReader_gap : Fun K "gap" "LineReader.gap" s_LineReader_gap A.f_LineReader_gap A.d_LineReader_gap
  b_LineReader_gap : Binds K A.d_LineReader_gap ["self", "left"] []
  F_LineReader_piece : Fun K "piece" "LineReader.piece" s_LineReader_piece A.f_LineReader_piece A.d_LineReader_piece
  b_LineReader_piece : Binds K A.d_LineReader_piece ["self", "cell"] []
  F_LineReader_row : Fun K "row" "LineReader.row" s_LineReader_row A.f_LineReader_row A.d_LineReader_row
  b_LineReader_row : Binds K A.d_LineReader_row ["self", "y", "wide"] []
  F_LineReader_line : Fun K "line" "LineReader.line" s_LineReader_line A.f_LineReader_line A.d_LineReader_line
  b_LineReader_line : Binds K A.d_LineReader_line ["self", "rules"] []
  F_read_position : Fun K "read_position" "read_position" s_read_position A.f_read_position A.d_read_position
  b_read_position : Binds K A.d_read_position ["rules", "text"] []
  g_read_position : mg "read_position" = some (.ref A.f_read_position)
  F_beside : Fun K "beside" "beside" s_beside A.f_beside A.d_beside
  b_beside : Binds K A.d_beside ["rules", "cell", "way"] []
  g_beside : mg "beside" = some (.ref A.f_beside)
  F_is_free : Fun K "is_free" "is_free" s_is_free A.f_is_free A.d_is_free
  b_is_free : Binds K A.d_is_free ["rules", "position", "cell"] []
  g_is_free : mg "is_free" = some (.ref A.f_is_free)
  F_may_stop : Fun K "may_stop" "may_stop" s_may_stop A.f_may_stop A.d_may_stop
  b_may_stop : Binds K A.d_may_stop ["rules", "cell", "is_king"] []
  g_may_stop : mg "may_stop" = some (.ref A.f_may_stop)
  F_may_go_over : Fun K "may_go_over" "may_go_over" s_may_go_over A.f_may_go_over A.d_may_go_over
  b_may_go_over : Binds K A.d_may_go_over ["rules", "cell", "is_king"] []
  g_may_go_over : mg "may_go_over" = some (.ref A.f_may_go_over)
  F_goals_of : Fun K "goals_of" "goals_of" s_goals_of A.f_goals_of A.d_goals_of
  b_goals_of : Binds K A.d_goals_of ["rules", "position", "cell", "is_king"] []
  g_goals_of : mg "goals_of" = some (.ref A.f_goals_of)
  F_king_goals : Fun K "king_goals" "king_goals" s_king_goals A.f_king_goals A.d_king_goals
  b_king_goals : Binds K A.d_king_goals ["rules", "position"] []
  g_king_goals : mg "king_goals" = some (.ref A.f_king_goals)
  F_movers : Fun K "movers" "movers" s_movers A.f_movers A.d_movers
  b_movers : Binds K A.d_movers ["position"] []
  g_movers : mg "movers" = some (.ref A.f_movers)
  F_moves_of : Fun K "moves_of" "moves_of" s_moves_of A.f_moves_of A.d_moves_of
  b_moves_of : Binds K A.d_moves_of ["rules", "position"] []
  g_moves_of : mg "moves_of" = some (.ref A.f_moves_of)
  F_has_move : Fun K "has_move" "has_move" s_has_move A.f_has_move A.d_has_move
  b_has_move : Binds K A.d_has_move ["rules", "position"] []
  g_has_move : mg "has_move" = some (.ref A.f_has_move)
  F_is_against : Fun K "is_against" "is_against" s_is_against A.f_is_against A.d_is_against
  b_is_against : Binds K A.d_is_against ["rules", "position", "cell", "enmities"] []
  g_is_against : mg "is_against" = some (.ref A.f_is_against)
  F_has_hunter_or_against : Fun K "has_hunter_or_against" "has_hunter_or_against" s_has_hunter_or_against A.f_has_hunter_or_against A.d_has_hunter_or_against
  b_has_hunter_or_against : Binds K A.d_has_hunter_or_against ["rules", "position", "cell"] []
  g_has_hunter_or_against : mg "has_hunter_or_against" = some (.ref A.f_has_hunter_or_against)
  F_is_helper : Fun K "is_helper" "is_helper" s_is_helper A.f_is_helper A.d_is_helper
  b_is_helper : Binds K A.d_is_helper ["rules", "position", "cell"] []
  g_is_helper : mg "is_helper" = some (.ref A.f_is_helper)
  F_taken_hunters : Fun K "taken_hunters" "taken_hunters" s_taken_hunters A.f_taken_hunters A.d_taken_hunters
  b_taken_hunters : Binds K A.d_taken_hunters ["rules", "position", "cell"] []
  g_taken_hunters : mg "taken_hunters" = some (.ref A.f_taken_hunters)
  F_is_king_shut : Fun K "is_king_shut" "is_king_shut" s_is_king_shut A.f_is_king_shut A.d_is_king_shut
  b_is_king_shut : Binds K A.d_is_king_shut ["rules", "position", "way"] []
  g_is_king_shut : mg "is_king_shut" = some (.ref A.f_is_king_shut)
  F_taken_men : Fun K "taken_men" "taken_men" s_taken_men A.f_taken_men A.d_taken_men
  b_taken_men : Binds K A.d_taken_men ["rules", "position", "cell"] []
  g_taken_men : mg "taken_men" = some (.ref A.f_taken_men)
  F_gone_to : Fun K "gone_to" "gone_to" s_gone_to A.f_gone_to A.d_gone_to
  b_gone_to : Binds K A.d_gone_to ["cells", "begin", "to"] []
  g_gone_to : mg "gone_to" = some (.ref A.f_gone_to)
  F_made : Fun K "made" "made" s_made A.f_made A.d_made
  b_made : Binds K A.d_made ["rules", "position", "begin", "to"] []
  g_made : mg "made" = some (.ref A.f_made)
  F_over_by : Fun K "over_by" "over_by" s_over_by A.f_over_by A.d_over_by
  b_over_by : Binds K A.d_over_by ["rules", "position"] []
  g_over_by : mg "over_by" = some (.ref A.f_over_by)
  F_have_hunters_won : Fun K "have_hunters_won" "have_hunters_won" s_have_hunters_won A.f_have_hunters_won A.d_have_hunters_won
  b_have_hunters_won : Binds K A.d_have_hunters_won ["position", "over"] []
  g_have_hunters_won : mg "have_hunters_won" = some (.ref A.f_have_hunters_won)
  F_weighed : Fun K "weighed" "weighed" s_weighed A.f_weighed A.d_weighed
  b_weighed : Binds K A.d_weighed ["rules", "position", "weights"] []
  g_weighed : mg "weighed" = some (.ref A.f_weighed)
  F_Node___init__ : Fun K "__init__" "Node.__init__" s_Node___init__ A.f_Node___init__ A.d_Node___init__
  b_Node___init__ : Binds K A.d_Node___init__ ["self", "position", "over"] []
  F_Looking___init__ : Fun K "__init__" "Looking.__init__" s_Looking___init__ A.f_Looking___init__ A.d_Looking___init__
  b_Looking___init__ : Binds K A.d_Looking___init__ ["self", "rules", "most"] []
  F_Looking_node : Fun K "node" "Looking.node" s_Looking_node A.f_Looking_node A.d_Looking_node
  b_Looking_node : Binds K A.d_Looking_node ["self", "position", "n"] []
  F_worth : Fun K "worth" "worth" s_worth A.f_worth A.d_worth
  b_worth : Binds K A.d_worth ["rules", "weights", "node", "d"] []
  g_worth : mg "worth" = some (.ref A.f_worth)
  F_branch_worths : Fun K "branch_worths" "branch_worths" s_branch_worths A.f_branch_worths A.d_branch_worths
  b_branch_worths : Binds K A.d_branch_worths ["rules", "weights", "node", "d"] []
  g_branch_worths : mg "branch_worths" = some (.ref A.f_branch_worths)
  F_row_of : Fun K "row_of" "row_of" s_row_of A.f_row_of A.d_row_of
  b_row_of : Binds K A.d_row_of ["rules", "weights", "node"] []
  g_row_of : mg "row_of" = some (.ref A.f_row_of)
  F_Refused___init__ : Fun K "__init__" "Refused.__init__" s_Refused___init__ A.f_Refused___init__ A.d_Refused___init__
  b_Refused___init__ : Binds K A.d_Refused___init__ ["self", "told"] []
  F_want : Fun K "want" "want" s_want A.f_want A.d_want
  b_want : Binds K A.d_want ["truth", "number"] []
  g_want : mg "want" = some (.ref A.f_want)
  F_Desk___init__ : Fun K "__init__" "Desk.__init__" s_Desk___init__ A.f_Desk___init__ A.d_Desk___init__
  b_Desk___init__ : Binds K A.d_Desk___init__ ["self"] []
  F_Desk_set_rules : Fun K "set_rules" "Desk.set_rules" s_Desk_set_rules A.f_Desk_set_rules A.d_Desk_set_rules
  b_Desk_set_rules : Binds K A.d_Desk_set_rules ["self", "text"] []
  F_Desk_position_in : Fun K "position_in" "Desk.position_in" s_Desk_position_in A.f_Desk_position_in A.d_Desk_position_in
  b_Desk_position_in : Binds K A.d_Desk_position_in ["self", "line", "weights"] []
  F_Desk_weigh : Fun K "weigh" "Desk.weigh" s_Desk_weigh A.f_Desk_weigh A.d_Desk_weigh
  b_Desk_weigh : Binds K A.d_Desk_weigh ["self", "weights", "line"] []
  F_Desk_looked : Fun K "looked" "Desk.looked" s_Desk_looked A.f_Desk_looked A.d_Desk_looked
  b_Desk_looked : Binds K A.d_Desk_looked ["self", "position", "n", "most"] []
  F_Desk_ahead : Fun K "ahead" "Desk.ahead" s_Desk_ahead A.f_Desk_ahead A.d_Desk_ahead
  b_Desk_ahead : Binds K A.d_Desk_ahead ["self", "weights", "n", "most", "line"] []
  F_Desk_each : Fun K "each" "Desk.each" s_Desk_each A.f_Desk_each A.d_Desk_each
  b_Desk_each : Binds K A.d_Desk_each ["self", "weights", "n", "most", "line"] []
  F_Desk_done : Fun K "done" "Desk.done" s_Desk_done A.f_Desk_done A.d_Desk_done
  b_Desk_done : Binds K A.d_Desk_done ["self", "call", "n", "text"] []
  F_Desk_answer : Fun K "answer" "Desk.answer" s_Desk_answer A.f_Desk_answer A.d_Desk_answer
  b_Desk_answer : Binds K A.d_Desk_answer ["self", "call", "n", "text"] []
  F_answers : Fun K "answers" "answers" s_answers A.f_answers A.d_answers
  b_answers : Binds K A.d_answers ["calls"] []
  g_answers : mg "answers" = some (.ref A.f_answers)
structure TxCls (K : PySem.W.Frag) (mg : Str → Option Value) (A : Adr) : Prop where
  g_Bytes : mg "Bytes" = some (.ref A.c_Bytes)
  mk_Bytes : Mk K A.c_Bytes A.f_Bytes___init__
  rd_Bytes : RdC K A A.c_Bytes
  g_Rules : mg "Rules" = some (.ref A.c_Rules)
  mk_Rules : Mk K A.c_Rules A.f_Rules___init__
  cl_Rules : Cls K A.c_Rules
  m_Rules_is_edge : Meth K A.c_Rules "is_edge" A.f_Rules_is_edge
  m_Rules_is_goal : Meth K A.c_Rules "is_goal" A.f_Rules_is_goal
  m_Rules_has : Meth K A.c_Rules "has" A.f_Rules_has
  m_Rules_may_stand : Meth K A.c_Rules "may_stand" A.f_Rules_may_stand
  m_Rules_settle : Meth K A.c_Rules "settle" A.f_Rules_settle
  n_Rules_wide : NoAttr K A.c_Rules "wide"
  n_Rules_high : NoAttr K A.c_Rules "high"
  n_Rules_is_king_first : NoAttr K A.c_Rules "is_king_first"
  n_Rules_slides : NoAttr K A.c_Rules "slides"
  n_Rules_armed : NoAttr K A.c_Rules "armed"
  n_Rules_four : NoAttr K A.c_Rules "four"
  n_Rules_passed : NoAttr K A.c_Rules "passed"
  n_Rules_seat_enmity : NoAttr K A.c_Rules "seat_enmity"
  n_Rules_exit_enmity : NoAttr K A.c_Rules "exit_enmity"
  n_Rules_is_goal_exits : NoAttr K A.c_Rules "is_goal_exits"
  n_Rules_goal_place : NoAttr K A.c_Rules "goal_place"
  n_Rules_seat : NoAttr K A.c_Rules "seat"
  n_Rules_exits : NoAttr K A.c_Rules "exits"
  n_Rules_walls : NoAttr K A.c_Rules "walls"
  n_Rules_ground : NoAttr K A.c_Rules "ground"
  n_Rules_start : NoAttr K A.c_Rules "start"
  g_Position : mg "Position" = some (.ref A.c_Position)
  mk_Position : Mk K A.c_Position A.f_Position___init__
  cl_Position : Cls K A.c_Position
  m_Position_has_piece : Meth K A.c_Position "has_piece" A.f_Position_has_piece
  n_Position_hunters : NoAttr K A.c_Position "hunters"
  n_Position_men : NoAttr K A.c_Position "men"
  n_Position_king : NoAttr K A.c_Position "king"
  n_Position_turn : NoAttr K A.c_Position "turn"
  n_Position_pieces : NoAttr K A.c_Position "pieces"
  g_LineReader : mg "LineReader" = some (.ref A.c_LineReader)
  mk_LineReader : Mk K A.c_LineReader A.f_LineReader___init__
  rd_LineReader : RdC K A A.c_LineReader
  cl_LineReader : Cls K A.c_LineReader
  m_LineReader_gap : Meth K A.c_LineReader "gap" A.f_LineReader_gap
  m_LineReader_piece : Meth K A.c_LineReader "piece" A.f_LineReader_piece
  m_LineReader_row : Meth K A.c_LineReader "row" A.f_LineReader_row
  m_LineReader_line : Meth K A.c_LineReader "line" A.f_LineReader_line
  n_LineReader_stood : NoAttr K A.c_LineReader "stood"
  g_Node : mg "Node" = some (.ref A.c_Node)
  mk_Node : Mk K A.c_Node A.f_Node___init__
  cl_Node : Cls K A.c_Node
  n_Node_position : NoAttr K A.c_Node "position"
  n_Node_over : NoAttr K A.c_Node "over"
  n_Node_branches : NoAttr K A.c_Node "branches"
  g_Looking : mg "Looking" = some (.ref A.c_Looking)
  mk_Looking : Mk K A.c_Looking A.f_Looking___init__
  cl_Looking : Cls K A.c_Looking
  m_Looking_node : Meth K A.c_Looking "node" A.f_Looking_node
  n_Looking_rules : NoAttr K A.c_Looking "rules"
  n_Looking_left : NoAttr K A.c_Looking "left"
  g_Desk : mg "Desk" = some (.ref A.c_Desk)
  mk_Desk : Mk K A.c_Desk A.f_Desk___init__
  cl_Desk : Cls K A.c_Desk
  m_Desk_set_rules : Meth K A.c_Desk "set_rules" A.f_Desk_set_rules
  m_Desk_position_in : Meth K A.c_Desk "position_in" A.f_Desk_position_in
  m_Desk_weigh : Meth K A.c_Desk "weigh" A.f_Desk_weigh
  m_Desk_looked : Meth K A.c_Desk "looked" A.f_Desk_looked
  m_Desk_ahead : Meth K A.c_Desk "ahead" A.f_Desk_ahead
  m_Desk_each : Meth K A.c_Desk "each" A.f_Desk_each
  m_Desk_done : Meth K A.c_Desk "done" A.f_Desk_done
  m_Desk_answer : Meth K A.c_Desk "answer" A.f_Desk_answer
  n_Desk_rules : NoAttr K A.c_Desk "rules"
  cr_Bytes : ClX.CRead K A.c_Bytes (.type "type")
  cv_Bytes___init__ : ClX.CVal K A.c_Bytes (.type "type") "__init__" (.ref A.f_Bytes___init__) (.ref A.f_Bytes___init__)
structure TxExc (K : PySem.W.Frag) (mg : Str → Option Value) (A : Adr) : Prop where
  g_Fault : mg "Fault" = some (.ref A.c_Fault)
  ox_Fault : OexC K A.c_Fault
  i_Fault : PySem.W.findIn K (.ref A.c_Fault) "__init__" = some (some (.ref A.f_Fault___init__))
  ti_Fault : PySem.W.typeIn K (.ref A.f_Fault___init__) = some (.type "function")
  nf_kind : PySem.W.findIn K (.ref A.c_Fault) "kind" = some none
  nf_place : PySem.W.findIn K (.ref A.c_Fault) "place" = some none
  xf_Fault : XfC K A.c_Fault
  ex_Fault : PySem.W.exmOne K (.ref A.c_Fault) (.ref A.c_Fault) = some true
  g_Refused : mg "Refused" = some (.ref A.c_Refused)
  ox_Refused : OexC K A.c_Refused
  i_Refused : PySem.W.findIn K (.ref A.c_Refused) "__init__" = some (some (.ref A.f_Refused___init__))
  ti_Refused : PySem.W.typeIn K (.ref A.f_Refused___init__) = some (.type "function")
  nf_told : PySem.W.findIn K (.ref A.c_Refused) "told" = some none
  xf_Refused : XfC K A.c_Refused
  ex_Refused : PySem.W.exmOne K (.ref A.c_Refused) (.ref A.c_Refused) = some true
  g_TooMany : mg "TooMany" = some (.ref A.c_TooMany)
  xTM : PySem.W.excIn K A.c_TooMany [.type "ValueError", .type "Exception", .type "BaseException", .type "object"] "ValueError.__new__" = true
  kTM : PySem.W.keepIn K (.ref A.c_TooMany) = true
  bTM : PySem.W.subIn K (.ref A.c_TooMany) (.type "BaseException") = some true
  tTM : PySem.W.typeIn K (.ref A.c_TooMany) = some (.type "type")
  ex_TooMany : PySem.W.exmOne K (.ref A.c_TooMany) (.ref A.c_TooMany) = some true
  ve : PySem.W.findCls K (.type "ValueError") (.type "type") "__init__" = some (.val (.builtin "ValueError.__init__"))
structure TxNam (K : PySem.W.Frag) (mg : Str → Option Value) (A : Adr) : Prop where
  n_len : mg "len" = none
  n_int : mg "int" = none
  n_ord : mg "ord" = none
  n_max : mg "max" = none
  n_min : mg "min" = none
  n_sorted : mg "sorted" = none
  n_all : mg "all" = none
  n_list : mg "list" = none
  n_dict : mg "dict" = none
  n_range : mg "range" = none
  n_ValueError : mg "ValueError" = none
  g_LINE_END : ∃ t, mg "LINE_END" = some (.int 10 t)
  g_FARTHEST : ∃ t, mg "FARTHEST" = some (.int 13 t)
  g_MOST_LIMIT : ∃ t, mg "MOST_LIMIT" = some (.int 60000 t)
  g_MOST_NAME : ∃ t, mg "MOST_NAME" = some (.int 16 t)
  g_GROUND : ∃ t, mg "GROUND" = some (.str ".SX#" t)
  g_START : ∃ t, mg "START" = some (.str ".hmK" t)
  g_SIDES : mg "SIDES" = some (.ref A.a_SIDES)
  t_SIDES : TupK K A.a_SIDES [.str "hunters", .str "king"]
  g_ENMITIES : mg "ENMITIES" = some (.ref A.a_ENMITIES)
  t_ENMITIES : TupK K A.a_ENMITIES [.str "quiet", .str "hunters", .str "men", .str "all"]
  g_NO_TEXT : ∃ t, mg "NO_TEXT" = some (.int 1 t)
  g_SECOND_SEAT : ∃ t, mg "SECOND_SEAT" = some (.int 2 t)
  g_WRONG_PIECE_rules : ∃ t, mg "WRONG_PIECE_rules" = some (.int 3 t)
  g_SECOND_KING : ∃ t, mg "SECOND_KING" = some (.int 4 t)
  g_NO_GOAL : ∃ t, mg "NO_GOAL" = some (.int 5 t)
  g_NOT_THERE : ∃ t, mg "NOT_THERE" = some (.int 6 t)
  g_HUNTERS : ∃ t, mg "HUNTERS" = some (.int 0 t)
  g_KING : ∃ t, mg "KING" = some (.int 1 t)
  g_WRONG_PIECE_positions : ∃ t, mg "WRONG_PIECE_positions" = some (.int 2 t)
  g_NO_KING : ∃ t, mg "NO_KING" = some (.int (-1) t)
  g_WAYS : mg "WAYS" = some (.ref A.a_WAYS)
  t_WAY0 : TupK K A.a_WAY0 [.int 0, .int 1]
  t_WAY1 : TupK K A.a_WAY1 [.int 1, .int 0]
  t_WAY2 : TupK K A.a_WAY2 [.int 0, .int (-1)]
  t_WAY3 : TupK K A.a_WAY3 [.int (-1), .int 0]
  t_WAYS : TupK K A.a_WAYS [.ref A.a_WAY0, .ref A.a_WAY1, .ref A.a_WAY2, .ref A.a_WAY3]
  g_NOT_OVER : ∃ t, mg "NOT_OVER" = some (.int 0 t)
  g_KING_TAKEN : ∃ t, mg "KING_TAKEN" = some (.int 1 t)
  g_AT_GOAL : ∃ t, mg "AT_GOAL" = some (.int 2 t)
  g_NO_MOVE : ∃ t, mg "NO_MOVE" = some (.int 3 t)
  g_AGAINST_HUNTERS : mg "AGAINST_HUNTERS" = some (.ref A.a_AGAINST_HUNTERS)
  t_AGAINST_HUNTERS : TupK K A.a_AGAINST_HUNTERS [.int 1, .int 3]
  g_AGAINST_MEN : mg "AGAINST_MEN" = some (.ref A.a_AGAINST_MEN)
  t_AGAINST_MEN : TupK K A.a_AGAINST_MEN [.int 2, .int 3]
  g_END : ∃ t, mg "END" = some (.int 1000000 t)
  g_BAD : ∃ t, mg "BAD" = some (.int (-1) t)
  g_NO_RULES : ∃ t, mg "NO_RULES" = some (.int (-3) t)
  g_BAD_LINE : ∃ t, mg "BAD_LINE" = some (.int (-5) t)
  g_BAD_RULES : ∃ t, mg "BAD_RULES" = some (.int (-6) t)
  g_BAD_WEIGHT : ∃ t, mg "BAD_WEIGHT" = some (.int (-8) t)
  g_TOO_MANY : ∃ t, mg "TOO_MANY" = some (.int (-9) t)
  g_MOST_WEIGHT : ∃ t, mg "MOST_WEIGHT" = some (.int 1000 t)
  g_MOST_AHEAD : ∃ t, mg "MOST_AHEAD" = some (.int 4 t)
  g_MOST_MOVES : ∃ t, mg "MOST_MOVES" = some (.int 600 t)
  g_NUMBERS : mg "NUMBERS" = some (.ref A.a_NUMBERS)
  t_NUMBERS : TupK K A.a_NUMBERS [.int 0, .int 3, .int 5, .int 5]
  g_EACH : ∃ t, mg "EACH" = some (.int 3 t)
structure Txt (K : PySem.W.Frag) (mg : Str → Option Value) (A : Adr) : Prop extends TxFun K mg A, TxCls K mg A, TxExc K mg A, TxNam K mg A
/-! ### what a body hands on of exceptions -/
theorem pxN {X : Cx} {E : XK} (tk : L2N.Takes X (fun cls d _ H => E cls d H)) : Passes (L2N.CX X.prog X.w) X E := L2N.passes_call tk fun _ _ _ _ z => z
theorem pxL {X : Cx} {E : XK} (tk : L2.Takes X (fun cls d _ H => E cls d H)) : Passes (L2.CX X.prog X.w) X E := L2.passes_call tk fun _ _ _ _ z => z
theorem passF {X : Cx} : Passes CX0 X (fun _ _ _ => False) := fun _ _ _ _ _ _ _ h => h.elim
/-- o.m(e, ..) within a try -/
def tMethT (C : Addr) (m : Str) (sp : Sp) (E : L2.St → XK) (ta : TE) (t : TA) : TE := fun σ H Q => ta σ H fun x H1 => ∃ a dx fs, x = .ref a ∧ H1 a = some (.ins C dx fs) ∧ fs.lookup m = none ∧ t σ H1 fun vs H2 => sp (x :: vs) H2 Q (E σ)
theorem pe_methT {X : Cx} {CX : CXT} {k : Nat} {f C : Addr} {fd : FuncData} {ps : List Str} {sp : Sp} {E : L2.St → XK} {m : Str} {pos apos : Pos} {e o : Expr} {es : List Expr} {ta : TE} {t : TA} {pl : Sem Bool} (he : PE X o ta) (c : Cls X.K C) (hm : Meth X.K C m f)
    (F : FnOk X.prog X.w X.K X.mg X.base CX k f fd ps sp) (hr : Room k X.A) (hb : Binds X.K fd ps []) (hx : ∀ σ, PassesAt CX X σ (E σ)) (ha : PA X (e :: es) t)
    (hst : starEach (e :: es) X.env = (false, eval e X.env) :: starEach es X.env := by rfl) (hpl : (backTo pos (starEach es X.env)).any (·.1) = false := by rfl)
    (ht : eval (.Call (.Attribute o m apos) (e :: es) [] pos) X.env = (do
      let ov ← eval o X.env
      standAt apos.atName
      let (f, first) ← holding [ov] (getMethod ov m pl)
      callWith pos f first (backTo pos (starEach (e :: es) X.env)) (backToKw pos (keywordEach [] X.env))) := by rfl) :
    PE X (.Call (.Attribute o m apos) (e :: es) [] pos) (tMethT C m sp E ta t) := by
  refine ⟨fun pins s σ H Q I h => ?_⟩
  refine PySem.W.methodCall_KW (pl := pl) (thn (he.run pins s σ H _ I h) fun u s1 hh => ?_) ht
  obtain ⟨x, H1, I1, rx, a, dx, fs, rfl, ea, l, q⟩ := hh
  obtain rfl : u = Value.ref a := rx
  refine getmeth_ok I1 ea c hm l ?_
  refine PySem.W.callWith_K (first := [.ref a]) (h₀ := X.base) I1.ok.mod.kin hm.kp (thn (ha.run pos pins s1 σ H1 _ I1 q) fun us s2 hh => ?_) hst hpl
  obtain ⟨vs, H2, I2, r, q2⟩ := hh
  exact ⟨I2.kIn, run_fnS (us := .ref a :: us) (vs := .ref a :: vs) F hr hb (hx σ) I2 (.cons rfl r) q2⟩
/-! ### heaps: kept but at p -/
structure Kp (p : Addr → Prop) (H H' : Hp) : Prop where
  keep : ∀ b o, H b = some o → ¬ p b → H' b = some o
  dom : ∀ b, H' b = none → H b = none
theorem Kp.refl {p : Addr → Prop} {H : Hp} : Kp p H H := ⟨fun _ _ h _ => h, fun _ h => h⟩
theorem Kp.trans {p : Addr → Prop} {H H1 H2 : Hp} (a : Kp p H H1) (b : Kp p H1 H2) : Kp p H H2 := ⟨fun x o h n => b.keep x o (a.keep x o h n) n, fun x h => a.dom x (b.dom x h)⟩
theorem Kp.mono {p q : Addr → Prop} {H H' : Hp} (a : Kp p H H') (h : ∀ b, p b → q b) : Kp q H H' := ⟨fun x o e n => a.keep x o e fun z => n (h x z), a.dom⟩
theorem Kp.of {p : Addr → Prop} {H H' : Hp} (a : Same H H') : Kp p H H' := ⟨fun x o e _ => a x o e, fun x e => a.free e⟩
theorem Kp.same {H H' : Hp} (a : Kp (fun _ => False) H H') : Same H H' := fun x o e => a.keep x o e id
theorem Kp.upd {p : Addr → Prop} {H : Hp} {a : Addr} {o : HO} (h : p a) : Kp p H (upd H a o) := ⟨fun x u e n => by
  rw [upd_ne (fun z => n (by rw [z]; exact h))]; exact e, fun x e => by
  by_cases z : x = a
  · rw [z, upd_same] at e; cases e
  · rwa [upd_ne z] at e⟩
theorem Kp.new {p : Addr → Prop} {H : Hp} {a : Addr} {o : HO} (h : H a = none) : Kp p H (L2.upd H a o) := ⟨fun x u e _ => by
  rw [upd_ne (ne_of_none e h)]; exact e, fun x e => by
  by_cases z : x = a
  · rw [z]; exact h
  · rwa [upd_ne z] at e⟩
theorem same_new {H : Hp} {a : Addr} {o : HO} (h : H a = none) : Same H (L2.upd H a o) := (Kp.new (p := fun _ => False) h).same
/-- what was new stays apart: what is kept at p, where p is new, is kept -/
theorem Kp.fresh {p q : Addr → Prop} {H H1 H2 : Hp} (a : Kp q H H1) (b : Kp (fun x => p x ∨ q x) H1 H2) (n : ∀ x, p x → H x = none) : Kp q H H2 := ⟨fun x o e nq => b.keep x o (a.keep x o e nq) fun z => z.elim (fun z => by rw [n x z] at e; cases e) nq, fun x e => a.dom x (b.dom x e)⟩
theorem Kp.sqL {p : Addr → Prop} {K : PySem.W.Frag} {H H' : Hp} {a : Addr} {xs : List V} (k : Kp p H H') (n : ¬ p a) (h : SqL K H a xs) : SqL K H' a xs := by
  rcases h with (h | ⟨o, h⟩) | h
  · exact .inl (.inl (k.keep _ _ h n))
  · exact .inl (.inr ⟨o, k.keep _ _ h n⟩)
  · exact .inr h
theorem Kp.sqT {p : Addr → Prop} {K : PySem.W.Frag} {H H' : Hp} {a : Addr} {xs : List V} (k : Kp p H H') (n : ¬ p a) (h : SqT K H a xs) : SqT K H' a xs := by
  rcases h with (h | ⟨o, h⟩) | h
  · exact .inl (.inl (k.keep _ _ h n))
  · exact .inl (.inr ⟨o, k.keep _ _ h n⟩)
  · exact .inr h
theorem Same.sqT {K : PySem.W.Frag} {H H' : Hp} {a : Addr} {xs : List V} (k : Same H H') (h : SqT K H a xs) : SqT K H' a xs := (Kp.of (p := fun _ => False) k).sqT id h
/-! ### attributes -/
theorem lk_here {k : Str} {v : V} {r : List (Str × V)} : List.lookup k ((k, v) :: r) = some v := by
  have e : (k == k) = true := beq_self_eq_true k
  simp only [List.lookup, e]
theorem lk_past {k g : Str} {v : V} {r : List (Str × V)} (h : (k == g) = false) : List.lookup k ((g, v) :: r) = List.lookup k r := by
  simp only [List.lookup, h]
theorem put_here {f : Str} {v x : V} {r : List (Str × V)} : putF f v ((f, x) :: r) = (f, v) :: r := if_pos rfl
theorem put_past {f g : Str} {v x : V} {r : List (Str × V)} (h : ¬ g = f) : putF f v ((g, x) :: r) = (g, x) :: putF f v r := if_neg h
/-- a test whose truth is known -/
theorem if_t {c : Bool} {A B : Prop} (hc : c = true) (h : A) : if c = true then A else B := by
  rw [if_pos hc]
  exact h
theorem if_f {c : Bool} {A B : Prop} (hc : c = false) (h : B) : if c = true then A else B := by
  rw [hc, if_neg Bool.false_ne_true]
  exact h
theorem small {n : Nat} (h : n ≤ 1000000) : n < sizeLine := by rw [sizeLine_eq]; omega
theorem smallE {n : Nat} (h : n ≤ 1000000) : n ≤ sizeLine := Nat.le_of_lt (small h)
end Tf

set_option maxRecDepth 100000
set_option maxHeartbeats 4000000
/-! # Comprehensions and loops over what stands still -/
namespace Tf
open PySem PySem.Spec PyProof.Rows L2
theorem same_put {H1 H : Hp} {D : Addr} {o : HO} (s : Same H1 H) (n : H1 D = none) : Same H1 (upd H D o) := fun b u e => by
  rw [upd_ne (ne_of_none e n)]
  exact s _ _ e
theorem take_more {α : Type} {l : List α} {i : Nat} {x : α} (h : l[i]? = some x) : l.take (i + 1) = l.take i ++ [x] := by
  rw [List.take_add_one, h]
  rfl
/-! ### rules with the written part named: for the blocks of comprehensions -/
section
variable {X : Cx} (K : PySem.W.Frag)
theorem pe_fldK {o : Expr} {f : Str} {pos : Pos} {ta : TE} (he : PE X o ta) (hb : attributeBase o f X.env (eval o X.env) = eval o X.env) (hK : X.K = K := by rfl) : PE X (.Attribute o f pos) (tFld K ta f) := by
  subst hK
  exact pe_fld he hb
theorem ix_listK (hK : X.K = K := by rfl) : IxR X (rIxL K) := by
  subst hK
  exact ix_list
theorem ix_tupK (hK : X.K = K := by rfl) : IxR X (rIxT K) := by
  subst hK
  exact ix_tup
theorem op_in_seqK (hK : X.K = K := by rfl) : OpR X (compareOp .In) (rIn K false) := by
  subst hK
  exact op_in_seq
theorem op_notIn_seqK (hK : X.K = K := by rfl) : OpR X (compareOp .NotIn) (rIn K true) := by
  subst hK
  exact op_notIn_seq
theorem call_lenK (hK : X.K = K := by rfl) : CallR X (.builtin "len") (fun xs H Q => ∃ x n, xs = [x] ∧ LenV K x H n ∧ Q (.int n) H) := by
  subst hK
  exact call_len
theorem pi_listK {tg l : Expr} {tl : TE} (hl : PE X l tl) (hK : X.K = K := by rfl) : PI X tg l (iList K tl) := by
  subst hK
  exact pi_list hl
theorem pi_tupK {tg l : Expr} {tl : TE} (hl : PE X l tl) (hK : X.K = K := by rfl) : PI X tg l (iTup K tl) := by
  subst hK
  exact pi_tup hl
theorem pg_tupK {es : List Expr} {k : Nat} {t : TGs} {n : Nat} {pos : Pos} (hc : X.calm = true) (h : PGs X es t) (hn : (assignEach es X.env).length = n := by rfl) (hst : (assignEach es X.env).findIdx? (·.1) = none := by rfl) (hK : X.K = K := by rfl) : PG X (.Tuple es k pos) (gTup K n t) := by
  subst hK
  exact pg_tup hc h hn hst
end
/-- what is walked yields the i-th of xs, the heap as it was, while G holds -/
structure WalkV (J : It) (xs : List V) (G : Hp → Prop) : Prop where
  goes : ∀ i H, i < xs.length → G H → J.go i H
  stops : ∀ H, G H → J.stop xs.length H
  yields : ∀ i H x H', i < xs.length → G H → J.yld i H x H' → H' = H ∧ xs[i]? = some x
theorem wv_list {K : PySem.W.Frag} {a : Addr} {xs : List V} : WalkV (Itl K a) xs (fun H => SqL K H a xs) := ⟨walk_list.goes, walk_list.stops, fun i H x H' hi g y => walk_list.yields i H x H' hi g y⟩
theorem wv_tup {K : PySem.W.Frag} {a : Addr} {xs : List V} : WalkV (Itt K a) xs (fun H => SqT K H a xs) := ⟨walk_tup.goes, walk_tup.stops, fun i H x H' hi g y => walk_tup.yields i H x H' hi g y⟩
theorem wv_str {cs : List Nat} : WalkV (Its ⟨cs.toArray⟩) (cs.map fun c => V.str ⟨#[c]⟩) (fun _ => True) := by
  have w := walk_str (z := ⟨cs.toArray⟩)
  have sz : (⟨cs.toArray⟩ : Str).cps.size = (cs.map fun c => V.str ⟨#[c]⟩).length := by rw [List.length_map]; rfl
  refine ⟨fun i H hi g => w.goes i H (by rw [sz]; exact hi) g, fun H g => by have := w.stops H g; rw [sz] at this; exact this, fun i H x H' hi g y => ?_⟩
  obtain ⟨e, c, hc, rfl⟩ := w.yields i H x H' (by rw [sz]; exact hi) g y
  refine ⟨e, ?_⟩
  have hc' : cs[i]? = some c := by simpa using hc
  rw [List.getElem?_map, hc']
  rfl
theorem wv_range {lo : Int} {n : Nat} : WalkV (Itr lo n) ((List.range n).map fun (i : Nat) => V.int (lo + i)) (fun _ => True) := by
  have sz : ((List.range n).map fun (i : Nat) => V.int (lo + i)).length = n := by rw [List.length_map, List.length_range]
  refine ⟨fun i H hi g => walk_range.goes i H (by rw [← sz]; exact hi) g, fun H g => by rw [sz]; exact walk_range.stops H g, fun i H x H' hi g y => ?_⟩
  obtain ⟨e, hx⟩ := walk_range.yields i H x H' (by rw [← sz]; exact hi) g y
  refine ⟨e, ?_⟩
  rw [sz] at hi
  rw [List.getElem?_map, List.getElem?_range hi, hx]
  rfl
/-- a list comprehension: of each item f tells what is appended (nothing, or one) -/
theorem lcS {J : It} {xs : List V} {G : Hp → Prop} {g : TG} {tt : TT} {te : TE} {vs : List Nat} {σ : L2.St} {H1 : Hp} {D : Addr} {Qd : Hp → Prop} (w : WalkV J xs G) (nD : H1 D = none) (hG : ∀ H, Same H1 H → G H) (f : V → List V)
    (hs : ∀ i x ys H (Nx : Hp → Prop), xs[i]? = some x → Same H1 H → H D = some (.lst ys) → ys = (xs.take i).flatMap f → ys.length < sizeLine → (∀ y H', f x = [y] → Same H1 H' → H' D = some (.lst (ys ++ [y])) → Nx H') → (∀ H', f x = [] → Same H1 H' → H' D = some (.lst ys) → Nx H') →
      g x (wipe σ vs) H fun σ2 H2 => wipe σ2 vs = wipe σ vs ∧ tt σ2 H2 fun b H3 => if b = true then te σ2 H3 fun y H4 => ∃ acc, H4 D = some (.lst acc) ∧ acc.length < sizeLine ∧ Nx (upd H4 D (.lst (acc ++ [y]))) else Nx H3)
    (len : (xs.flatMap f).length < sizeLine) (hd : ∀ H, Same H1 H → H D = some (.lst (xs.flatMap f)) → Qd H) :
    ∃ W : Nat → Nat → Hp → Prop, (∃ m, W 0 m (upd H1 D (.lst []))) ∧ ∀ i m H, W i m H →
      (J.stop i H ∧ Qd H) ∨ (J.go i H ∧ ∃ Nx : Hp → Prop, (∀ H', Nx H' → ∃ m', m' < m ∧ W (i + 1) m' H') ∧ ∀ x H', J.yld i H x H' → g x (wipe σ vs) H' fun σ2 H2 => wipe σ2 vs = wipe σ vs ∧ tt σ2 H2 fun b H3 =>
        if b = true then te σ2 H3 fun y H4 => ∃ acc, H4 D = some (.lst acc) ∧ acc.length < sizeLine ∧ Nx (upd H4 D (.lst (acc ++ [y]))) else Nx H3) := by
  refine ⟨fun i m H => i + m = xs.length ∧ Same H1 H ∧ H D = some (.lst ((xs.take i).flatMap f)), ⟨xs.length, by omega, same_new nD, upd_same⟩, fun i m H ⟨hm, hS, hD⟩ => ?_⟩
  by_cases hi : i < xs.length
  · refine .inr ⟨w.goes i H hi (hG H hS), fun H' => Same H1 H' ∧ H' D = some (.lst ((xs.take (i + 1)).flatMap f)), fun H' ⟨h1, h2⟩ => ⟨m - 1, by omega, by omega, h1, h2⟩, fun x H' hy => ?_⟩
    obtain ⟨rfl, hx⟩ := w.yields i H x H' hi (hG H hS) hy
    have tk : (xs.take (i + 1)).flatMap f = (xs.take i).flatMap f ++ f x := by rw [take_more hx, List.flatMap_append]; simp
    have le : ((xs.take i).flatMap f).length ≤ (xs.flatMap f).length := by
      have e : xs.flatMap f = (xs.take i).flatMap f ++ (xs.drop i).flatMap f := by rw [← List.flatMap_append, List.take_append_drop]
      rw [e, List.length_append]
      omega
    refine hs i x _ H' _ hx hS hD rfl (Nat.lt_of_le_of_lt le len) (fun y H2 hf s2 d2 => ⟨s2, ?_⟩) (fun H2 hf s2 d2 => ⟨s2, ?_⟩)
    · rw [tk, hf]; exact d2
    · rw [tk, hf, List.append_nil]; exact d2
  · have e : i = xs.length := by omega
    subst e
    rw [List.take_length] at hD
    exact .inl ⟨w.stops H (hG H hS), hd H hS hD⟩
/-- a for over what stands still -/
theorem forS {J : It} {xs : List V} {G : Hp → Prop} {g : TG} {tb : TS} {D : Ends} {σ : L2.St} {H : Hp} (w : WalkV J xs G) (Pv : Nat → L2.St → Hp → Prop) (h0 : Pv 0 σ H) (hG : ∀ i σ H, Pv i σ H → G H)
    (hs : ∀ i x σ H, xs[i]? = some x → Pv i σ H → g x σ H fun σ2 H2 => tb { D with nx := Pv (i + 1), ct := Pv (i + 1), bk := D.nx } σ2 H2) (hd : ∀ σ H, Pv xs.length σ H → D.nx σ H) :
    ∃ W : Nat → Nat → L2.St → Hp → Prop, (∃ m, W 0 m σ H) ∧ ∀ i m σ H, W i m σ H →
      (J.stop i H ∧ D.nx σ H) ∨ (J.go i H ∧ ∃ N : L2.St → Hp → Prop, (∀ σ' H', N σ' H' → ∃ m', m' < m ∧ W (i + 1) m' σ' H') ∧ ∀ x H', J.yld i H x H' → g x σ H' fun σ2 H2 => tb { D with nx := N, ct := N, bk := D.nx } σ2 H2) := by
  refine ⟨fun i m σ H => i + m = xs.length ∧ Pv i σ H, ⟨xs.length, by omega, h0⟩, fun i m σ H ⟨hm, hP⟩ => ?_⟩
  by_cases hi : i < xs.length
  · refine .inr ⟨w.goes i H hi (hG i σ H hP), Pv (i + 1), fun σ' H' p => ⟨m - 1, by omega, by omega, p⟩, fun x H' hy => ?_⟩
    obtain ⟨rfl, hx⟩ := w.yields i H x H' hi (hG i σ H hP) hy
    exact hs i x σ _ hx hP
  · have e : i = xs.length := by omega
    subst e
    exact .inl ⟨w.stops H (hG _ σ H hP), hd σ H hP⟩
theorem flat_map {α β : Type} (l : List α) (f : α → β) : (l.flatMap fun x => [f x]) = l.map f := by
  induction l with
  | nil => rfl
  | cons a r ih => rw [List.flatMap_cons, ih]; rfl
theorem flat_filter {α : Type} (l : List α) (p : α → Bool) : (l.flatMap fun x => if p x = true then [x] else []) = l.filter p := by
  induction l with
  | nil => rfl
  | cons a r ih =>
    rw [List.flatMap_cons, ih, List.filter_cons]
    by_cases h : p a = true
    · rw [if_pos h, if_pos h]; rfl
    · rw [if_neg h, if_neg h]; rfl
end Tf

set_option maxRecDepth 100000
set_option maxHeartbeats 4000000
/-! # The reader of a text -/
namespace Tf
open PySem PySem.Spec PyProof.Rows L2
/-! ### the spec's cursor by its place -/
def cur (bs : Tafl.Bytes) (n : Nat) : Tafl.Cur := ⟨bs.drop n, n⟩
theorem cur_next (bs : Tafl.Bytes) (n : Nat) : (cur bs n).next = bs[n]? := by
  show (bs.drop n).head? = _
  rw [List.head?_drop]
theorem cur_on (bs : Tafl.Bytes) (n : Nat) : (cur bs n).on = cur bs (n + 1) := by
  show (⟨(bs.drop n).drop 1, n + 1⟩ : Tafl.Cur) = ⟨bs.drop (n + 1), n + 1⟩
  rw [List.drop_drop]
theorem cur_at (bs : Tafl.Bytes) (n : Nat) : (cur bs n).at_ = n := rfl
/-! ### the reader's object -/
def bV (bs : Tafl.Bytes) : List V := bs.map fun b => V.int (b.toNat : Int)
structure RS where
  C : Addr
  t : Addr
  bs : Tafl.Bytes
  ex : List (Str × V)
def rdF (t : Addr) (n : Nat) (ex : List (Str × V)) : List (Str × V) := ("text", .ref t) :: ("at", .int (n : Int)) :: ex
def ExOk (ex : List (Str × V)) : Prop := ex = [] ∨ ∃ l : Addr, ex = [(("stood" : Str), V.ref l)]
theorem rdF_text (t n ex) : (rdF t n ex).lookup ("text" : Str) = some (.ref t) := lk_here
theorem rdF_at (t n ex) : (rdF t n ex).lookup ("at" : Str) = some (.int (n : Int)) := (lk_past (by decide +kernel)).trans lk_here
theorem rdF_none {t n ex} (h : ExOk ex) {m : Str} (h1 : (m == ("text" : Str)) = false := by decide +kernel) (h2 : (m == ("at" : Str)) = false := by decide +kernel) (h3 : (m == ("stood" : Str)) = false := by decide +kernel) : (rdF t n ex).lookup m = none := by
  refine (lk_past h1).trans ((lk_past h2).trans ?_)
  rcases h with rfl | ⟨l, rfl⟩
  · rfl
  · exact (lk_past h3).trans rfl
theorem rdF_put (t n ex) (k : Nat) : putF "at" (.int (k : Int)) (rdF t n ex) = rdF t k ex := (put_past (by decide +kernel)).trans (congrArg _ put_here)
theorem rdF_few {t n ex} (h : ExOk ex) : (rdF t n ex).length < 1000 := by
  rcases h with rfl | ⟨l, rfl⟩
  · show 2 < 1000; decide
  · show 3 < 1000; decide
section
variable (K : PySem.W.Frag) (A : Adr)
structure RdAt (H : Hp) (a : Addr) (S : RS) (n : Nat) : Prop where
  obj : ∃ dx, H a = some (.ins S.C dx (rdF S.t n S.ex))
  rd : RdC K A S.C
  txt : SqL K H S.t (bV S.bs)
  ex : ExOk S.ex
  len : S.bs.length ≤ 30000
  le : n ≤ S.bs.length
end
section
variable {K : PySem.W.Frag} {A : Adr} {H H' : Hp} {a : Addr} {S : RS} {n : Nat}
theorem SqL.ne_ins {C dx b : Addr} {fs : List (Str × V)} {xs : List V} (h : SqL K H b xs) (e : H a = some (.ins C dx fs)) : (∃ o, K.lookup b = some o) ∨ b ≠ a := by
  rcases h with (h | ⟨o, h⟩) | ⟨o, _, _, h, _⟩
  · exact .inr (ne_of h e (by intro z; cases z))
  · exact .inr (ne_of h e (by intro z; cases z))
  · exact .inl ⟨o, h⟩
/-- a list stands when an instance changes -/
theorem Kp.sqI {p : Addr → Prop} {C dx b : Addr} {fs : List (Str × V)} {xs : List V} (k : Kp p H H') (e : H a = some (.ins C dx fs)) (hp : ∀ x, p x → x = a) (h : SqL K H b xs) : SqL K H' b xs := by
  rcases h with (h | ⟨o, h⟩) | h
  · exact .inl (.inl (k.keep _ _ h fun z => ne_of h e (by intro z; cases z) (hp _ z)))
  · exact .inl (.inr ⟨o, k.keep _ _ h fun z => ne_of h e (by intro z; cases z) (hp _ z)⟩)
  · exact .inr h
theorem RdAt.same (R : RdAt K A H a S n) (k : Same H H') : RdAt K A H' a S n := by
  obtain ⟨⟨dx, h1⟩, h2, h3, h4, h5, h6⟩ := R
  exact ⟨⟨dx, k _ _ h1⟩, h2, k.seq h3, h4, h5, h6⟩
/-- the reader moved on -/
theorem RdAt.put (R : RdAt K A H a S n) {k : Nat} (hk : k ≤ S.bs.length) {dx : Addr} {H1 : Hp} (e : H1 a = some (.ins S.C dx (rdF S.t n S.ex))) (kp : Same H H1) : RdAt K A (upd H1 a (.ins S.C dx (putF "at" (.int (k : Int)) (rdF S.t n S.ex)))) a S k := by
  obtain ⟨⟨dx', h1⟩, h2, h3, h4, h5, h6⟩ := R
  rw [rdF_put]
  exact ⟨⟨dx, upd_same⟩, h2, (Kp.upd (p := (· = a)) rfl).sqI e (fun _ z => z) (kp.seq h3), h4, h5, hk⟩
end
theorem bV_get {bs : Tafl.Bytes} {n : Nat} {x : UInt8} (h : bs[n]? = some x) : (bV bs)[n]? = some (.int (x.toNat : Int)) := by
  unfold bV
  rw [List.getElem?_map, h]
  rfl
theorem bV_len (bs : Tafl.Bytes) : (bV bs).length = bs.length := List.length_map ..
def nb (bs : Tafl.Bytes) (n : Nat) : Int := match bs[n]? with
  | some x => x.toNat
  | none => -1
/-- what an error of the text's grammar (or of its cells) asks of the caller: a Fault with kind and place, what is kept being kept but at p -/
def fF (kind place : Nat) : List (Str × V) := [("place", .int (place : Int)), ("kind", .int (kind : Int))]
def EF (A : Adr) (p : Addr → Prop) (H : Hp) (E : XK) (kind place : Nat) : Prop := ∀ (d : Addr) (H' : Hp), Kp p H H' → H d = none → H' d = some (.xd (fF kind place)) → E (.ref A.c_Fault) (some d) H'
section
variable {P : Program} {w : World} {K : PySem.W.Frag} {mg : Str → Option Value} {base : Heap} {A : Adr}
def sp_next_byte (K : PySem.W.Frag) (A : Adr) : Sp := fun vs H Q _ => ∃ a S n, vs = [.ref a] ∧ RdAt K A H a S n ∧ Q (.int (nb S.bs n)) H
theorem ok_Bytes_next_byte (T : Txt K mg A) : FnOk P w K mg base CX0 1 A.f_Bytes_next_byte A.d_Bytes_next_byte ["self"] (sp_next_byte K A) := by
  refine T.F_Bytes_next_byte.ok sc_Bytes_next_byte (fun vs H Q E h => ?_) (fun cdv B outer s H vs Q E hr h => ?_)
  · obtain ⟨a, S, n, rfl, _⟩ := h
    rfl
  · obtain ⟨a, S, n, rfl, Z, q⟩ := h
    have R := Z.rd
    refine ⟨_, (pss_cons (ps_if (pt_cmpR op_lt (pe_fld (pv 0) rfl) (pe_callB call_len (by rfl) T.n_len PySem.boot_len (pa_cons (pe_fld (pv 0) rfl) pa_nil)) (nomark _)) (pss_one (ps_ret (pe_ix ix_list (pe_fld (pv 0) rfl) (pe_fld (pv 0) rfl) (fun _ _ => rfl)))) pss_nil)
  (pss_one (ps_ret (pe_un un_neg pe_int)))), ?_⟩
    obtain ⟨dx, ho⟩ := Z.obj
    refine ⟨_, rfl, a, S.C, dx, _, _, rfl, ho, R.cl, R.n_at, rdF_at _ _ _, _, rfl, a, S.C, dx, _, _, rfl, ho, R.cl, R.n_text, rdF_text _ _ _, .ref S.t, _, rfl, .inl ⟨_, Z.txt, rfl⟩, _, _, rfl, rfl, _, rfl, ?_⟩
    rw [bV_len]
    unfold nb at q
    cases e : S.bs[n]? with
    | some x =>
      have lt : n < S.bs.length := (List.getElem?_eq_some_iff.mp e).1
      rw [e] at q
      refine if_t (decide_eq_true (by omega)) ?_
      exact ⟨_, rfl, a, S.C, dx, _, _, rfl, ho, R.cl, R.n_text, rdF_text _ _ _, _, rfl, a, S.C, dx, _, _, rfl, ho, R.cl, R.n_at, rdF_at _ _ _, _, _, _, _, rfl, rfl, Z.txt, atI_nat (bV_get e), q⟩
    | none =>
      have lt : ¬ n < S.bs.length := fun z => by rw [List.getElem?_eq_getElem z] at e; cases e
      rw [e] at q
      refine if_f (decide_eq_false (by omega)) ?_
      exact ⟨_, rfl, q⟩
/-! ### the fault -/
def sp_Fault (A : Adr) : Sp := fun vs H Q _ => ∃ (p : Addr) (x y : V), vs = [.ref p, x, y] ∧ H p = some (exo p A.c_Fault none) ∧
  ∀ (dx : Addr) (H' : Hp), dx ≠ p → H dx = none → H' p = some (exo p A.c_Fault (some dx)) → H' dx = some (exd dx [("place", y), ("kind", x)]) → (∀ b, b ≠ p → b ≠ dx → H' b = H b) → Q .non H'
theorem ok_Fault___init__ (T : Txt K mg A) : FnOk P w K mg base CX0 1 A.f_Fault___init__ A.d_Fault___init__ ["self", "kind", "place"] (sp_Fault A) := by
  refine T.F_Fault___init__.ok sc_Fault___init__ (fun vs H Q E h => ?_) (fun cdv B outer s H vs Q E hr h => ?_)
  · obtain ⟨p, x, y, rfl, _⟩ := h
    rfl
  · obtain ⟨p, x, y, rfl, hp, q⟩ := h
    refine ⟨_, (pss_cons (ps_expr (pe_veinit (by rfl) T.n_ValueError T.ve (pa_cons (pv 0) (pa_cons pe_str pa_nil))))
  (pss_cons (ps_ost (pv 0) (pv 1))
  (pss_one (ps_ost (pv 0) (pv 2))))), ?_⟩
    refine ⟨_, rfl, p, A.c_Fault, _, rfl, (by decide), T.ox_Fault, hp, ?_⟩
    refine ⟨_, rfl, _, rfl, p, A.c_Fault, rfl, T.ox_Fault, T.nf_kind, .inl ⟨hp, fun dx nd ne => ?_⟩⟩
    refine ⟨_, rfl, _, rfl, p, A.c_Fault, rfl, T.ox_Fault, T.nf_place, .inr ⟨dx, _, upd_same, (upd_ne ne).trans upd_same, (by show 1 ≤ 900; decide), ?_⟩⟩
    refine q dx _ ne nd ((upd_ne (Ne.symm ne)).trans upd_same) upd_same fun b h1 h2 => ?_
    rw [upd_ne h2, upd_ne h1, upd_ne h2]
/-- what raise Fault(x, y) asks of the wish -/
theorem fault_up {H1 : Hp} {Q : XK} {x y : V} (q : ∀ (d : Addr) (H' : Hp), Same H1 H' → H1 d = none → H' d = some (.xd [("place", y), ("kind", x)]) → Q (.ref A.c_Fault) (some d) H') :
    [x, y].length ≤ 1000 ∧ ∀ a, H1 a = none → sp_Fault A (.ref a :: ([x, y] ++ [])) (upd H1 a (exo a A.c_Fault none))
      (fun v H2 => v = .non ∧ ∃ (d : Addr) (fs : List (Str × V)), H2 a = some (exo a A.c_Fault (some d)) ∧ H2 d = some (exd d fs) ∧ H1 d = none ∧ Q (.ref A.c_Fault) (some d) (upd (del H2 a) d (.xd fs))) (fun _ _ _ => False) := by
  refine ⟨by show 2 ≤ 1000; decide, fun a na => ⟨a, x, y, rfl, upd_same, fun dx H' ne nd e1 e2 kp => ⟨rfl, dx, _, e1, e2, ?_, ?_⟩⟩⟩
  · rwa [upd_ne ne] at nd
  · have nd' : H1 dx = none := by rwa [upd_ne ne] at nd
    refine q dx _ (fun b o e => ?_) nd' upd_same
    have ba : b ≠ a := ne_of_none e na
    have bd : b ≠ dx := ne_of_none e nd'
    rw [upd_ne bd, del_ne ba, kp b ba bd, upd_ne ba]
    exact e
theorem EF.up {p q : Addr → Prop} {H0 H : Hp} {E : XK} {k n : Nat} (h : EF A p H0 E k n) (kp : Kp p H0 H) (hq : ∀ b, q b → p b) : EF A q H E k n := fun d H' k2 n2 e => h d H' (kp.trans (k2.mono hq)) (kp.dom d n2) e
theorem EF.fault {p : Addr → Prop} {H : Hp} {E : XK} {k n : Nat} (h : EF A p H E k n) : ∀ (d : Addr) (H' : Hp), Same H H' → H d = none → H' d = some (.xd [("place", .int (n : Int)), ("kind", .int (k : Int))]) → E (.ref A.c_Fault) (some d) H' := fun d H' s n e => h d H' (Kp.of s) n e
/-! ### __init__, want, is_one_of -/
/-- a Bytes that is made of a text -/
def sp_Bytes_init (K : PySem.W.Frag) (A : Adr) : Sp := fun vs H Q _ => ∃ (p C dx t : Addr), vs = [.ref p, .ref t] ∧ H p = some (.ins C dx []) ∧ RdC K A C ∧ Q .non (upd H p (.ins C dx (rdF t 0 [])))
theorem ok_Bytes___init__ (T : Txt K mg A) : FnOk P w K mg base CX0 1 A.f_Bytes___init__ A.d_Bytes___init__ ["self", "text"] (sp_Bytes_init K A) := by
  refine T.F_Bytes___init__.ok sc_Bytes___init__ (fun vs H Q E h => ?_) (fun cdv B outer s H vs Q E hr h => ?_)
  · obtain ⟨p, C, dx, t, rfl, _⟩ := h
    rfl
  · obtain ⟨p, C, dx, t, rfl, hp, R, q⟩ := h
    refine ⟨_, (pss_cons (ps_fld (pv 0) (pv 1) rfl)
  (pss_one (ps_fld (pv 0) pe_int rfl))), ?_⟩
    refine ⟨_, rfl, _, rfl, p, C, dx, _, rfl, hp, R.cl, R.n_text, (by show 0 < 1000; decide), ?_⟩
    refine ⟨_, rfl, p, C, dx, _, rfl, upd_same, R.cl, R.n_at, (by show 1 < 1000; decide), ?_⟩
    rw [upd_upd]
    exact q
def sp_want (K : PySem.W.Frag) (A : Adr) : Sp := fun vs H Q E => ∃ a S n b, vs = [.ref a, .bl b] ∧ RdAt K A H a S n ∧ (b = true → Q .non H) ∧ (b = false → EF A (fun _ => False) H E 1 n)
theorem ok_Bytes_want (T : Txt K mg A) : FnOk P w K mg base (L2N.CX P w) 3 A.f_Bytes_want A.d_Bytes_want ["self", "truth"] (sp_want K A) := by
  refine okG T.F_Bytes_want sc_Bytes_want (fun vs H Q E h => ?_) (fun cdv B outer s H vs Q E hr h => ?_)
  · obtain ⟨a, S, n, b, rfl, _⟩ := h
    rfl
  · obtain ⟨a, S, n, b, rfl, Z, qT, qF⟩ := h
    have R := Z.rd
    obtain ⟨dx, ho⟩ := Z.obj
    refine ⟨_, (pss_one (ps_if (pt_not (pt_val (pv 1))) (pss_one (L2N.ps_raise rfl (L2N.takes_of rfl rfl rfl rfl) (pmkN T.ox_Fault T.i_Fault T.ti_Fault (ok_Fault___init__ T) (hr.mono (by decide)) T.b_Fault___init__ passF (by rfl) T.g_Fault (pa_cons (pe_gi T.g_NO_TEXT) (pa_cons (pe_fld (pv 0) rfl) pa_nil))))) pss_nil)), ?_⟩
    refine ⟨_, rfl, _, rfl, ?_⟩
    cases b with
    | true => exact iteF (qT rfl)
    | false =>
      refine iteT ?_
      refine ⟨_, rfl, a, S.C, dx, _, _, rfl, ho, R.cl, R.n_at, rdF_at _ _ _, ?_⟩
      exact fault_up (qF rfl).fault
def oneIn (bs : Tafl.Bytes) (n : Nat) (cs : List Nat) : Bool := match bs[n]? with
  | some x => cs.contains x.toNat
  | none => false
def sgV (cs : List Nat) : List V := cs.map fun c => V.str ⟨#[c]⟩
def SignsAt (K : PySem.W.Frag) (H : Hp) (v : V) (cs : List Nat) : Prop := v = .str ⟨cs.toArray⟩ ∨ ∃ l, v = .ref l ∧ SqL K H l (sgV cs)
theorem SignsAt.same {H H' : Hp} {v : V} {cs : List Nat} (h : SignsAt K H v cs) (s : Same H H') : SignsAt K H' v cs := by
  rcases h with h | ⟨l, h1, h2⟩
  · exact .inl h
  · exact .inr ⟨l, h1, s.seq h2⟩
def ordF : V → List V
  | .str z => [V.int (z.cps.getD 0 0 : Nat)]
  | _ => []
theorem sg_at {cs : List Nat} {i : Nat} {x : V} (h : (cs.map fun (c : Nat) => V.str ⟨#[c]⟩)[i]? = some x) : ∃ c, x = V.str ⟨#[c]⟩ := by
  rw [List.getElem?_map] at h
  cases e : cs[i]? with
  | none => rw [e] at h; cases h
  | some c => rw [e] at h; exact ⟨c, (Option.some.inj h).symm⟩
theorem inV_ints (i : Int) (ns : List Int) : inV (.int i) (ns.map V.int) = ns.contains i := by
  unfold inV
  rw [List.any_map, Bool.eq_iff_iff, List.any_eq_true, List.contains_iff_mem]
  constructor
  · rintro ⟨x, hx, e⟩
    have e' : (x == i) = true := e
    rw [beq_iff_eq] at e'
    exact e' ▸ hx
  · exact fun h => ⟨i, h, beq_self_eq_true i⟩
theorem flat_ints (ns : List Int) : (ns.map V.int).all flatV = true := by
  rw [List.all_map]
  exact List.all_eq_true.mpr fun _ _ => rfl
theorem oneIn_eq (bs : Tafl.Bytes) (n : Nat) (cs : List Nat) : inV (.int (nb bs n)) (cs.map fun (c : Nat) => V.int (c : Int)) = oneIn bs n cs := by
  have e : (cs.map fun (c : Nat) => V.int (c : Int)) = (cs.map fun (c : Nat) => (c : Int)).map V.int := by rw [List.map_map]; rfl
  rw [e, inV_ints]
  unfold nb oneIn
  cases bs[n]? with
  | none =>
    rw [Bool.eq_false_iff]
    intro h
    obtain ⟨c, _, hc⟩ := List.mem_map.mp (List.contains_iff_mem.mp h)
    have hc' : (c : Int) = -1 := hc
    omega
  | some x =>
    rw [Bool.eq_iff_iff, List.contains_iff_mem, List.contains_iff_mem, List.mem_map]
    constructor
    · rintro ⟨c, hc, e⟩
      have e' : (c : Int) = (x.toNat : Int) := e
      have : c = x.toNat := by omega
      exact this ▸ hc
    · exact fun h => ⟨_, h, rfl⟩
def sp_is_one_of (K : PySem.W.Frag) (A : Adr) : Sp := fun vs H Q _ => ∃ a S n v cs, vs = [.ref a, v] ∧ RdAt K A H a S n ∧ SignsAt K H v cs ∧ cs.length ≤ 1000 ∧ ∀ H', Same H H' → Q (.bl (oneIn S.bs n cs)) H'
theorem ok_Bytes_is_one_of (T : Txt K mg A) : FnOk P w K mg base CX0 2 A.f_Bytes_is_one_of A.d_Bytes_is_one_of ["self", "signs"] (sp_is_one_of K A) := by
  refine T.F_Bytes_is_one_of.ok sc_Bytes_is_one_of (fun vs H Q E h => ?_) (fun cdv B outer s H vs Q E hr h => ?_)
  · obtain ⟨a, S, n, v, cs, rfl, _⟩ := h
    rfl
  · obtain ⟨a, S, n, v, cs, rfl, Z, hv, few, q⟩ := h
    have R := Z.rd
    obtain ⟨dx, ho⟩ := Z.obj
    have fin : ∀ H' D, Same H H' → H' D = some (.lst (cs.map fun (c : Nat) => V.int (c : Int))) → ∃ p xs, V.ref D = .ref p ∧ (SqL K H' p xs ∨ SqT K H' p xs) ∧ flatV (V.int (nb S.bs n)) = true ∧ xs.all flatV = true ∧ Q (.bl (if false then !inV (V.int (nb S.bs n)) xs else inV (V.int (nb S.bs n)) xs)) H' := fun H' D s e => by
      refine ⟨D, _, rfl, .inl (SqL.of e), rfl, ?_, ?_⟩
      · have := flat_ints (cs.map fun (c : Nat) => (c : Int))
        rw [List.map_map] at this
        exact this
      · have e2 : (if false = true then !inV (V.int (nb S.bs n)) (cs.map fun (c : Nat) => V.int (c : Int)) else inV (V.int (nb S.bs n)) (cs.map fun (c : Nat) => V.int (c : Int))) = oneIn S.bs n cs := by
          rw [if_neg Bool.false_ne_true, oneIn_eq]
        rw [e2]
        exact q H' s
    have fm : (sgV cs).flatMap ordF = cs.map fun (c : Nat) => V.int (c : Int) := by
      unfold sgV
      rw [List.flatMap_map]
      exact flat_map cs _
    have fl : ((sgV cs).flatMap ordF).length < sizeLine := by
      rw [fm, List.length_map]
      exact small (by omega)
    rcases hv with rfl | ⟨l, rfl, hl⟩
    · refine ⟨_, (pss_one (ps_ret (pe_cmpR op_in_seq (pe_meth0 (pv 0) R.cl R.m_next_byte (ok_Bytes_next_byte T) (hr.mono (by decide)) T.b_Bytes_next_byte .nil pass0) (pe_lc (own := [("sign", 2)]) rfl sc_Bytes_is_one_of.nd (pi_str (pv 1)) (blkOk_by (N := ["self", "signs", "sign"]) (sc := defScope s_Bytes_is_one_of) (own := [("sign", 2)]) (by decide +kernel)) (fun _ _ _ _ _ => (pg_name (i := 2) sc_Bytes_is_one_of.nd rfl (by first | exact .inl rfl | exact .inr rfl))) (fun _ _ _ _ _ => pts_nil) (fun _ _ _ _ _ => (pe_callB call_ord (by rfl) T.n_ord (by decide +kernel) (pa_cons (pv 2) pa_nil)))) (by rfl)))), ?_⟩
      refine ⟨_, rfl, a, dx, _, rfl, ho, rdF_none Z.ex, ?_⟩
      refine ⟨a, S, n, rfl, Z, ?_⟩
      refine ⟨_, rfl, _, rfl, fun D nD => lcS wv_str nD (fun _ _ => trivial) ordF (fun i x ys H2 Nx hx s2 d2 _ lt hN _ => ?_) fl fun H2 s2 d2 => ?_⟩
      · obtain ⟨c, rfl⟩ := sg_at hx
        refine ⟨rfl, ?_⟩
        exact ⟨_, rfl, _, rfl, rfl, ys, d2, lt, hN _ _ rfl (same_put s2 nD) upd_same⟩
      · have d3 : H2 D = some (.lst ((sgV cs).flatMap ordF)) := d2
        rw [fm] at d3
        exact fin H2 D s2 d3
    · refine ⟨_, (pss_one (ps_ret (pe_cmpR op_in_seq (pe_meth0 (pv 0) R.cl R.m_next_byte (ok_Bytes_next_byte T) (hr.mono (by decide)) T.b_Bytes_next_byte .nil pass0) (pe_lc (own := [("sign", 2)]) rfl sc_Bytes_is_one_of.nd (pi_list (pv 1)) (blkOk_by (N := ["self", "signs", "sign"]) (sc := defScope s_Bytes_is_one_of) (own := [("sign", 2)]) (by decide +kernel)) (fun _ _ _ _ _ => (pg_name (i := 2) sc_Bytes_is_one_of.nd rfl (by first | exact .inl rfl | exact .inr rfl))) (fun _ _ _ _ _ => pts_nil) (fun _ _ _ _ _ => (pe_callB call_ord (by rfl) T.n_ord (by decide +kernel) (pa_cons (pv 2) pa_nil)))) (by rfl)))), ?_⟩
      refine ⟨_, rfl, a, dx, _, rfl, ho, rdF_none Z.ex, ?_⟩
      refine ⟨a, S, n, rfl, Z, ?_⟩
      refine ⟨_, rfl, l, rfl, ⟨_, hl⟩, fun D nD => lcS wv_list nD (fun H2 s2 => s2.seq hl) ordF (fun i x ys H2 Nx hx s2 d2 _ lt hN _ => ?_) fl fun H2 s2 d2 => ?_⟩
      · obtain ⟨c, rfl⟩ := sg_at hx
        refine ⟨rfl, ?_⟩
        exact ⟨_, rfl, _, rfl, rfl, ys, d2, lt, hN _ _ rfl (same_put s2 nD) upd_same⟩
      · rw [fm] at d2
        exact fin H2 D s2 d2
/-! ### take -/
def takeF (x : UInt8) : V → List V
  | .str z => if decide (V.int (z.cps.getD 0 0 : Nat) = V.int (x.toNat : Int)) = true then [.str z] else []
  | _ => []
theorem takeF_list (x : UInt8) (cs : List Nat) : (sgV cs).flatMap (takeF x) = sgV (cs.filter (· == x.toNat)) := by
  unfold sgV
  induction cs with
  | nil => rfl
  | cons c r ih =>
    rw [List.map_cons, List.flatMap_cons, ih, List.filter_cons]
    by_cases h : c = x.toNat
    · have e1 : takeF x (.str ⟨#[c]⟩) = [.str ⟨#[c]⟩] := by
        show (if decide (V.int ((c : Nat) : Int) = V.int (x.toNat : Int)) = true then _ else _) = _
        rw [if_pos (by rw [h]; simp)]
      rw [e1, if_pos (by simp [h])]
      rfl
    · have e1 : takeF x (.str ⟨#[c]⟩) = [] := by
        show (if decide (V.int ((c : Nat) : Int) = V.int (x.toNat : Int)) = true then _ else _) = _
        rw [if_neg (by intro z; have z2 := of_decide_eq_true z; injection z2 with z3; omega)]
      rw [e1, if_neg (by simp [h])]
      rfl
def sp_take (K : PySem.W.Frag) (A : Adr) : Sp := fun vs H Q E => ∃ a S n v cs, vs = [.ref a, v] ∧ RdAt K A H a S n ∧ SignsAt K H v cs ∧ cs.length ≤ 1000 ∧
  (∀ x H', S.bs[n]? = some x → cs.contains x.toNat = true → Kp (· = a) H H' → RdAt K A H' a S (n + 1) → Q (.str ⟨#[x.toNat]⟩) H') ∧ (oneIn S.bs n cs = false → EF A (· = a) H E 1 n)
theorem ok_Bytes_take (T : Txt K mg A) : FnOk P w K mg base (L2N.CX P w) 4 A.f_Bytes_take A.d_Bytes_take ["self", "signs"] (sp_take K A) := by
  refine okG T.F_Bytes_take sc_Bytes_take (fun vs H Q E h => ?_) (fun cdv B outer s H vs Q E hr h => ?_)
  · obtain ⟨a, S, n, v, cs, rfl, _⟩ := h
    rfl
  · obtain ⟨a, S, n, v, cs, rfl, Z, hv, few, qT, qF⟩ := h
    have R := Z.rd
    obtain ⟨dx, ho⟩ := Z.obj
    -- behind the move
    have fin : ∀ (x : UInt8) (H1 : Hp), Same H H1 → S.bs[n]? = some x → cs.contains x.toNat = true → ∃ H2, Kp (· = a) H H2 ∧ RdAt K A H2 a S (n + 1) ∧ SignsAt K H2 v cs ∧
        H2 = upd H1 a (.ins S.C dx (putF "at" (.int ((n : Int) + 1)) (rdF S.t n S.ex))) := fun x H1 s1 hx hc => by
      have lt : n < S.bs.length := (List.getElem?_eq_some_iff.mp hx).1
      have e : ((n : Int) + 1) = ((n + 1 : Nat) : Int) := by omega
      rw [e]
      have k2 : Kp (· = a) H (upd H1 a (.ins S.C dx (putF "at" (.int ((n + 1 : Nat) : Int)) (rdF S.t n S.ex)))) := (Kp.of s1).trans (Kp.upd rfl)
      refine ⟨_, k2, Z.put (by omega) (s1 _ _ ho) s1, ?_, rfl⟩
      rcases hv with hv | ⟨l, h1, h2⟩
      · exact .inl hv
      · exact .inr ⟨l, h1, k2.sqI ho (fun _ z => z) h2⟩
    have out : ∀ (x : UInt8) (H2 H3 : Hp) (D : Addr), S.bs[n]? = some x → cs.contains x.toNat = true → Kp (· = a) H H2 → RdAt K A H2 a S (n + 1) → Same H2 H3 → H3 D = some (.lst ((sgV cs).flatMap (takeF x))) →
        ∃ p xs i v, V.ref D = V.ref p ∧ V.int 0 = V.int i ∧ SqL K H3 p xs ∧ atI xs i = some v ∧ Q v H3 := fun x H2 H3 D hx hc k2 Z2 s3 d3 => by
      rw [takeF_list] at d3
      refine ⟨D, _, 0, .str ⟨#[x.toNat]⟩, rfl, rfl, SqL.of d3, at_of (j := 0) rfl ?_, qT x H3 hx hc (k2.trans (Kp.of s3)) (Z2.same s3)⟩
      have hm : x.toNat ∈ cs.filter (· == x.toNat) := List.mem_filter.mpr ⟨List.contains_iff_mem.mp hc, beq_self_eq_true _⟩
      cases hf : cs.filter (· == x.toNat) with
      | nil => rw [hf] at hm; cases hm
      | cons c r =>
        have hc2 : c ∈ cs.filter (· == x.toNat) := by rw [hf]; exact List.mem_cons_self
        have : c = x.toNat := by have := (List.mem_filter.mp hc2).2; rwa [beq_iff_eq] at this
        rw [this]
        rfl
    have fl : ∀ x : UInt8, ((sgV cs).flatMap (takeF x)).length < sizeLine := fun x => by
      rw [takeF_list]
      unfold sgV
      rw [List.length_map]
      exact small (Nat.le_trans (List.length_filter_le _ _) (by omega))
    -- the two ways of is_one_of's answer
    have way : ∀ H1, Same H H1 → (oneIn S.bs n cs = false → EF A (fun _ => False) H1 E 1 n) := fun H1 s1 hF => (qF hF).up (Kp.of s1) (fun _ z => z.elim)
    have yes : oneIn S.bs n cs = true → ∃ x, S.bs[n]? = some x ∧ cs.contains x.toNat = true := fun h => by
      unfold oneIn at h
      cases e : S.bs[n]? with
      | none => rw [e] at h; cases h
      | some x => rw [e] at h; exact ⟨x, rfl, h⟩
    rcases hv with rfl | ⟨l, rfl, hl⟩
    · refine ⟨_, (pss_cons (ps_expr (pe_meth (pv 0) R.cl R.m_want (ok_Bytes_want T) (hr.mono (by decide)) T.b_Bytes_want .nil (pxN (L2N.takes_of rfl rfl rfl rfl)) (pa_cons (pe_meth (pv 0) R.cl R.m_is_one_of (ok_Bytes_is_one_of T) (hr.mono (by decide)) T.b_Bytes_is_one_of .nil pass0 (pa_cons (pv 1) pa_nil)) pa_nil)))
  (pss_cons (ps_fld (pv 0) (pe_op op_add (pe_fld (pv 0) rfl) pe_int) rfl)
  (pss_one (ps_ret (pe_ix ix_list (pe_lc (own := [("sign", 2)]) rfl sc_Bytes_take.nd (pi_str (pv 1)) (blkOk_by (N := ["self", "signs", "sign"]) (sc := defScope s_Bytes_take) (own := [("sign", 2)]) (by decide +kernel)) (fun _ _ _ _ _ => (pg_name (i := 2) sc_Bytes_take.nd rfl (by first | exact .inl rfl | exact .inr rfl))) (fun _ _ _ _ _ => (pts_one (pt_cmpR op_eq (pe_callB call_ord (by rfl) T.n_ord (by decide +kernel) (pa_cons (pv 2) pa_nil)) (pe_ix (ix_listK K) (pe_fldK K (pv 0) rfl) (pe_op op_sub (pe_fldK K (pv 0) rfl) pe_int) (fun _ _ => rfl)) (nomark _)))) (fun _ _ _ _ _ => (pv 2))) pe_int (fun _ _ => rfl)))))), ?_⟩
      refine ⟨_, rfl, a, dx, _, rfl, ho, rdF_none Z.ex, ?_⟩
      refine ⟨_, rfl, a, dx, _, rfl, ho, rdF_none Z.ex, ?_⟩
      refine ⟨_, rfl, a, S, n, _, cs, rfl, Z, .inl rfl, few, fun H1 s1 => ⟨a, S, n, _, rfl, Z.same s1, fun hT => ?_, way H1 s1⟩⟩
      obtain ⟨x, hx, hc⟩ := yes hT
      obtain ⟨H2, k2, Z2, hv2, e2⟩ := fin x H1 s1 hx hc
      have ho1 := s1 _ _ ho
      refine ⟨_, rfl, a, S.C, dx, _, _, rfl, ho1, R.cl, R.n_at, rdF_at _ _ _, _, _, rfl, rfl, _, rfl, a, S.C, dx, _, rfl, ho1, R.cl, R.n_at, rdF_few Z.ex, ?_⟩
      rw [← e2]
      refine ⟨_, rfl, _, rfl, fun D nD => lcS wv_str nD (fun _ _ => trivial) (takeF x) (fun i y ys H3 Nx hy s3 d3 _ lt hN hN0 => ?_) (fl x) fun H3 s3 d3 => out x H2 H3 D hx hc k2 Z2 s3 d3⟩
      obtain ⟨c, rfl⟩ := sg_at hy
      obtain ⟨dx3, ho3⟩ := (Z2.same s3).obj
      refine ⟨rfl, _, rfl, _, rfl, rfl, _, rfl, a, S.C, dx3, _, _, rfl, ho3, R.cl, R.n_text, rdF_text _ _ _, _, rfl, a, S.C, dx3, _, _, rfl, ho3, R.cl, R.n_at, rdF_at _ _ _, _, _, rfl, rfl,
        _, _, _, _, rfl, rfl, (Z2.same s3).txt, at_of (j := n) (by omega) (bV_get hx), rfl, _, rfl, ?_⟩
      by_cases hcx : decide (V.int (c : Nat) = V.int (x.toNat : Int)) = true
      · refine if_t hcx ⟨_, rfl, ys, d3, lt, hN _ _ (if_pos hcx) (same_put s3 nD) upd_same⟩
      · refine if_f (Bool.eq_false_iff.mpr hcx) (hN0 _ (if_neg hcx) s3 d3)
    · refine ⟨_, (pss_cons (ps_expr (pe_meth (pv 0) R.cl R.m_want (ok_Bytes_want T) (hr.mono (by decide)) T.b_Bytes_want .nil (pxN (L2N.takes_of rfl rfl rfl rfl)) (pa_cons (pe_meth (pv 0) R.cl R.m_is_one_of (ok_Bytes_is_one_of T) (hr.mono (by decide)) T.b_Bytes_is_one_of .nil pass0 (pa_cons (pv 1) pa_nil)) pa_nil)))
  (pss_cons (ps_fld (pv 0) (pe_op op_add (pe_fld (pv 0) rfl) pe_int) rfl)
  (pss_one (ps_ret (pe_ix ix_list (pe_lc (own := [("sign", 2)]) rfl sc_Bytes_take.nd (pi_list (pv 1)) (blkOk_by (N := ["self", "signs", "sign"]) (sc := defScope s_Bytes_take) (own := [("sign", 2)]) (by decide +kernel)) (fun _ _ _ _ _ => (pg_name (i := 2) sc_Bytes_take.nd rfl (by first | exact .inl rfl | exact .inr rfl))) (fun _ _ _ _ _ => (pts_one (pt_cmpR op_eq (pe_callB call_ord (by rfl) T.n_ord (by decide +kernel) (pa_cons (pv 2) pa_nil)) (pe_ix (ix_listK K) (pe_fldK K (pv 0) rfl) (pe_op op_sub (pe_fldK K (pv 0) rfl) pe_int) (fun _ _ => rfl)) (nomark _)))) (fun _ _ _ _ _ => (pv 2))) pe_int (fun _ _ => rfl)))))), ?_⟩
      refine ⟨_, rfl, a, dx, _, rfl, ho, rdF_none Z.ex, ?_⟩
      refine ⟨_, rfl, a, dx, _, rfl, ho, rdF_none Z.ex, ?_⟩
      refine ⟨_, rfl, a, S, n, _, cs, rfl, Z, .inr ⟨l, rfl, hl⟩, few, fun H1 s1 => ⟨a, S, n, _, rfl, Z.same s1, fun hT => ?_, way H1 s1⟩⟩
      obtain ⟨x, hx, hc⟩ := yes hT
      obtain ⟨H2, k2, Z2, hv2, e2⟩ := fin x H1 s1 hx hc
      have hl2 : SqL K H2 l (sgV cs) := by
        rcases hv2 with z | ⟨l', z, h2⟩
        · cases z
        · cases z; exact h2
      have ho1 := s1 _ _ ho
      refine ⟨_, rfl, a, S.C, dx, _, _, rfl, ho1, R.cl, R.n_at, rdF_at _ _ _, _, _, rfl, rfl, _, rfl, a, S.C, dx, _, rfl, ho1, R.cl, R.n_at, rdF_few Z.ex, ?_⟩
      rw [← e2]
      refine ⟨_, rfl, l, rfl, ⟨_, hl2⟩, fun D nD => lcS wv_list nD (fun H3 s3 => s3.seq hl2) (takeF x) (fun i y ys H3 Nx hy s3 d3 _ lt hN hN0 => ?_) (fl x) fun H3 s3 d3 => out x H2 H3 D hx hc k2 Z2 s3 d3⟩
      obtain ⟨c, rfl⟩ := sg_at hy
      obtain ⟨dx3, ho3⟩ := (Z2.same s3).obj
      refine ⟨rfl, _, rfl, _, rfl, rfl, _, rfl, a, S.C, dx3, _, _, rfl, ho3, R.cl, R.n_text, rdF_text _ _ _, _, rfl, a, S.C, dx3, _, _, rfl, ho3, R.cl, R.n_at, rdF_at _ _ _, _, _, rfl, rfl,
        _, _, _, _, rfl, rfl, (Z2.same s3).txt, at_of (j := n) (by omega) (bV_get hx), rfl, _, rfl, ?_⟩
      by_cases hcx : decide (V.int (c : Nat) = V.int (x.toNat : Int)) = true
      · refine if_t hcx ⟨_, rfl, ys, d3, lt, hN _ _ (if_pos hcx) (same_put s3 nD) upd_same⟩
      · refine if_f (Bool.eq_false_iff.mpr hcx) (hN0 _ (if_neg hcx) s3 d3)
end
end Tf

set_option maxRecDepth 100000
set_option maxHeartbeats 4000000
/-! # The reader: words, ends of lines, choices -/
namespace Tf
open PySem PySem.Spec PyProof.Rows L2
theorem u8_inj {x y : UInt8} (h : x.toNat = y.toNat) : x = y := UInt8.toNat_inj.mp h
theorem oneIn_one (bs : Tafl.Bytes) (n : Nat) (x : UInt8) : oneIn bs n [x.toNat] = true ↔ bs[n]? = some x := by
  unfold oneIn
  cases h : bs[n]? with
  | none => simp
  | some y =>
    rw [List.contains_iff_mem, List.mem_singleton]
    constructor
    · intro e; rw [u8_inj e]
    · intro e; cases e; rfl
theorem lit_nil (c : Tafl.Cur) : Tafl.lit [] c = .ok c := rfl
theorem lit_ok {x : UInt8} {r : Tafl.Bytes} {bs : Tafl.Bytes} {n : Nat} (h : bs[n]? = some x) : Tafl.lit (x :: r) (cur bs n) = Tafl.lit r (cur bs (n + 1)) := by
  show (if (cur bs n).next = some x then Tafl.lit r (cur bs n).on else .error (cur bs n).at_) = _
  rw [if_pos (by rw [cur_next]; exact h), cur_on]
theorem lit_no {x : UInt8} {r : Tafl.Bytes} {bs : Tafl.Bytes} {n : Nat} (h : bs[n]? ≠ some x) : Tafl.lit (x :: r) (cur bs n) = .error n := by
  show (if (cur bs n).next = some x then Tafl.lit r (cur bs n).on else .error (cur bs n).at_) = _
  rw [if_neg (by rw [cur_next]; exact h)]
  rfl
/-- a text's V of its bytes -/
def txV (b : Tafl.Bytes) : V := .str ⟨(b.map UInt8.toNat).toArray⟩
section
variable {P : Program} {w : World} {K : PySem.W.Frag} {mg : Str → Option Value} {base : Heap} {A : Adr}
/-! ### what a piece of the spec's grammar lets: behind it at a place, or the first place where it doesn't go on -/
def sp_literal (K : PySem.W.Frag) (A : Adr) : Sp := fun vs H Q E => ∃ a S n wd, vs = [.ref a, txV wd] ∧ RdAt K A H a S n ∧
  (∀ n' H', Tafl.lit wd (cur S.bs n) = .ok (cur S.bs n') → Kp (· = a) H H' → RdAt K A H' a S n' → Q .non H') ∧ (∀ p, Tafl.lit wd (cur S.bs n) = .error p → EF A (· = a) H E 1 p)
theorem ok_Bytes_literal (T : Txt K mg A) : FnOk P w K mg base (L2N.CX P w) 5 A.f_Bytes_literal A.d_Bytes_literal ["self", "word"] (sp_literal K A) := by
  refine okG T.F_Bytes_literal sc_Bytes_literal (fun vs H Q E h => ?_) (fun cdv B outer s H vs Q E hr h => ?_)
  · obtain ⟨a, S, n, wd, rfl, _⟩ := h
    rfl
  · obtain ⟨a, S, n, wd, rfl, Z, qT, qF⟩ := h
    have R := Z.rd
    refine ⟨_, (pss_one (ps_for (L2.passes_of rfl) rfl (pi_str (pv 1)) (pg_name (i := 2) sc_Bytes_literal.nd rfl (by first | exact .inl rfl | exact .inr rfl))
  (pss_one (ps_expr (pe_meth (pv 0) R.cl R.m_take (ok_Bytes_take T) (hr.mono (by decide)) T.b_Bytes_take .nil (pxN (L2N.takes_of rfl rfl rfl rfl)) (pa_cons (pe_lst (pa_cons (pv 2) pa_nil)) pa_nil)))))), ?_⟩
    refine ⟨_, rfl, _, rfl, forS (wv_str (cs := wd.map UInt8.toNat)) (fun i σ H' => ∃ v n', σ = [some (.ref a), some (txV wd), v] ∧ Kp (· = a) H H' ∧ RdAt K A H' a S n' ∧ Tafl.lit wd (cur S.bs n) = Tafl.lit (wd.drop i) (cur S.bs n'))
      ⟨none, n, rfl, Kp.refl, Z, rfl⟩ (fun _ _ _ _ => trivial) (fun i y σ H2 hy hP => ?_) (fun σ H2 hP => ?_)⟩
    · obtain ⟨v, n', rfl, k2, Z2, el⟩ := hP
      obtain ⟨x, hx, rfl⟩ : ∃ x, wd[i]? = some x ∧ y = .str ⟨#[x.toNat]⟩ := by
        rw [List.map_map, List.getElem?_map] at hy
        cases e : wd[i]? with
        | none => rw [e] at hy; cases hy
        | some x => rw [e] at hy; exact ⟨x, rfl, (Option.some.inj hy).symm⟩
      have dr : wd.drop i = x :: wd.drop (i + 1) := by
        have lt : i < wd.length := (List.getElem?_eq_some_iff.mp hx).1
        rw [List.drop_eq_getElem_cons lt, (List.getElem?_eq_some_iff.mp hx).2]
      rw [dr] at el
      obtain ⟨dx2, ho2⟩ := Z2.obj
      refine ⟨_, rfl, a, dx2, _, rfl, ho2, rdF_none Z2.ex, _, rfl, (by show 1 ≤ sizeLine; exact smallE (by omega)), fun p np => ⟨a, S, n', .ref p, [x.toNat], rfl, Z2.same (same_new np), .inr ⟨p, rfl, SqL.of upd_same⟩, (by show 1 ≤ 1000; decide), fun z H3 hz hc k3 Z3 => ?_, fun hF => ?_⟩⟩
      · have ez : z = x := by
          rw [List.contains_iff_mem, List.mem_singleton] at hc
          exact u8_inj hc
        subst ez
        exact ⟨_, n' + 1, rfl, (k2.trans (Kp.new np)).trans k3, Z3, by rw [el, lit_ok hz]⟩
      · have hne : S.bs[n']? ≠ some x := fun z => by rw [(oneIn_one _ _ _).mpr z] at hF; cases hF
        rw [lit_no hne] at el
        exact (qF n' el).up (k2.trans (Kp.new np)) fun _ z => z
    · obtain ⟨v, n', rfl, k2, Z2, el⟩ := hP
      have e0 : wd.drop ((wd.map UInt8.toNat).map fun c => V.str ⟨#[c]⟩).length = [] := by
        rw [List.length_map, List.length_map]
        exact List.drop_length
      rw [e0, lit_nil] at el
      exact qT n' H2 el k2 Z2
def sp_line_end (K : PySem.W.Frag) (A : Adr) : Sp := fun vs H Q E => ∃ a S n, vs = [.ref a] ∧ RdAt K A H a S n ∧
  (∀ n' H', Tafl.lit [10] (cur S.bs n) = .ok (cur S.bs n') → Kp (· = a) H H' → RdAt K A H' a S n' → Q .non H') ∧ (∀ p, Tafl.lit [10] (cur S.bs n) = .error p → EF A (· = a) H E 1 p)
theorem nb_is {bs : Tafl.Bytes} {n : Nat} {x : UInt8} : nb bs n = (x.toNat : Int) ↔ bs[n]? = some x := by
  unfold nb
  cases bs[n]? with
  | none =>
    constructor
    · intro h
      have h' : (-1 : Int) = (x.toNat : Int) := h
      omega
    · intro h; cases h
  | some y =>
    constructor
    · intro h
      have h' : (y.toNat : Int) = (x.toNat : Int) := h
      rw [u8_inj (by omega : y.toNat = x.toNat)]
    · intro h; cases h; rfl
theorem ok_Bytes_line_end (T : Txt K mg A) : FnOk P w K mg base (L2N.CX P w) 4 A.f_Bytes_line_end A.d_Bytes_line_end ["self"] (sp_line_end K A) := by
  refine okG T.F_Bytes_line_end sc_Bytes_line_end (fun vs H Q E h => ?_) (fun cdv B outer s H vs Q E hr h => ?_)
  · obtain ⟨a, S, n, rfl, _⟩ := h
    rfl
  · obtain ⟨a, S, n, rfl, Z, qT, qF⟩ := h
    have R := Z.rd
    obtain ⟨dx, ho⟩ := Z.obj
    refine ⟨_, (pss_cons (ps_expr (pe_meth (pv 0) R.cl R.m_want (ok_Bytes_want T) (hr.mono (by decide)) T.b_Bytes_want .nil (pxN (L2N.takes_of rfl rfl rfl rfl)) (pa_cons (pe_cmpR op_eq (pe_meth0 (pv 0) R.cl R.m_next_byte (ok_Bytes_next_byte T) (hr.mono (by decide)) T.b_Bytes_next_byte .nil pass0) (pe_gi T.g_LINE_END) (nomark _)) pa_nil)))
  (pss_one (ps_fld (pv 0) (pe_op op_add (pe_fld (pv 0) rfl) pe_int) rfl))), ?_⟩
    refine ⟨_, rfl, a, dx, _, rfl, ho, rdF_none Z.ex, _, rfl, a, dx, _, rfl, ho, rdF_none Z.ex, ?_⟩
    refine ⟨a, S, n, rfl, Z, rfl, a, S, n, _, rfl, Z, fun hT => ?_, fun hF => ?_⟩
    · have hx : S.bs[n]? = some 10 := nb_is.mp (by have := of_decide_eq_true hT; injection this)
      have lt : n < S.bs.length := (List.getElem?_eq_some_iff.mp hx).1
      refine ⟨_, rfl, a, S.C, dx, _, _, rfl, ho, R.cl, R.n_at, rdF_at _ _ _, _, _, rfl, rfl, _, rfl, a, S.C, dx, _, rfl, ho, R.cl, R.n_at, rdF_few Z.ex, ?_⟩
      have e : ((n : Int) + 1) = ((n + 1 : Nat) : Int) := by omega
      show Q .non (upd H a (.ins S.C dx (putF "at" (.int ((n : Int) + 1)) (rdF S.t n S.ex))))
      rw [e]
      exact qT (n + 1) _ (by rw [lit_ok hx, lit_nil]) (Kp.upd rfl) (Z.put (by omega) ho (Same.refl _))
    · have hne : S.bs[n]? ≠ some 10 := fun z => by
        have := nb_is.mpr z
        have h2 := of_decide_eq_false hF
        exact h2 (by rw [this]; rfl)
      exact (qF n (lit_no hne)).up Kp.refl fun _ z => z.elim
def sp_finish (K : PySem.W.Frag) (A : Adr) : Sp := fun vs H Q E => ∃ a S n, vs = [.ref a] ∧ RdAt K A H a S n ∧ (n = S.bs.length → Q .non H) ∧ (n ≠ S.bs.length → EF A (· = a) H E 1 n)
theorem ok_Bytes_finish (T : Txt K mg A) : FnOk P w K mg base (L2N.CX P w) 4 A.f_Bytes_finish A.d_Bytes_finish ["self"] (sp_finish K A) := by
  refine okG T.F_Bytes_finish sc_Bytes_finish (fun vs H Q E h => ?_) (fun cdv B outer s H vs Q E hr h => ?_)
  · obtain ⟨a, S, n, rfl, _⟩ := h
    rfl
  · obtain ⟨a, S, n, rfl, Z, qT, qF⟩ := h
    have R := Z.rd
    obtain ⟨dx, ho⟩ := Z.obj
    refine ⟨_, (pss_one (ps_expr (pe_meth (pv 0) R.cl R.m_want (ok_Bytes_want T) (hr.mono (by decide)) T.b_Bytes_want .nil (pxN (L2N.takes_of rfl rfl rfl rfl)) (pa_cons (pe_cmpR op_eq (pe_fld (pv 0) rfl) (pe_callB call_len (by rfl) T.n_len PySem.boot_len (pa_cons (pe_fld (pv 0) rfl) pa_nil)) (nomark _)) pa_nil)))), ?_⟩
    refine ⟨_, rfl, a, dx, _, rfl, ho, rdF_none Z.ex, _, rfl, a, S.C, dx, _, _, rfl, ho, R.cl, R.n_at, rdF_at _ _ _, _, rfl, a, S.C, dx, _, _, rfl, ho, R.cl, R.n_text, rdF_text _ _ _, .ref S.t, _, rfl, .inl ⟨_, Z.txt, rfl⟩, rfl, a, S, n, _, rfl, Z, fun hT => ?_, fun hF => ?_⟩
    · have := of_decide_eq_true hT
      rw [bV_len] at this
      injection this with this
      exact qT (by omega)
    · have := of_decide_eq_false hF
      rw [bV_len] at this
      exact (qF (fun e => this (by rw [e]))).up Kp.refl fun _ z => z.elim
end
end Tf

/-! # The spec's words, numbers, names at a place of a text: plain Lean -/
namespace TfP
open Tafl
def labs : Nat → List Bytes → List (Nat × Bytes)
  | _, [] => []
  | k, w :: r => (k, w) :: labs (k + 1) r
def cutBy (t : Bytes) (w : Nat × Bytes) : Option (Nat × Bytes) := if t.isPrefixOf w.2 = true then some (w.1, w.2.drop t.length) else none
def after (L : List (Nat × Bytes)) (t : Bytes) : List (Nat × Bytes) := L.filterMap (cutBy t)
theorem after_nil (L : List (Nat × Bytes)) : after L [] = L := by
  unfold after
  induction L with
  | nil => rfl
  | cons a r ih =>
    rw [List.filterMap_cons]
    have e : cutBy [] a = some a := by unfold cutBy; simp
    rw [e]
    show a :: r.filterMap (cutBy []) = a :: r
    rw [ih]
theorem pre_snoc {t w : Bytes} {x : UInt8} : (t ++ [x]) <+: w ↔ t <+: w ∧ w[t.length]? = some x := by
  constructor
  · rintro ⟨r, rfl⟩
    refine ⟨⟨[x] ++ r, by rw [List.append_assoc]⟩, ?_⟩
    rw [List.append_assoc, List.getElem?_append_right (Nat.le_refl _)]
    simp
  · rintro ⟨⟨r, rfl⟩, h⟩
    rw [List.getElem?_append_right (Nat.le_refl _), Nat.sub_self] at h
    cases r with
    | nil => cases h
    | cons y r =>
      cases h
      exact ⟨r, by rw [List.append_assoc]; rfl⟩
theorem cut_snoc (t : Bytes) (x : UInt8) (w : Nat × Bytes) : ((cutBy t w).bind (cutBy [x])) = cutBy (t ++ [x]) w := by
  unfold cutBy
  by_cases h : t.isPrefixOf w.2 = true
  · rw [if_pos h]
    show (if [x].isPrefixOf (w.2.drop t.length) = true then some (w.1, (w.2.drop t.length).drop 1) else none) = _
    obtain ⟨r, hr⟩ := List.isPrefixOf_iff_prefix.mp h
    have e : w.2.drop t.length = r := by rw [← hr]; simp
    rw [e]
    by_cases h2 : [x].isPrefixOf r = true
    · have h3 : (t ++ [x]).isPrefixOf w.2 = true := by
        obtain ⟨q, hq⟩ := List.isPrefixOf_iff_prefix.mp h2
        exact List.isPrefixOf_iff_prefix.mpr ⟨q, by rw [List.append_assoc, hq, hr]⟩
      rw [if_pos h2, if_pos h3, List.length_append, List.length_singleton, ← List.drop_drop, e]
    · have h3 : ¬ (t ++ [x]).isPrefixOf w.2 = true := fun z => h2 (by
        obtain ⟨q, hq⟩ := List.isPrefixOf_iff_prefix.mp z
        rw [List.append_assoc, ← hr] at hq
        exact List.isPrefixOf_iff_prefix.mpr ⟨q, List.append_cancel_left hq⟩)
      rw [if_neg h2, if_neg h3]
  · have h3 : ¬ (t ++ [x]).isPrefixOf w.2 = true := fun z => h (List.isPrefixOf_iff_prefix.mpr ((List.prefix_append t [x]).trans (List.isPrefixOf_iff_prefix.mp z)))
    rw [if_neg h, if_neg h3]
    rfl
theorem after_snoc (L : List (Nat × Bytes)) (t : Bytes) (x : UInt8) : (after L t).filterMap (fun (w : Nat × Bytes) => if w.2.head? = some x then some (w.1, w.2.drop 1) else none) = after L (t ++ [x]) := by
  unfold after
  rw [List.filterMap_filterMap]
  congr 1
  funext w
  rw [← cut_snoc]
  congr 1
  funext v
  unfold cutBy
  by_cases h : v.2.head? = some x
  · rw [if_pos h]
    cases hv : v.2 with
    | nil => rw [hv] at h; cases h
    | cons y r =>
      rw [hv] at h
      cases h
      simp
  · rw [if_neg h]
    cases hv : v.2 with
    | nil => simp
    | cons y r =>
      rw [hv] at h
      have : ¬ x = y := fun z => h (by rw [z]; rfl)
      simp [this]
theorem after_mem {ws : List Bytes} {t : Bytes} : ∀ {k : Nat}, (after (labs k ws) t ≠ []) ↔ ∃ w ∈ ws, t <+: w := by
  induction ws with
  | nil => intro k; simp [after, labs]
  | cons a r ih =>
    intro k
    show ((k, a) :: labs (k + 1) r).filterMap (cutBy t) ≠ [] ↔ _
    rw [List.filterMap_cons]
    by_cases h : t.isPrefixOf a = true
    · have e : cutBy t (k, a) = some (k, a.drop t.length) := if_pos h
      rw [e]
      simp only [ne_eq, reduceCtorEq, not_false_eq_true, true_iff]
      exact ⟨a, List.mem_cons_self, List.isPrefixOf_iff_prefix.mp h⟩
    · have e : cutBy t (k, a) = none := if_neg h
      rw [e]
      show after (labs (k + 1) r) t ≠ [] ↔ _
      rw [ih]
      constructor
      · rintro ⟨w, hw, hp⟩
        exact ⟨w, List.mem_cons_of_mem _ hw, hp⟩
      · rintro ⟨w, hw, hp⟩
        rcases List.mem_cons.mp hw with rfl | hw
        · exact absurd (List.isPrefixOf_iff_prefix.mpr hp) h
        · exact ⟨w, hw, hp⟩
theorem pre_empty {t a : Bytes} (h : t <+: a) : (a.drop t.length).isEmpty = true ↔ a = t := by
  obtain ⟨r, rfl⟩ := h
  rw [List.drop_left, List.isEmpty_iff]
  constructor
  · intro e; rw [e, List.append_nil]
  · intro e
    have := congrArg List.length e
    rw [List.length_append] at this
    exact List.length_eq_zero_iff.mp (by omega)
theorem find_after {ws : List Bytes} {t : Bytes} : ∀ {k : Nat} {w : Nat × Bytes}, (after (labs k ws) t).find? (fun (w : Nat × Bytes) => w.2.isEmpty) = some w → ∃ j, ws[j]? = some t ∧ (∀ m, m < j → ws[m]? ≠ some t) ∧ w.1 = k + j := by
  induction ws with
  | nil => intro k w h; simp [after, labs] at h
  | cons a r ih =>
    intro k w h
    have h' : (((k, a) :: labs (k + 1) r).filterMap (cutBy t)).find? (fun (w : Nat × Bytes) => w.2.isEmpty) = some w := h
    rw [List.filterMap_cons] at h'
    have more : (a ≠ t) → (after (labs (k + 1) r) t).find? (fun (w : Nat × Bytes) => w.2.isEmpty) = some w → ∃ j, (a :: r)[j]? = some t ∧ (∀ m, m < j → (a :: r)[m]? ≠ some t) ∧ w.1 = k + j := fun ne hf => by
      obtain ⟨j, h1, h2, h3⟩ := ih hf
      refine ⟨j + 1, h1, fun m hm => ?_, by omega⟩
      cases m with
      | zero => intro z; exact ne (Option.some.inj z)
      | succ m => exact h2 m (by omega)
    by_cases hp : t.isPrefixOf a = true
    · have e : cutBy t (k, a) = some (k, a.drop t.length) := if_pos hp
      rw [e] at h'
      by_cases he : (a.drop t.length).isEmpty = true
      · have : a = t := (pre_empty (List.isPrefixOf_iff_prefix.mp hp)).mp he
        have e2 : (List.find? (fun (w : Nat × Bytes) => w.2.isEmpty) ((k, a.drop t.length) :: (labs (k + 1) r).filterMap (cutBy t))) = some (k, a.drop t.length) := List.find?_cons_of_pos he
        rw [e2] at h'
        cases h'
        exact ⟨0, by rw [this]; rfl, fun m hm => absurd hm (Nat.not_lt_zero _), rfl⟩
      · have e2 : (List.find? (fun (w : Nat × Bytes) => w.2.isEmpty) ((k, a.drop t.length) :: (labs (k + 1) r).filterMap (cutBy t))) = (after (labs (k + 1) r) t).find? (fun (w : Nat × Bytes) => w.2.isEmpty) := List.find?_cons_of_neg he
        rw [e2] at h'
        exact more (fun z => he ((pre_empty (List.isPrefixOf_iff_prefix.mp hp)).mpr z)) h'
    · have e : cutBy t (k, a) = none := if_neg hp
      rw [e] at h'
      exact more (fun z => hp (by rw [z]; exact List.isPrefixOf_iff_prefix.mpr (List.prefix_refl t))) h'
theorem find_none {ws : List Bytes} {t : Bytes} {k : Nat} (h : (after (labs k ws) t).find? (fun (w : Nat × Bytes) => w.2.isEmpty) = none) : t ∉ ws := by
  intro hm
  have : ∀ {ws : List Bytes} {k : Nat}, t ∈ ws → ∃ v ∈ after (labs k ws) t, v.2.isEmpty = true := by
    intro ws
    induction ws with
    | nil => intro k h; cases h
    | cons a r ih =>
      intro k hm
      rcases List.mem_cons.mp hm with rfl | hm
      · refine ⟨(k, t.drop t.length), List.mem_filterMap.mpr ⟨(k, t), List.mem_cons_self, if_pos (List.isPrefixOf_iff_prefix.mpr (List.prefix_refl t))⟩, (pre_empty (List.prefix_refl t)).mpr rfl⟩
      · obtain ⟨v, hv, he⟩ := ih (k := k + 1) hm
        obtain ⟨u, hu, e⟩ := List.mem_filterMap.mp hv
        exact ⟨v, List.mem_filterMap.mpr ⟨u, List.mem_cons_of_mem _ hu, e⟩, he⟩
  obtain ⟨v, hv, he⟩ := this (k := k) hm
  have := List.find?_eq_none.mp h v hv
  exact this he
/-- one turn of the spec's choice -/
theorem oneOf_hit {f : Nat} {L : List (Nat × Bytes)} {c : Cur} {w : Nat × Bytes} (h : L.find? (fun (w : Nat × Bytes) => w.2.isEmpty) = some w) : oneOf (f + 1) L c = .ok (w.1, c) := by
  rw [oneOf, h]
theorem oneOf_end {f : Nat} {L : List (Nat × Bytes)} {c : Cur} (h : L.find? (fun (w : Nat × Bytes) => w.2.isEmpty) = none) (hn : c.next = none) : oneOf (f + 1) L c = .error c.at_ := by
  rw [oneOf, h]
  show (match c.next with | none => _ | some x => _) = _
  rw [hn]
theorem oneOf_no {f : Nat} {L : List (Nat × Bytes)} {t : Bytes} {c : Cur} {x : UInt8} (h : (after L t).find? (fun (w : Nat × Bytes) => w.2.isEmpty) = none) (hn : c.next = some x) (he : after L (t ++ [x]) = []) : oneOf (f + 1) (after L t) c = .error c.at_ := by
  rw [oneOf, h]
  show (match c.next with | none => _ | some x => _) = _
  rw [hn]
  show (if ((after L t).filterMap (fun (w : Nat × Bytes) => if w.2.head? = some x then some (w.1, w.2.drop 1) else none)).isEmpty = true then Except.error c.at_ else _) = _
  rw [after_snoc, he]
  rfl
theorem oneOf_go {f : Nat} {L : List (Nat × Bytes)} {t : Bytes} {c : Cur} {x : UInt8} (h : (after L t).find? (fun (w : Nat × Bytes) => w.2.isEmpty) = none) (hn : c.next = some x) (he : after L (t ++ [x]) ≠ []) : oneOf (f + 1) (after L t) c = oneOf f (after L (t ++ [x])) c.on := by
  rw [oneOf, h]
  show (match c.next with | none => _ | some x => _) = _
  rw [hn]
  show (if ((after L t).filterMap (fun (w : Nat × Bytes) => if w.2.head? = some x then some (w.1, w.2.drop 1) else none)).isEmpty = true then Except.error c.at_ else oneOf f ((after L t).filterMap (fun (w : Nat × Bytes) => if w.2.head? = some x then some (w.1, w.2.drop 1) else none)) c.on) = _
  rw [after_snoc, if_neg (by rw [List.isEmpty_iff]; exact he)]
/-! ### numbers -/
theorem begins_13 : ∀ d : Nat, d < 10 → (0 < d ∧ begins 5 13 d = true ↔ d = 1 ∨ 5 ≤ d) := by decide
theorem begins_13b : ∀ d : Nat, d < 10 → (begins 5 13 (10 + d) = true ↔ d ≤ 3) := by decide
theorem begins_no (d : Nat) (h : 5 ≤ d) (x : Nat) : begins 5 13 (10 * d + x) = false := by
  unfold begins
  rw [List.any_eq_false]
  intro k hk
  have : 1 ≤ 10 ^ k := Nat.pos_of_ne_zero (by exact Nat.ne_of_gt (Nat.pow_pos (by decide)))
  have h2 : (10 * d + x) * 1 ≤ (10 * d + x) * 10 ^ k := Nat.mul_le_mul_left _ this
  have h3 : ¬ ((10 * d + x) * 10 ^ k ≤ 13) := by omega
  simp [h3]
theorem begins_lim {d : Nat} (h : 0 < d) : begins 1 60000 d = decide (d ≤ 60000) := by
  unfold begins
  rw [Bool.eq_iff_iff, List.any_eq_true, decide_eq_true_iff]
  constructor
  · rintro ⟨k, _, hk⟩
    rw [Bool.and_eq_true, decide_eq_true_iff] at hk
    have : 1 ≤ 10 ^ k := Nat.pos_of_ne_zero (by exact Nat.ne_of_gt (Nat.pow_pos (by decide)))
    have h2 : d * 1 ≤ d * 10 ^ k := Nat.mul_le_mul_left _ this
    omega
  · intro hd
    refine ⟨0, by decide, ?_⟩
    rw [Bool.and_eq_true, decide_eq_true_iff, decide_eq_true_iff]
    simp
    omega
theorem numFrom_none {lo hi f d : Nat} {c : Cur} (h : c.next = none) : numberFrom lo hi (f + 1) d c = if lo ≤ d ∧ d ≤ hi then .ok (d, c) else .error c.at_ := by
  rw [numberFrom, h]
theorem numFrom_some {lo hi f d : Nat} {c : Cur} {x : UInt8} (h : c.next = some x) : numberFrom lo hi (f + 1) d c = if isDigit x = true ∧ 0 < 10 * d + (x.toNat - 48) ∧ begins lo hi (10 * d + (x.toNat - 48)) = true then numberFrom lo hi f (10 * d + (x.toNat - 48)) c.on else if lo ≤ d ∧ d ≤ hi then .ok (d, c) else .error c.at_ := by
  rw [numberFrom, h]
theorem isDigit_iff (x : UInt8) : isDigit x = true ↔ 48 ≤ x.toNat ∧ x.toNat ≤ 57 := by
  unfold isDigit
  rw [Bool.and_eq_true, decide_eq_true_iff, decide_eq_true_iff]
theorem isLetter_iff (x : UInt8) : isLetter x = true ↔ (65 ≤ x.toNat ∧ x.toNat ≤ 90) ∨ (97 ≤ x.toNat ∧ x.toNat ≤ 122) := by
  unfold isLetter
  rw [Bool.or_eq_true, Bool.and_eq_true, Bool.and_eq_true, decide_eq_true_iff, decide_eq_true_iff, decide_eq_true_iff, decide_eq_true_iff]
end TfP

set_option maxRecDepth 100000
set_option maxHeartbeats 4000000
/-! # The reader: choices, numbers, names -/
namespace Tf
open PySem PySem.Spec PyProof.Rows L2
def strOf (b : Tafl.Bytes) : Str := ⟨(b.map UInt8.toNat).toArray⟩
theorem txV_eq (b : Tafl.Bytes) : txV b = .str (strOf b) := rfl
theorem strOf_inj {a b : Tafl.Bytes} (h : strOf a = strOf b) : a = b := by
  have e : a.map UInt8.toNat = b.map UInt8.toNat := by
    have := congrArg (fun z : Str => z.cps.toList) h
    simpa [strOf] using this
  exact List.map_inj_right (fun x y h => u8_inj h) |>.mp e
theorem strOf_len (b : Tafl.Bytes) : (strOf b).length = b.length := by
  show (b.map UInt8.toNat).toArray.size = _
  rw [List.size_toArray, List.length_map]
theorem strOf_snoc (t : Tafl.Bytes) (x : UInt8) : strOf t ++ (⟨#[x.toNat]⟩ : Str) = strOf (t ++ [x]) := by
  refine PySem.Str.ext' (Array.toList_inj.mp ?_)
  rw [PySem.Str.cps_append, Array.toList_append]
  simp [strOf]
/-- a text's codes -/
def b_ (w : Tafl.Bytes) : List Nat := w.map UInt8.toNat
theorem cut_take (w : Tafl.Bytes) (k : Nat) : cutS (strOf w) none (some (k : Int)) = strOf (w.take k) := by
  unfold cutS
  rw [HT.sIx_none, HT.sIx_nat, List.drop_zero, Nat.sub_zero, strOf_len]
  show (⟨((b_ w).take (min k w.length)).toArray⟩ : Str) = ⟨(b_ (w.take k)).toArray⟩
  unfold b_
  rw [← List.map_take, ← List.take_eq_take_min]
theorem eqV_str (a b : Str) : eqV (.str a) (.str b) = (a == b) := rfl
theorem inV_strs (t : Tafl.Bytes) (ws : List Tafl.Bytes) : inV (.str (strOf t)) (ws.map txV) = decide (t ∈ ws) := by
  unfold inV
  rw [List.any_map, Bool.eq_iff_iff, List.any_eq_true, decide_eq_true_iff]
  constructor
  · rintro ⟨x, hx, e⟩
    have e' : (strOf x == strOf t) = true := e
    rw [beq_iff_eq] at e'
    exact strOf_inj e' ▸ hx
  · exact fun h => ⟨t, h, by show (strOf t == strOf t) = true; exact beq_self_eq_true _⟩
theorem flat_txs (ws : List Tafl.Bytes) : (ws.map txV).all flatV = true := by
  rw [List.all_map]
  exact List.all_eq_true.mpr fun _ _ => rfl
/-- the words that go on from t -/
def onlyBy (ws : List Tafl.Bytes) (t : Tafl.Bytes) : List Tafl.Bytes := ws.filter fun w => t.isPrefixOf w
theorem onlyBy_nil (ws : List Tafl.Bytes) : onlyBy ws [] = ws := List.filter_eq_self.mpr fun _ _ => rfl
theorem only_only (ws : List Tafl.Bytes) (t : Tafl.Bytes) (x : UInt8) : (onlyBy ws t).filter (fun w => (t ++ [x]).isPrefixOf w) = onlyBy ws (t ++ [x]) := by
  unfold onlyBy
  rw [List.filter_filter]
  refine List.filter_congr fun w _ => ?_
  rw [Bool.eq_iff_iff, Bool.and_eq_true, List.isPrefixOf_iff_prefix, List.isPrefixOf_iff_prefix]
  exact ⟨fun h => h.1, fun h => ⟨h, (List.prefix_append t [x]).trans h⟩⟩
/-- the signs that stand next -/
def nexts (ws : List Tafl.Bytes) (t : Tafl.Bytes) : List Nat := (onlyBy ws t).map fun w => (w.getD t.length 0).toNat
theorem nexts_has {ws : List Tafl.Bytes} {t : Tafl.Bytes} {x : UInt8} (long : ∀ w ∈ onlyBy ws t, ∃ y, w[t.length]? = some y) : (nexts ws t).contains x.toNat = true ↔ ∃ w ∈ ws, (t ++ [x]) <+: w := by
  rw [List.contains_iff_mem]
  unfold nexts
  rw [List.mem_map]
  constructor
  · rintro ⟨w, hw, e⟩
    obtain ⟨y, hy⟩ := long w hw
    rw [List.getD_eq_getElem?_getD, hy] at e
    have : y = x := u8_inj e
    subst this
    exact ⟨w, (List.mem_filter.mp hw).1, TfP.pre_snoc.mpr ⟨List.isPrefixOf_iff_prefix.mp (List.mem_filter.mp hw).2, hy⟩⟩
  · rintro ⟨w, hw, hp⟩
    obtain ⟨h1, h2⟩ := TfP.pre_snoc.mp hp
    exact ⟨w, List.mem_filter.mpr ⟨hw, List.isPrefixOf_iff_prefix.mpr h1⟩, by rw [List.getD_eq_getElem?_getD, h2]; rfl⟩
def chF (k : Nat) : V → List V
  | .str z => match z.cps.toList[k]? with
    | some c => [.str ⟨#[c]⟩]
    | none => []
  | _ => []
theorem chF_at {w : Tafl.Bytes} {k : Nat} {y : UInt8} (h : w[k]? = some y) : chF k (txV w) = [V.str ⟨#[y.toNat]⟩] := by
  show (match (w.map UInt8.toNat).toArray.toList[k]? with | some c => [V.str ⟨#[c]⟩] | none => []) = _
  rw [List.toList_toArray, List.getElem?_map, h]
  rfl
def goF (t : Tafl.Bytes) : V → List V
  | .str z => if cutS z none (some (t.length : Int)) = strOf t then [.str z] else []
  | _ => []
theorem take_pre {t w : Tafl.Bytes} : decide (V.str (strOf (w.take t.length)) = V.str (strOf t)) = true ↔ cutS (strOf w) none (some (t.length : Int)) = strOf t := by
  rw [decide_eq_true_iff, cut_take]
  exact ⟨fun h => by injection h, fun h => by rw [h]⟩
theorem goF_list (t : Tafl.Bytes) (l : List Tafl.Bytes) : (l.map txV).flatMap (goF t) = (l.filter fun w => t.isPrefixOf w).map txV := by
  induction l with
  | nil => rfl
  | cons w r ih =>
    rw [List.map_cons, List.flatMap_cons, ih, List.filter_cons]
    have e : goF t (txV w) = if cutS (strOf w) none (some (t.length : Int)) = strOf t then [txV w] else [] := rfl
    have i : cutS (strOf w) none (some (t.length : Int)) = strOf t ↔ t.isPrefixOf w = true := by
      rw [cut_take, List.isPrefixOf_iff_prefix, List.prefix_iff_eq_take]
      exact ⟨fun h => (strOf_inj h).symm, fun h => by rw [← h]⟩
    by_cases h : t.isPrefixOf w = true
    · rw [e, if_pos (i.mpr h), if_pos h]; rfl
    · rw [e, if_neg (fun z => h (i.mp z)), if_neg h]; rfl
/-- a tuple stands when an instance changes -/
theorem Kp.sqTI {K : PySem.W.Frag} {H H' : Hp} {a : Addr} {p : Addr → Prop} {C dx b : Addr} {fs : List (Str × V)} {xs : List V} (k : Kp p H H') (e : H a = some (.ins C dx fs)) (hp : ∀ x, p x → x = a) (h : SqT K H b xs) : SqT K H' b xs := by
  rcases h with (h | ⟨o, h⟩) | h
  · exact .inl (.inl (k.keep _ _ h fun z => ne_of h e (by intro z; cases z) (hp _ z)))
  · exact .inl (.inr ⟨o, k.keep _ _ h fun z => ne_of h e (by intro z; cases z) (hp _ z)⟩)
  · exact .inr h
structure WordsOk (ws : List Tafl.Bytes) : Prop where
  some : ws ≠ []
  few : ws.length ≤ 100
  short : ∀ w ∈ ws, w.length ≤ 15
section
variable {P : Program} {w : World} {K : PySem.W.Frag} {mg : Str → Option Value} {base : Heap} {A : Adr}
def sp_choice (K : PySem.W.Frag) (A : Adr) : Sp := fun vs H Q E => ∃ a S n tp ws, vs = [.ref a, .ref tp] ∧ RdAt K A H a S n ∧ SqT K H tp (ws.map txV) ∧ tyT K (.ref tp) H ∧ WordsOk ws ∧
  (∀ j n' H', Tafl.oneOf 16 (TfP.labs 0 ws) (cur S.bs n) = .ok (j, cur S.bs n') → Kp (· = a) H H' → RdAt K A H' a S n' → Q (.int (j : Nat)) H') ∧ (∀ p, Tafl.oneOf 16 (TfP.labs 0 ws) (cur S.bs n) = .error p → EF A (· = a) H E 1 p)
theorem tyT.keep {H H' : Hp} {a tp C dx : Addr} {fs : List (Str × V)} (h : tyT K (.ref tp) H) (k : Kp (· = a) H H') (e : H a = some (.ins C dx fs)) : tyT K (.ref tp) H' := by
  obtain ⟨p, e1, h⟩ := h
  cases e1
  rcases h with h | ⟨o, xs, h1, h2⟩
  · exact ⟨_, rfl, .inl h⟩
  · exact ⟨_, rfl, .inr ⟨o, xs, k.keep _ _ h1 (ne_of h1 e (by intro z; cases z)), h2⟩⟩
theorem ok_Bytes_choice (T : Txt K mg A) : FnOk P w K mg base (L2N.CX P w) 5 A.f_Bytes_choice A.d_Bytes_choice ["self", "words"] (sp_choice K A) := by
  refine okG T.F_Bytes_choice sc_Bytes_choice (fun vs H Q E h => ?_) (fun cdv B outer s H vs Q E hr h => ?_)
  · obtain ⟨a, S, n, tp, ws, rfl, _⟩ := h
    rfl
  · obtain ⟨a, S, n, tp, ws, rfl, Z, hT, ty, ok, qT, qF⟩ := h
    have R := Z.rd
    obtain ⟨dx0, ho0⟩ := Z.obj
    refine ⟨_, (pss_cons (ps_set (i := 2) sc_Bytes_choice.nd rfl (by first | exact .inl rfl | exact .inr rfl) (pe_callTy call_list_of (by rfl) T.n_list (by decide +kernel) (pa_cons (pv 1) pa_nil)))
  (pss_cons (ps_set (i := 3) sc_Bytes_choice.nd rfl (by first | exact .inl rfl | exact .inr rfl) pe_str)
  (pss_cons (ps_while (L2.passes_of rfl) (pt_cmpR op_notIn_seq (pv 3) (pv 2) (by rfl))
  (pss_cons (ps_set (i := 3) sc_Bytes_choice.nd rfl (by first | exact .inl rfl | exact .inr rfl) (pe_op op_add_str (pv 3) (pe_meth (pv 0) R.cl R.m_take (ok_Bytes_take T) (hr.mono (by decide)) T.b_Bytes_take .nil (pxN (L2N.takes_of rfl rfl rfl rfl)) (pa_cons (pe_lc (own := [("word", 4)]) rfl sc_Bytes_choice.nd (pi_list (pv 2)) (blkOk_by (N := ["self", "words", "left", "taken", "word"]) (sc := defScope s_Bytes_choice) (own := [("word", 4)]) (by decide +kernel)) (fun _ _ _ _ _ => (pg_name (i := 4) sc_Bytes_choice.nd rfl (by first | exact .inl rfl | exact .inr rfl))) (fun _ _ _ _ _ => pts_nil) (fun _ _ _ _ _ => (pe_ix ix_str (pv 4) (pe_callB (call_lenK K) (by rfl) T.n_len PySem.boot_len (pa_cons (pv 3) pa_nil)) (fun _ _ => rfl)))) pa_nil))))
  (pss_one (ps_setLc (i := 2) (own := [("word", 4)]) rfl sc_Bytes_choice.nd rfl rfl (sw_true rfl rfl rfl (by decide +kernel)) (pi_list (pv 2)) (blkOk_by (N := ["self", "words", "left", "taken", "word"]) (sc := defScope s_Bytes_choice) (own := [("word", 4)]) (by decide +kernel)) (fun _ _ _ _ _ => (pg_name (i := 4) sc_Bytes_choice.nd rfl (by first | exact .inl rfl | exact .inr rfl))) (fun _ _ _ _ _ => (pts_one (pt_cmpR op_eq (pe_slice sl_str (pv 4) po_none (po_some (pe_callB (call_lenK K) (by rfl) T.n_len PySem.boot_len (pa_cons (pv 3) pa_nil)))) (pv 3) (nomark _)))) (fun _ _ _ _ _ => (pv 4))))))
  (pss_one (ps_ret (pe_tix (pv 1) (pa_cons (pv 3) pa_nil))))))), ?_⟩
    -- left = list(words); taken = ''
    refine ⟨_, rfl, tp, _, rfl, .inr hT, fun l nl => ?_⟩
    have e0 : Str.ofString "" = strOf [] := by decide +kernel
    rw [e0]
    refine ⟨fun m σ H' => ∃ t lf v4, m + t.length = 16 ∧ σ = [some (.ref a), some (.ref tp), some (.ref lf), some (.str (strOf t)), v4] ∧ Kp (· = a) H H' ∧ RdAt K A H' a S (n + t.length) ∧ H' lf = some (.lst ((onlyBy ws t).map txV)) ∧
      Tafl.oneOf 16 (TfP.labs 0 ws) (cur S.bs n) = Tafl.oneOf m (TfP.after (TfP.labs 0 ws) t) (cur S.bs (n + t.length)) ∧ (∃ w ∈ ws, t <+: w), ⟨16, [], l, none, rfl, rfl, Kp.new nl, Z.same (same_new nl), ?_, ?_, ?_⟩, fun m σ H1 hW => ?_⟩
    · rw [upd_same, onlyBy_nil]
    · rw [TfP.after_nil]
      rfl
    · obtain ⟨w, hw⟩ := List.exists_mem_of_ne_nil _ ok.some
      exact ⟨w, hw, List.nil_prefix⟩
    · obtain ⟨t, lf, v4, hm, rfl, k1, Z1, hl1, ho, w0, hw0, hp0⟩ := hW
      have tl : t.length ≤ 15 := Nat.le_trans hp0.length_le (ok.short w0 hw0)
      obtain ⟨m, rfl⟩ : ∃ m', m = m' + 1 := ⟨m - 1, by omega⟩
      refine ⟨_, rfl, _, rfl, lf, _, rfl, .inl (SqL.of hl1), rfl, flat_txs _, _, rfl, ?_⟩
      rw [inV_strs]
      by_cases hmem : t ∈ ws
      · -- it is one of the words
        have h1 : t ∈ onlyBy ws t := List.mem_filter.mpr ⟨hmem, List.isPrefixOf_iff_prefix.mpr (List.prefix_refl t)⟩
        refine if_f (by show (!decide (t ∈ onlyBy ws t)) = false; rw [decide_eq_true h1]; rfl) ?_
        cases hf : (TfP.after (TfP.labs 0 ws) t).find? (fun (w : Nat × Tafl.Bytes) => w.2.isEmpty) with
        | none => exact absurd hmem (TfP.find_none hf)
        | some v =>
          obtain ⟨j, hj, hno, hv⟩ := TfP.find_after hf
          rw [TfP.oneOf_hit hf, hv, Nat.zero_add] at ho
          refine ⟨_, rfl, ty.keep k1 ho0, _, rfl, tp, ws.map strOf, strOf t, j, rfl, rfl, ?_, ?_, fun i hi => ?_, qT j _ _ ho k1 Z1⟩
          · rw [List.map_map]
            exact k1.sqTI ho0 (fun _ z => z) hT
          · rw [List.getElem?_map, hj]; rfl
          · rw [List.getElem?_map]
            intro z
            cases e : ws[i]? with
            | none => rw [e] at z; cases z
            | some u =>
              rw [e] at z
              have : strOf u = strOf t := Option.some.inj z
              exact hno i hi (by rw [e, strOf_inj this])
      · have h1 : t ∉ onlyBy ws t := fun z => hmem (List.mem_filter.mp z).1
        refine if_t (by show (!decide (t ∈ onlyBy ws t)) = true; rw [decide_eq_false h1]; rfl) ?_
        refine ⟨fun σ' H' => ∃ m', m' < m + 1 ∧ (fun m σ H' => ∃ t lf v4, m + t.length = 16 ∧ σ = [some (.ref a), some (.ref tp), some (.ref lf), some (.str (strOf t)), v4] ∧ Kp (· = a) H H' ∧ RdAt K A H' a S (n + t.length) ∧ H' lf = some (.lst ((onlyBy ws t).map txV)) ∧
          Tafl.oneOf 16 (TfP.labs 0 ws) (cur S.bs n) = Tafl.oneOf m (TfP.after (TfP.labs 0 ws) t) (cur S.bs (n + t.length)) ∧ (∃ w ∈ ws, t <+: w)) m' σ' H', fun _ _ z => z, ?_⟩
        have hfind : (TfP.after (TfP.labs 0 ws) t).find? (fun (w : Nat × Tafl.Bytes) => w.2.isEmpty) = none := by
          cases hf : (TfP.after (TfP.labs 0 ws) t).find? (fun (w : Nat × Tafl.Bytes) => w.2.isEmpty) with
          | none => rfl
          | some v =>
            obtain ⟨j, hj, _⟩ := TfP.find_after hf
            exact absurd (List.mem_of_getElem? hj) hmem
        have long : ∀ w ∈ onlyBy ws t, ∃ y, w[t.length]? = some y := fun w hw => by
          obtain ⟨hw1, hw2⟩ := List.mem_filter.mp hw
          obtain ⟨r, rfl⟩ := List.isPrefixOf_iff_prefix.mp hw2
          cases r with
          | nil => rw [List.append_nil] at hw1; exact absurd hw1 hmem
          | cons y r => exact ⟨y, by rw [List.getElem?_append_right (Nat.le_refl _)]; simp⟩
        obtain ⟨dx, ho1⟩ := Z1.obj
        have few1 : (onlyBy ws t).length ≤ 100 := Nat.le_trans (List.length_filter_le _ _) ok.few
        -- the next signs
        have nextsF : ((onlyBy ws t).map txV).flatMap (chF t.length) = sgV (nexts ws t) := by
          unfold nexts sgV
          rw [List.flatMap_map, List.map_map]
          have : ∀ l : List Tafl.Bytes, (∀ w ∈ l, ∃ y, w[t.length]? = some y) → l.flatMap (fun w => chF t.length (txV w)) = l.map ((fun (c : Nat) => V.str ⟨#[c]⟩) ∘ fun w => (w.getD t.length 0).toNat) := by
            intro l
            induction l with
            | nil => intro _; rfl
            | cons w r ih =>
              intro h
              obtain ⟨y, hy⟩ := h w List.mem_cons_self
              rw [List.flatMap_cons, ih fun w hw => h w (List.mem_cons_of_mem _ hw), List.map_cons]
              have e1 : chF t.length (txV w) = [V.str ⟨#[y.toNat]⟩] := chF_at hy
              rw [e1]
              show [V.str ⟨#[y.toNat]⟩] ++ _ = V.str ⟨#[(w.getD t.length 0).toNat]⟩ :: _
              rw [List.getD_eq_getElem?_getD, hy]
              rfl
          exact this _ long
        refine ⟨_, rfl, _, rfl, a, dx, _, rfl, ho1, rdF_none Z1.ex, ?_⟩
        refine ⟨_, rfl, lf, rfl, ⟨_, SqL.of hl1⟩, fun D nD => lcS wv_list nD (fun H2 s2 => s2.seq (SqL.of hl1)) (chF t.length) (fun i y ys H2 Nx hy s2 d2 _ lt hN _ => ?_) ?_ fun H2 s2 d2 => ?_⟩
        · obtain ⟨w, hw, rfl⟩ := List.mem_map.mp (List.mem_of_getElem? hy)
          obtain ⟨c, hc⟩ := long w hw
          refine ⟨rfl, _, rfl, _, rfl, _, _, rfl, ⟨?_, rfl⟩, strOf w, ((strOf t).length : Int), c.toNat, rfl, rfl, ?_, ?_, ys, d2, lt, hN _ _ (chF_at hc) (same_put s2 nD) upd_same⟩
          · rw [strOf_len]; exact smallE (by omega)
          · rw [strOf_len]; exact smallE (Nat.le_trans (ok.short w (List.mem_filter.mp hw).1) (by omega))
          · rw [strOf_len]
            refine atI_nat ?_
            show (w.map UInt8.toNat).toArray.toList[t.length]? = _
            rw [List.toList_toArray, List.getElem?_map, hc]
            rfl
        · rw [nextsF]
          unfold sgV nexts
          rw [List.length_map, List.length_map]
          exact small (by omega)
        · rw [nextsF] at d2
          refine ⟨a, S, n + t.length, .ref D, nexts ws t, rfl, Z1.same s2, .inr ⟨D, rfl, SqL.of d2⟩, ?_, fun x H3 hx hc k3 Z3 => ?_, fun hF => ?_⟩
          · unfold nexts
            rw [List.length_map]
            omega
          · -- one goes on
            have hgo : ∃ w ∈ ws, (t ++ [x]) <+: w := (nexts_has long).mp hc
            have hl3 : H3 lf = some (.lst ((onlyBy ws t).map txV)) := k3.keep _ _ (s2 _ _ hl1) (ne_of hl1 ho1 (by intro z; cases z))
            have k13 : Kp (· = a) H H3 := (k1.trans (Kp.of s2)).trans k3
            refine ⟨_, _, rfl, rfl, ?_, ?_⟩
            · rw [strOf_len]
              show t.length + 1 ≤ sizeLine
              exact smallE (by omega)
            rw [strOf_snoc]
            refine ⟨_, rfl, lf, rfl, ⟨_, SqL.of hl3⟩, fun D2 nD2 => lcS wv_list nD2 (fun H4 s4 => s4.seq (SqL.of hl3)) (goF (t ++ [x])) (fun i y ys H4 Nx hy s4 d4 _ lt hN hN0 => ?_) ?_ fun H4 s4 d4 => ?_⟩
            · obtain ⟨w, hw, rfl⟩ := List.mem_map.mp (List.mem_of_getElem? hy)
              refine ⟨rfl, _, rfl, _, rfl, .str (strOf (t ++ [x])), _, rfl, ⟨?_, rfl⟩, _, rfl, strOf w, rfl, ?_, _, rfl, rfl, _, rfl, ?_⟩
              · rw [strOf_len, List.length_append]; exact smallE (by show t.length + 1 ≤ _; omega)
              · rw [strOf_len]; exact smallE (Nat.le_trans (ok.short w (List.mem_filter.mp hw).1) (by omega))
              rw [strOf_len, cut_take]
              by_cases hg : decide (V.str (strOf (w.take (t ++ [x]).length)) = V.str (strOf (t ++ [x]))) = true
              · exact if_t hg ⟨_, rfl, ys, d4, lt, hN _ _ (if_pos (take_pre.mp hg)) (same_put s4 nD2) upd_same⟩
              · exact if_f (Bool.eq_false_iff.mpr hg) (hN0 _ (if_neg fun z => hg (take_pre.mpr z)) s4 d4)
            · rw [goF_list]
              exact small (by rw [List.length_map]; exact Nat.le_trans (List.length_filter_le _ _) (by omega))
            · rw [goF_list, only_only] at d4
              refine ⟨m, Nat.lt_succ_self m, t ++ [x], D2, _, ?_, rfl, k13.trans (Kp.of s4), ?_, d4, ?_, hgo⟩
              · rw [List.length_append, List.length_singleton]; omega
              · rw [List.length_append, List.length_singleton, ← Nat.add_assoc]
                exact Z3.same s4
              · rw [ho, TfP.oneOf_go hfind (by rw [cur_next]; exact hx) (TfP.after_mem.mpr hgo), cur_on, List.length_append, List.length_singleton, ← Nat.add_assoc]
          · -- none goes on
            refine (qF (n + t.length) ?_).up (k1.trans (Kp.of s2)) fun _ z => z
            rw [ho]
            cases hx : S.bs[n + t.length]? with
            | none => exact TfP.oneOf_end hfind (by rw [cur_next]; exact hx)
            | some x =>
              refine TfP.oneOf_no hfind (by rw [cur_next]; exact hx) ?_
              cases he : TfP.after (TfP.labs 0 ws) (t ++ [x]) with
              | nil => rfl
              | cons v r =>
                have : TfP.after (TfP.labs 0 ws) (t ++ [x]) ≠ [] := by rw [he]; simp
                have hc := (nexts_has long).mpr (TfP.after_mem.mp this)
                unfold oneIn at hF
                rw [hx] at hF
                have hF' : (nexts ws t).contains x.toNat = false := hF
                rw [hc] at hF'
                cases hF'
end
end Tf

set_option maxRecDepth 100000
set_option maxHeartbeats 4000000
/-! # The reader: numbers, names -/
namespace TfP
open Tafl Tf
theorem size_no {bs : Bytes} {n : Nat} (h : ∀ x, bs[n]? = some x → ¬ (x.toNat = 49 ∨ (53 ≤ x.toNat ∧ x.toNat ≤ 57))) : number 5 13 (cur bs n) = .error n := by
  unfold number
  cases e : bs[n]? with
  | none =>
    rw [numFrom_none (by rw [cur_next]; exact e), if_neg (by omega)]
    rfl
  | some x =>
    have hx := h x e
    rw [numFrom_some (by rw [cur_next]; exact e), if_neg ?_, if_neg (by omega)]
    · rfl
    · rintro ⟨hd, h0, hb⟩
      have hd' := (isDigit_iff x).mp hd
      have := (begins_13 (10 * 0 + (x.toNat - 48)) (by omega)).mp ⟨h0, hb⟩
      omega
theorem size_one {bs : Bytes} {n : Nat} {x : UInt8} (e : bs[n]? = some x) (h : 53 ≤ x.toNat ∧ x.toNat ≤ 57) : number 5 13 (cur bs n) = .ok (x.toNat - 48, cur bs (n + 1)) := by
  unfold number
  rw [numFrom_some (by rw [cur_next]; exact e), if_pos ?_, cur_on]
  · have e0 : 10 * 0 + (x.toNat - 48) = x.toNat - 48 := by omega
    rw [e0]
    cases e2 : bs[n + 1]? with
    | none => rw [numFrom_none (by rw [cur_next]; exact e2), if_pos (by omega)]
    | some y =>
      rw [numFrom_some (by rw [cur_next]; exact e2), if_neg ?_, if_pos (by omega)]
      rintro ⟨_, _, hb⟩
      rw [begins_no _ (by omega)] at hb
      cases hb
  · have hd : isDigit x = true := (isDigit_iff x).mpr (by omega)
    exact ⟨hd, (begins_13 (10 * 0 + (x.toNat - 48)) (by omega)).mpr (by omega)⟩
theorem size_two {bs : Bytes} {n : Nat} {x : UInt8} (e : bs[n]? = some x) (h : x.toNat = 49) : number 5 13 (cur bs n) = numberFrom 5 13 5 1 (cur bs (n + 1)) := by
  unfold number
  rw [numFrom_some (by rw [cur_next]; exact e), if_pos ?_, cur_on]
  · have e0 : 10 * 0 + (x.toNat - 48) = 1 := by omega
    rw [e0]
  · have hd : isDigit x = true := (isDigit_iff x).mpr (by omega)
    exact ⟨hd, (begins_13 (10 * 0 + (x.toNat - 48)) (by omega)).mpr (by omega)⟩
theorem size_two_ok {bs : Bytes} {n : Nat} {y : UInt8} (e : bs[n]? = some y) (h : 48 ≤ y.toNat ∧ y.toNat ≤ 51) : numberFrom 5 13 5 1 (cur bs n) = .ok (10 + (y.toNat - 48), cur bs (n + 1)) := by
  rw [numFrom_some (by rw [cur_next]; exact e), if_pos ?_, cur_on]
  · have e0 : 10 * 1 + (y.toNat - 48) = 10 + (y.toNat - 48) := by omega
    rw [e0]
    cases e2 : bs[n + 1]? with
    | none => rw [numFrom_none (by rw [cur_next]; exact e2), if_pos (by omega)]
    | some z =>
      rw [numFrom_some (by rw [cur_next]; exact e2), if_neg ?_, if_pos (by omega)]
      rintro ⟨_, _, hb⟩
      rw [begins_no _ (by omega)] at hb
      cases hb
  · have hd : isDigit y = true := (isDigit_iff y).mpr (by omega)
    exact ⟨hd, by omega, (begins_13b (y.toNat - 48) (by omega)).mpr (by omega)⟩
theorem size_two_no {bs : Bytes} {n : Nat} (h : ∀ y, bs[n]? = some y → ¬ (48 ≤ y.toNat ∧ y.toNat ≤ 51)) : numberFrom 5 13 5 1 (cur bs n) = .error n := by
  cases e : bs[n]? with
  | none =>
    rw [numFrom_none (by rw [cur_next]; exact e), if_neg (by omega)]
    rfl
  | some y =>
    have hy := h y e
    rw [numFrom_some (by rw [cur_next]; exact e), if_neg ?_, if_neg (by omega)]
    · rfl
    · rintro ⟨hd, h0, hb⟩
      have hd' := (isDigit_iff y).mp hd
      have := (begins_13b (y.toNat - 48) (by omega)).mp hb
      omega
end TfP
namespace Tf
open PySem PySem.Spec PyProof.Rows L2
theorem digit_text : ∀ c : Nat, 48 ≤ c → c ≤ 57 → PySem.intText? ⟨#[c]⟩ = some ((c - 48 : Nat) : Int) := by
  intro c h1 h2
  have : c = 48 ∨ c = 49 ∨ c = 50 ∨ c = 51 ∨ c = 52 ∨ c = 53 ∨ c = 54 ∨ c = 55 ∨ c = 56 ∨ c = 57 := by omega
  rcases this with rfl | rfl | rfl | rfl | rfl | rfl | rfl | rfl | rfl | rfl <;> decide +kernel
theorem oneIn_of {bs : Tafl.Bytes} {n : Nat} {cs : List Nat} {x : UInt8} (h : bs[n]? = some x) (hc : cs.contains x.toNat = true) : oneIn bs n cs = true := by
  unfold oneIn
  rw [h]
  exact hc
theorem oneIn_yes {bs : Tafl.Bytes} {n : Nat} {cs : List Nat} (h : oneIn bs n cs = true) : ∃ x, bs[n]? = some x ∧ cs.contains x.toNat = true := by
  unfold oneIn at h
  cases e : bs[n]? with
  | none => rw [e] at h; cases h
  | some x => rw [e] at h; exact ⟨x, rfl, h⟩
theorem sizes_mem (x : Nat) : [49, 53, 54, 55, 56, 57].contains x = true ↔ x = 49 ∨ (53 ≤ x ∧ x ≤ 57) := by
  rw [List.contains_iff_mem]
  simp only [List.mem_cons, List.not_mem_nil, or_false]
  omega
theorem d03_mem (x : Nat) : [48, 49, 50, 51].contains x = true ↔ 48 ≤ x ∧ x ≤ 51 := by
  rw [List.contains_iff_mem]
  simp only [List.mem_cons, List.not_mem_nil, or_false]
  omega
section
variable {P : Program} {w : World} {K : PySem.W.Frag} {mg : Str → Option Value} {base : Heap} {A : Adr}
def sp_size (K : PySem.W.Frag) (A : Adr) : Sp := fun vs H Q E => ∃ a S n, vs = [.ref a] ∧ RdAt K A H a S n ∧
  (∀ v n' H', Tafl.number 5 13 (cur S.bs n) = .ok (v, cur S.bs n') → 5 ≤ v → v ≤ 13 → Kp (· = a) H H' → RdAt K A H' a S n' → Q (.int (v : Nat)) H') ∧ (∀ p, Tafl.number 5 13 (cur S.bs n) = .error p → EF A (· = a) H E 1 p)
theorem ok_Bytes_size (T : Txt K mg A) : FnOk P w K mg base (L2N.CX P w) 5 A.f_Bytes_size A.d_Bytes_size ["self"] (sp_size K A) := by
  refine okG T.F_Bytes_size sc_Bytes_size (fun vs H Q E h => ?_) (fun cdv B outer s H vs Q E hr h => ?_)
  · obtain ⟨a, S, n, rfl, _⟩ := h
    rfl
  · obtain ⟨a, S, n, rfl, Z, qT, qF⟩ := h
    have R := Z.rd
    obtain ⟨dx, ho⟩ := Z.obj
    have e1 : Str.ofString "156789" = ⟨[49, 53, 54, 55, 56, 57].toArray⟩ := by decide +kernel
    have e2 : Str.ofString "0123" = ⟨[48, 49, 50, 51].toArray⟩ := by decide +kernel
    have e3 : Str.ofString "1" = ⟨#[49]⟩ := by decide +kernel
    refine ⟨_, (pss_cons (ps_set (i := 1) sc_Bytes_size.nd rfl (by first | exact .inl rfl | exact .inr rfl) (pe_meth (pv 0) R.cl R.m_take (ok_Bytes_take T) (hr.mono (by decide)) T.b_Bytes_take .nil (pxN (L2N.takes_of rfl rfl rfl rfl)) (pa_cons pe_str pa_nil)))
  (pss_cons (ps_if (pt_cmpR op_eq (pv 1) pe_str (nomark _)) (pss_one (ps_ret (pe_op op_add pe_int (pe_callTy call_int_str (by rfl) T.n_int (by decide +kernel) (pa_cons (pe_meth (pv 0) R.cl R.m_take (ok_Bytes_take T) (hr.mono (by decide)) T.b_Bytes_take .nil (pxN (L2N.takes_of rfl rfl rfl rfl)) (pa_cons pe_str pa_nil)) pa_nil))))) pss_nil)
  (pss_one (ps_ret (pe_callTy call_int_str (by rfl) T.n_int (by decide +kernel) (pa_cons (pv 1) pa_nil)))))), ?_⟩
    rw [e1, e2, e3]
    refine ⟨_, rfl, a, dx, _, rfl, ho, rdF_none Z.ex, a, S, n, _, [49, 53, 54, 55, 56, 57], rfl, Z, .inl rfl, (by decide), fun x H1 hx hc k1 Z1 => ?_, fun hF => ?_⟩
    · have hc' := (sizes_mem _).mp hc
      refine ⟨_, rfl, rfl, _, rfl, ?_⟩
      by_cases h1 : x.toNat = 49
      · refine if_t (decide_eq_true (by rw [h1])) ?_
        obtain ⟨dx, ho⟩ := Z1.obj
        refine ⟨_, rfl, a, dx, _, rfl, ho, rdF_none Z1.ex, a, S, n + 1, _, [48, 49, 50, 51], rfl, Z1, .inl rfl, (by decide), fun y H2 hy hd k2 Z2 => ?_, fun hF => ?_⟩
        · have hd' := (d03_mem _).mp hd
          refine ⟨_, _, rfl, digit_text _ (by omega) (by omega), (by show 1 ≤ 640; decide), _, _, rfl, rfl, ?_⟩
          have e : ((10 : Int) + ((y.toNat - 48 : Nat) : Int)) = ((10 + (y.toNat - 48) : Nat) : Int) := by omega
          have q := qT _ _ H2 ((TfP.size_two hx h1).trans (TfP.size_two_ok hy hd')) (by omega) (by omega) (k1.trans k2) Z2
          rw [← e] at q
          exact q
        · refine (qF (n + 1) ((TfP.size_two hx h1).trans (TfP.size_two_no fun y hy hh => ?_))).up k1 fun _ z => z
          rw [oneIn_of hy ((d03_mem _).mpr hh)] at hF
          cases hF
      · refine if_f (decide_eq_false fun z => ?_) ?_
        · injection z with z
          injection z with z
          have z2 := congrArg (fun q : Array Nat => q.toList) z
          have z3 : [x.toNat] = [49] := z2
          injection z3 with z4
          exact h1 z4
        · refine ⟨_, rfl, _, _, rfl, digit_text _ (by omega) (by omega), (by show 1 ≤ 640; decide), ?_⟩
          exact qT _ _ H1 (TfP.size_one hx (by omega)) (by omega) (by omega) k1 Z1
    · refine (qF n (TfP.size_no fun x hx hh => ?_)).up Kp.refl fun _ z => z
      rw [oneIn_of hx ((sizes_mem _).mpr hh)] at hF
      cases hF
def letB (b : Int) : Bool := (decide (65 ≤ b) && decide (b ≤ 90)) || (decide (97 ≤ b) && decide (b ≤ 122))
def sp_is_letter : Sp := fun vs H Q _ => ∃ b : Int, vs = [.int b] ∧ Q (.bl (letB b)) H
theorem ok_is_letter (T : Txt K mg A) : FnOk P w K mg base CX0 1 A.f_is_letter A.d_is_letter ["byte"] sp_is_letter := by
  refine T.F_is_letter.ok sc_is_letter (fun vs H Q E h => ?_) (fun cdv B outer s H vs Q E hr h => ?_)
  · obtain ⟨b, rfl, _⟩ := h
    rfl
  · obtain ⟨b, rfl, q⟩ := h
    refine ⟨_, (pss_one (ps_ret (pe_or (pe_chain op_le op_le pe_int (pv 0) pe_int) (pe_one (pe_chain op_le op_le pe_int (pv 0) pe_int))))), ?_⟩
    refine ⟨_, rfl, _, _, rfl, rfl, _, rfl, ?_⟩
    unfold letB at q
    have second : (decide (65 ≤ b) && decide (b ≤ 90)) = false → (tChain (rI0 fun i j => .bl (decide (i ≤ j))) (rI0 fun i j => .bl (decide (i ≤ j))) (tC (.int 97)) (tVar 0) (tC (.int 122))) [some (.int b)] H Q := fun h0 => by
      rw [h0, Bool.false_or] at q
      refine ⟨_, rfl, _, _, rfl, rfl, _, rfl, ?_⟩
      by_cases h3 : (97 : Int) ≤ b
      · rw [decide_eq_true h3, Bool.true_and] at q
        exact if_t (decide_eq_true h3) ⟨_, _, rfl, rfl, q⟩
      · rw [decide_eq_false h3, Bool.false_and] at q
        exact if_f (decide_eq_false h3) q
    by_cases h1 : (65 : Int) ≤ b
    · refine if_t (decide_eq_true h1) ⟨_, _, rfl, rfl, _, rfl, ?_⟩
      by_cases h2 : b ≤ (90 : Int)
      · rw [decide_eq_true h1, decide_eq_true h2] at q
        exact if_t (decide_eq_true h2) q
      · exact if_f (decide_eq_false h2) (second (by rw [decide_eq_true h1, decide_eq_false h2]; rfl))
    · refine if_f (decide_eq_false h1) ⟨_, rfl, ?_⟩
      exact second (by rw [decide_eq_false h1]; rfl)
/-! ### limit -/
theorem digs_mem (x : Nat) : [48, 49, 50, 51, 52, 53, 54, 55, 56, 57].contains x = true ↔ 48 ≤ x ∧ x ≤ 57 := by
  rw [List.contains_iff_mem]
  simp only [List.mem_cons, List.not_mem_nil, or_false]
  omega
theorem digs1_mem (x : Nat) : [49, 50, 51, 52, 53, 54, 55, 56, 57].contains x = true ↔ 49 ≤ x ∧ x ≤ 57 := by
  rw [List.contains_iff_mem]
  simp only [List.mem_cons, List.not_mem_nil, or_false]
  omega
def sp_limit (K : PySem.W.Frag) (A : Adr) : Sp := fun vs H Q E => ∃ a S n, vs = [.ref a] ∧ RdAt K A H a S n ∧
  (∀ v n' H', Tafl.number 1 60000 (cur S.bs n) = .ok (v, cur S.bs n') → Kp (· = a) H H' → RdAt K A H' a S n' → Q (.int (v : Nat)) H') ∧ (∀ p, Tafl.number 1 60000 (cur S.bs n) = .error p → EF A (· = a) H E 1 p)
open TfP in
theorem ok_Bytes_limit (T : Txt K mg A) : FnOk P w K mg base (L2N.CX P w) 5 A.f_Bytes_limit A.d_Bytes_limit ["self"] (sp_limit K A) := by
  refine okG T.F_Bytes_limit sc_Bytes_limit (fun vs H Q E h => ?_) (fun cdv B outer s H vs Q E hr h => ?_)
  · obtain ⟨a, S, n, rfl, _⟩ := h
    rfl
  · obtain ⟨a, S, n, rfl, Z, qT, qF⟩ := h
    have R := Z.rd
    obtain ⟨dx, ho⟩ := Z.obj
    have e1 : Str.ofString "123456789" = ⟨[49, 50, 51, 52, 53, 54, 55, 56, 57].toArray⟩ := by decide +kernel
    have e2 : Str.ofString "0123456789" = ⟨[48, 49, 50, 51, 52, 53, 54, 55, 56, 57].toArray⟩ := by decide +kernel
    refine ⟨_, (pss_cons (ps_set (i := 1) sc_Bytes_limit.nd rfl (by first | exact .inl rfl | exact .inr rfl) (pe_callTy call_int_str (by rfl) T.n_int (by decide +kernel) (pa_cons (pe_meth (pv 0) R.cl R.m_take (ok_Bytes_take T) (hr.mono (by decide)) T.b_Bytes_take .nil (pxN (L2N.takes_of rfl rfl rfl rfl)) (pa_cons pe_str pa_nil)) pa_nil)))
  (pss_cons (ps_while (L2.passes_of rfl) (PW.pt (pw_and (pt_val (pe_meth (pv 0) R.cl R.m_is_one_of (ok_Bytes_is_one_of T) (hr.mono (by decide)) T.b_Bytes_is_one_of .nil pass0 (pa_cons pe_str pa_nil))) (pw_and1 (pt_cmpR op_le (pe_op op_sub (pe_op op_add (pe_op op_mul pe_int (pv 1)) (pe_meth0 (pv 0) R.cl R.m_next_byte (ok_Bytes_next_byte T) (hr.mono (by decide)) T.b_Bytes_next_byte .nil pass0)) pe_int) (pe_gi T.g_MOST_LIMIT) (nomark _)))))
  (pss_one (ps_set (i := 1) sc_Bytes_limit.nd rfl (by first | exact .inl rfl | exact .inr rfl) (pe_op op_add (pe_op op_mul pe_int (pv 1)) (pe_callTy call_int_str (by rfl) T.n_int (by decide +kernel) (pa_cons (pe_meth (pv 0) R.cl R.m_take (ok_Bytes_take T) (hr.mono (by decide)) T.b_Bytes_take .nil (pxN (L2N.takes_of rfl rfl rfl rfl)) (pa_cons pe_str pa_nil)) pa_nil))))))
  (pss_one (ps_ret (pv 1))))), ?_⟩
    rw [e1, e2]
    refine ⟨_, rfl, a, dx, _, rfl, ho, rdF_none Z.ex, a, S, n, _, [49, 50, 51, 52, 53, 54, 55, 56, 57], rfl, Z, .inl rfl, (by decide), fun x H1 hx hc k1 Z1 => ?_, fun hF => ?_⟩
    · have hc' := (digs1_mem _).mp hc
      refine ⟨_, _, rfl, digit_text _ (by omega) (by omega), (by show 1 ≤ 640; decide), ?_⟩
      have st : Tafl.number 1 60000 (cur S.bs n) = Tafl.numberFrom 1 60000 5 (x.toNat - 48) (cur S.bs (n + 1)) := by
        unfold Tafl.number
        have e0 : 10 * 0 + (x.toNat - 48) = x.toNat - 48 := by omega
        rw [numFrom_some (by rw [cur_next]; exact hx), e0, if_pos ⟨(isDigit_iff x).mpr (by omega), by omega, by rw [begins_lim (by omega)]; exact decide_eq_true (by omega)⟩, cur_on]
      refine ⟨fun f σ H' => ∃ d n', 1 ≤ f ∧ f ≤ 5 ∧ 10 ^ (5 - f) ≤ d ∧ d ≤ 60000 ∧ σ = [some (.ref a), some (.int (d : Nat))] ∧ Kp (· = a) H H' ∧ RdAt K A H' a S n' ∧ Tafl.number 1 60000 (cur S.bs n) = Tafl.numberFrom 1 60000 f d (cur S.bs n'),
        ⟨5, x.toNat - 48, n + 1, by decide, by decide, by omega, by omega, rfl, k1, Z1, st⟩, fun f σ H2 hW => ?_⟩
      obtain ⟨d, n', f1, f5, lo, hi, rfl, k2, Z2, el⟩ := hW
      obtain ⟨f, rfl⟩ : ∃ g, f = g + 1 := ⟨f - 1, by omega⟩
      obtain ⟨dx2, ho2⟩ := Z2.obj
      have dpos : 0 < d := Nat.lt_of_lt_of_le (Nat.pow_pos (by decide)) lo
      -- where it stops
      have stop : (∀ y, S.bs[n']? = some y → 48 ≤ y.toNat → y.toNat ≤ 57 → ¬ 10 * d + (y.toNat - 48) ≤ 60000) → Tafl.number 1 60000 (cur S.bs n) = .ok (d, cur S.bs n') := fun hh => by
        rw [el]
        cases e : S.bs[n']? with
        | none => rw [numFrom_none (by rw [cur_next]; exact e), if_pos ⟨dpos, hi⟩]
        | some y =>
          rw [numFrom_some (by rw [cur_next]; exact e), if_neg ?_, if_pos ⟨dpos, hi⟩]
          rintro ⟨hd, h0, hb⟩
          have hd' := (isDigit_iff y).mp hd
          rw [begins_lim h0] at hb
          exact hh y e hd'.1 hd'.2 (of_decide_eq_true hb)
      refine ⟨_, rfl, a, dx2, _, rfl, ho2, rdF_none Z2.ex, a, S, n', _, [48, 49, 50, 51, 52, 53, 54, 55, 56, 57], rfl, Z2, .inl rfl, (by decide), fun H3 s3 => ⟨_, rfl, ?_⟩⟩
      by_cases h1 : oneIn S.bs n' [48, 49, 50, 51, 52, 53, 54, 55, 56, 57] = true
      · refine if_t h1 ?_
        obtain ⟨y, hy, hyc⟩ := oneIn_yes h1
        have hy' := (digs_mem _).mp hyc
        have ho3 := s3 _ _ ho2
        refine ⟨_, rfl, _, _, rfl, rfl, .inl ⟨by decide, by decide⟩, _, rfl, a, dx2, _, rfl, ho3, rdF_none Z2.ex, a, S, n', rfl, Z2.same s3, _, _, rfl, rfl, _, _, rfl, rfl, _, _, rfl, rfl, _, rfl, ?_⟩
        have en : nb S.bs n' = (y.toNat : Int) := nb_is.mpr hy
        rw [en]
        by_cases h2 : 10 * d + (y.toNat - 48) ≤ 60000
        · have ed : decide ((10 : Int) * (d : Nat) + (y.toNat : Nat) - 48 ≤ 60000) = true := decide_eq_true (by omega)
          refine if_t ed ?_
          have up5 : f ≠ 0 := by
            rintro rfl
            have : 10 ^ (5 - (0 + 1)) ≤ d := lo
            omega
          have step : Tafl.numberFrom 1 60000 (f + 1) d (cur S.bs n') = Tafl.numberFrom 1 60000 f (10 * d + (y.toNat - 48)) (cur S.bs (n' + 1)) := by
            rw [numFrom_some (by rw [cur_next]; exact hy), if_pos ⟨(isDigit_iff y).mpr (by omega), by omega, by rw [begins_lim (by omega)]; exact decide_eq_true h2⟩, cur_on]
          refine ⟨_, fun _ _ z => z, ?_⟩
          refine ⟨_, rfl, _, _, rfl, rfl, .inl ⟨by decide, by decide⟩, _, rfl, a, dx2, _, rfl, ho3, rdF_none Z2.ex, a, S, n', _, [48, 49, 50, 51, 52, 53, 54, 55, 56, 57], rfl, Z2.same s3, .inl rfl, (by decide), fun z H4 hz hzc k4 Z4 => ?_, fun hF => ?_⟩
          · rw [hy] at hz
            cases hz
            refine ⟨_, _, rfl, digit_text _ (by omega) (by omega), (by show 1 ≤ 640; decide), _, _, rfl, rfl, ?_⟩
            refine ⟨f, Nat.lt_succ_self f, 10 * d + (y.toNat - 48), n' + 1, by omega, by omega, ?_, h2, ?_, (k2.trans (Kp.of s3)).trans k4, Z4, el.trans step⟩
            · have e5 : 5 - f = (5 - (f + 1)) + 1 := by omega
              rw [e5, Nat.pow_succ]
              omega
            · have e10 : (10 : Int) * (d : Nat) + ((y.toNat - 48 : Nat) : Int) = ((10 * d + (y.toNat - 48) : Nat) : Int) := by omega
              rw [← e10]
              rfl
          · rw [h1] at hF
            cases hF
        · have ed : decide ((10 : Int) * (d : Nat) + (y.toNat : Nat) - 48 ≤ 60000) = false := decide_eq_false (by omega)
          refine if_f ed ⟨_, rfl, ?_⟩
          exact qT d n' _ (stop fun z hz _ _ => by rw [hy] at hz; cases hz; exact h2) (k2.trans (Kp.of s3)) (Z2.same s3)
      · refine if_f (Bool.eq_false_iff.mpr h1) ⟨_, rfl, ?_⟩
        exact qT d n' _ (stop fun z hz l1 l2 => absurd (oneIn_of hz ((digs_mem _).mpr ⟨l1, l2⟩)) h1) (k2.trans (Kp.of s3)) (Z2.same s3)
    · refine (qF n ?_).up Kp.refl fun _ z => z
      unfold Tafl.number
      cases e : S.bs[n]? with
      | none => rw [numFrom_none (by rw [cur_next]; exact e), if_neg (by omega)]; rfl
      | some x =>
        rw [numFrom_some (by rw [cur_next]; exact e), if_neg ?_, if_neg (by omega)]
        · rfl
        · rintro ⟨hd, h0, _⟩
          have hd' := (isDigit_iff x).mp hd
          rw [oneIn_of e ((digs1_mem _).mpr (by omega))] at hF
          cases hF
end
end Tf

set_option maxRecDepth 100000
set_option maxHeartbeats 4000000
/-! # The reader: names; the rules' object; rows -/
namespace TfP
open Tafl Tf
def nameP (y : UInt8) : Bool := isLetter y || isDigit y
theorem some_go {f n : Nat} {bs : Bytes} {x : UInt8} (h : bs[n]? = some x) (hp : nameP x = true) : (some_ nameP (f + 1) (cur bs n)).2 = (some_ nameP f (cur bs (n + 1))).2 := by
  rw [some_]
  have e : (cur bs n).next = some x := by rw [cur_next]; exact h
  rw [e]
  show (if nameP x = true then _ else _ : Bytes × Cur).2 = _
  rw [if_pos hp, cur_on]
theorem some_stop {f n : Nat} {bs : Bytes} (h : ∀ x, bs[n]? = some x → nameP x = false) : (some_ nameP f (cur bs n)).2 = cur bs n := by
  cases f with
  | zero => rw [some_]
  | succ f =>
    rw [some_]
    cases e : bs[n]? with
    | none =>
      have e' : (cur bs n).next = none := by rw [cur_next]; exact e
      rw [e']
    | some x =>
      have e' : (cur bs n).next = some x := by rw [cur_next]; exact e
      rw [e']
      show (if nameP x = true then _ else _ : Bytes × Cur).2 = _
      rw [if_neg (by rw [h x e]; exact Bool.false_ne_true)]
theorem nameIn_ok {n : Nat} {bs : Bytes} {x : UInt8} (h : bs[n]? = some x) (hl : isLetter x = true) : nameIn (cur bs n) = .ok (some_ nameP 16 (cur bs n)) := by
  unfold nameIn
  have e : (cur bs n).next = some x := by rw [cur_next]; exact h
  rw [e]
  show (if isLetter x = true then _ else _) = _
  rw [if_pos hl]
  rfl
theorem nameIn_no {n : Nat} {bs : Bytes} (h : ∀ x, bs[n]? = some x → isLetter x = false) : nameIn (cur bs n) = .error n := by
  unfold nameIn
  cases e : bs[n]? with
  | none =>
    have e' : (cur bs n).next = none := by rw [cur_next]; exact e
    rw [e']
    rfl
  | some x =>
    have e' : (cur bs n).next = some x := by rw [cur_next]; exact e
    rw [e']
    show (if isLetter x = true then _ else _) = _
    rw [if_neg (by rw [h x e]; exact Bool.false_ne_true)]
    rfl
end TfP
namespace Tf
open PySem PySem.Spec PyProof.Rows L2
theorem letB_eq (bs : Tafl.Bytes) (n : Nat) : letB (nb bs n) = (match bs[n]? with | some x => Tafl.isLetter x | none => false) := by
  unfold nb letB
  cases bs[n]? with
  | none => decide
  | some x =>
    rw [Bool.eq_iff_iff]
    show _ ↔ Tafl.isLetter x = true
    rw [TfP.isLetter_iff, Bool.or_eq_true, Bool.and_eq_true, Bool.and_eq_true, decide_eq_true_iff, decide_eq_true_iff, decide_eq_true_iff, decide_eq_true_iff]
    show ((65 ≤ (x.toNat : Int) ∧ (x.toNat : Int) ≤ 90) ∨ (97 ≤ (x.toNat : Int) ∧ (x.toNat : Int) ≤ 122)) ↔ _
    omega
section
variable {P : Program} {w : World} {K : PySem.W.Frag} {mg : Str → Option Value} {base : Heap} {A : Adr}
def sp_name (K : PySem.W.Frag) (A : Adr) : Sp := fun vs H Q E => ∃ a S n, vs = [.ref a] ∧ RdAt K A H a S n ∧
  (∀ v n' H', Tafl.nameIn (cur S.bs n) = .ok (v, cur S.bs n') → Kp (· = a) H H' → RdAt K A H' a S n' → Q .non H') ∧ (∀ p, Tafl.nameIn (cur S.bs n) = .error p → EF A (· = a) H E 1 p)
theorem ok_Bytes_name (T : Txt K mg A) : FnOk P w K mg base (L2N.CX P w) 5 A.f_Bytes_name A.d_Bytes_name ["self"] (sp_name K A) := by
  refine okG T.F_Bytes_name sc_Bytes_name (fun vs H Q E h => ?_) (fun cdv B outer s H vs Q E hr h => ?_)
  · obtain ⟨a, S, n, rfl, _⟩ := h
    rfl
  · obtain ⟨a, S, n, rfl, Z, qT, qF⟩ := h
    have R := Z.rd
    obtain ⟨dx, ho⟩ := Z.obj
    refine ⟨_, (pss_cons (ps_expr (pe_meth (pv 0) R.cl R.m_want (ok_Bytes_want T) (hr.mono (by decide)) T.b_Bytes_want .nil (pxN (L2N.takes_of rfl rfl rfl rfl)) (pa_cons (pe_call (ok_is_letter T) (hr.mono (by decide)) rfl T.g_is_letter T.F_is_letter.kp T.b_is_letter .nil pass0 (pa_cons (pe_meth0 (pv 0) R.cl R.m_next_byte (ok_Bytes_next_byte T) (hr.mono (by decide)) T.b_Bytes_next_byte .nil pass0) pa_nil)) pa_nil)))
  (pss_cons (ps_set (i := 1) sc_Bytes_name.nd rfl (by first | exact .inl rfl | exact .inr rfl) (pe_fld (pv 0) rfl))
  (pss_one (ps_while (L2.passes_of rfl) (PW.pt (pw_and (pt_cmpR op_lt (pe_op op_sub (pe_fld (pv 0) rfl) (pv 1)) (pe_gi T.g_MOST_NAME) (nomark _)) (pw_and1 (PW.pt (pw_or (pt_val (pe_call (ok_is_letter T) (hr.mono (by decide)) rfl T.g_is_letter T.F_is_letter.kp T.b_is_letter .nil pass0 (pa_cons (pe_meth0 (pv 0) R.cl R.m_next_byte (ok_Bytes_next_byte T) (hr.mono (by decide)) T.b_Bytes_next_byte .nil pass0) pa_nil))) (pw_or1 (pt_chain op_le op_le pe_int (pe_meth0 (pv 0) R.cl R.m_next_byte (ok_Bytes_next_byte T) (hr.mono (by decide)) T.b_Bytes_next_byte .nil pass0) pe_int)))))))
  (pss_one (ps_fld (pv 0) (pe_op op_add (pe_fld (pv 0) rfl) pe_int) rfl)))))), ?_⟩
    refine ⟨_, rfl, a, dx, _, rfl, ho, rdF_none Z.ex, _, rfl, a, dx, _, rfl, ho, rdF_none Z.ex, a, S, n, rfl, Z, _, rfl, a, S, n, _, rfl, Z, fun hT => ?_, fun hF => ?_⟩
    · rw [letB_eq] at hT
      obtain ⟨x, hx, hl⟩ : ∃ x, S.bs[n]? = some x ∧ Tafl.isLetter x = true := by
        cases e : S.bs[n]? with
        | none => rw [e] at hT; cases hT
        | some x => rw [e] at hT; exact ⟨x, rfl, hT⟩
      have st := TfP.nameIn_ok hx hl
      refine ⟨_, rfl, a, S.C, dx, _, _, rfl, ho, R.cl, R.n_at, rdF_at _ _ _, ?_⟩
      refine ⟨fun f σ H' => ∃ n', n' + f = n + 16 ∧ n ≤ n' ∧ σ = [some (.ref a), some (.int (n : Nat))] ∧ Kp (· = a) H H' ∧ RdAt K A H' a S n' ∧ (Tafl.some_ TfP.nameP 16 (cur S.bs n)).2 = (Tafl.some_ TfP.nameP f (cur S.bs n')).2,
        ⟨16, n, rfl, Nat.le_refl _, rfl, Kp.refl, Z, rfl⟩, fun f σ H2 hW => ?_⟩
      obtain ⟨n', hf, hle, rfl, k2, Z2, el⟩ := hW
      obtain ⟨dx2, ho2⟩ := Z2.obj
      have leave : (Tafl.some_ TfP.nameP f (cur S.bs n')).2 = cur S.bs n' → Q .non H2 := fun e => by
        refine qT (Tafl.some_ TfP.nameP 16 (cur S.bs n)).1 n' H2 ?_ k2 Z2
        rw [st, ← e, ← el]
      refine ⟨_, rfl, a, S.C, dx2, _, _, rfl, ho2, R.cl, R.n_at, rdF_at _ _ _, _, rfl, _, _, rfl, rfl, _, _, rfl, rfl, _, rfl, ?_⟩
      by_cases h16 : f = 0
      · subst h16
        refine if_f (decide_eq_false (by omega)) (leave ?_)
        rw [Tafl.some_]
      · obtain ⟨f, rfl⟩ : ∃ g, f = g + 1 := ⟨f - 1, by omega⟩
        refine if_t (decide_eq_true (by omega)) ?_
        -- the body, where the sign goes on
        have go : ∀ y, S.bs[n']? = some y → TfP.nameP y = true → ∃ N : L2.St → Hp → Prop, (∀ σ' H', N σ' H' → ∃ m', m' < f + 1 ∧ (fun f σ H' => ∃ n', n' + f = n + 16 ∧ n ≤ n' ∧ σ = [some (.ref a), some (.int (n : Nat))] ∧ Kp (· = a) H H' ∧ RdAt K A H' a S n' ∧ (Tafl.some_ TfP.nameP 16 (cur S.bs n)).2 = (Tafl.some_ TfP.nameP f (cur S.bs n')).2) m' σ' H') ∧
            (sFld K (tVar 0) (tOp (rI0 fun i j => .int (i + j)) (tFld K (tVar 0) "at") (tC (.int 1))) "at") { nx := N, rt := Q, bk := fun _ H' => Q .non H', ct := N } [some (.ref a), some (.int (n : Nat))] H2 := fun y hy hp => by
          have lt : n' < S.bs.length := (List.getElem?_eq_some_iff.mp hy).1
          refine ⟨_, fun _ _ z => z, _, rfl, a, S.C, dx2, _, _, rfl, ho2, R.cl, R.n_at, rdF_at _ _ _, _, _, rfl, rfl, _, rfl, a, S.C, dx2, _, rfl, ho2, R.cl, R.n_at, rdF_few Z.ex, ?_⟩
          have e : ((n' : Int) + 1) = ((n' + 1 : Nat) : Int) := by omega
          refine ⟨f, Nat.lt_succ_self f, n' + 1, by omega, by omega, rfl, k2.trans (Kp.upd rfl), ?_, ?_⟩
          · have := Z2.put (k := n' + 1) (by omega) ho2 (Same.refl _)
            rw [← e] at this
            exact this
          · rw [el]; exact TfP.some_go hy hp
        have stop : (∀ y, S.bs[n']? = some y → TfP.nameP y = false) → Q .non H2 := fun hh => leave (TfP.some_stop hh)
        refine ⟨_, rfl, a, dx2, _, rfl, ho2, rdF_none Z2.ex, a, S, n', rfl, Z2, _, rfl, _, rfl, ?_⟩
        by_cases hL : letB (nb S.bs n') = true
        · refine if_t hL ?_
          rw [letB_eq] at hL
          cases e : S.bs[n']? with
          | none => rw [e] at hL; cases hL
          | some y =>
            rw [e] at hL
            have hL' : Tafl.isLetter y = true := hL
            exact go y e (by unfold TfP.nameP; rw [hL']; rfl)
        · refine if_f (Bool.eq_false_iff.mpr hL) ?_
          rw [letB_eq] at hL
          refine ⟨_, rfl, a, dx2, _, rfl, ho2, rdF_none Z2.ex, a, S, n', rfl, Z2, _, _, rfl, rfl, _, rfl, ?_⟩
          cases e : S.bs[n']? with
          | none =>
            have en : nb S.bs n' = -1 := by unfold nb; rw [e]
            rw [en]
            exact if_f rfl ⟨_, rfl, stop fun y hy => by rw [e] at hy; cases hy⟩
          | some y =>
            rw [e] at hL
            have hL' : Tafl.isLetter y = false := Bool.eq_false_iff.mpr hL
            have en : nb S.bs n' = (y.toNat : Int) := nb_is.mpr e
            rw [en]
            by_cases h1 : 48 ≤ y.toNat
            · refine if_t (decide_eq_true (by omega)) ⟨_, _, rfl, rfl, _, rfl, ?_⟩
              by_cases h2 : y.toNat ≤ 57
              · refine if_t (decide_eq_true (by omega)) (go y e ?_)
                unfold TfP.nameP
                rw [(TfP.isDigit_iff y).mpr ⟨h1, h2⟩, Bool.or_true]
              · refine if_f (decide_eq_false (by omega)) (stop fun z hz => ?_)
                rw [e] at hz; cases hz
                unfold TfP.nameP
                rw [hL', Bool.false_or]
                exact Bool.eq_false_iff.mpr fun q => h2 ((TfP.isDigit_iff y).mp q).2
            · refine if_f (decide_eq_false (by omega)) ⟨_, rfl, stop fun z hz => ?_⟩
              rw [e] at hz; cases hz
              unfold TfP.nameP
              rw [hL', Bool.false_or]
              exact Bool.eq_false_iff.mpr fun q => h1 ((TfP.isDigit_iff y).mp q).1
    · rw [letB_eq] at hF
      refine (qF n (TfP.nameIn_no fun x hx => ?_)).up Kp.refl fun _ z => z.elim
      rw [hx] at hF
      exact hF
end
end Tf

set_option maxRecDepth 100000
set_option maxHeartbeats 4000000
/-! # The rules' object -/
namespace Tf
open PySem PySem.Spec PyProof.Rows L2
structure RF where
  wide : Nat
  high : Nat
  first : Bool
  slides : Bool
  armed : Bool
  four : Bool
  passed : Bool
  se : Nat
  xe : Nat
  goalX : Bool
  goalP : Nat
  seat : Int
  ex : Addr
  wl : Addr
  gr : Addr
  st : Addr
def ruF (f : RF) : List (Str × V) := [("wide", .int ((f.wide : Nat) : Int)), ("high", .int ((f.high : Nat) : Int)), ("is_king_first", .bl f.first), ("slides", .bl f.slides), ("armed", .bl f.armed), ("four", .bl f.four), ("passed", .bl f.passed), ("seat_enmity", .int ((f.se : Nat) : Int)), ("exit_enmity", .int ((f.xe : Nat) : Int)), ("is_goal_exits", .bl f.goalX), ("goal_place", .int ((f.goalP : Nat) : Int)), ("seat", .int f.seat), ("exits", .ref f.ex), ("walls", .ref f.wl), ("ground", .ref f.gr), ("start", .ref f.st)]
theorem ru_wide (f : RF) : (ruF f).lookup ("wide" : Str) = some (.int ((f.wide : Nat) : Int)) := by kernel_rfl
theorem rp_wide (f : RF) (x : Nat) : putF "wide" (.int ((x : Nat) : Int)) (ruF f) = ruF { f with wide := x } := by kernel_rfl
theorem ru_high (f : RF) : (ruF f).lookup ("high" : Str) = some (.int ((f.high : Nat) : Int)) := by kernel_rfl
theorem rp_high (f : RF) (x : Nat) : putF "high" (.int ((x : Nat) : Int)) (ruF f) = ruF { f with high := x } := by kernel_rfl
theorem ru_is_king_first (f : RF) : (ruF f).lookup ("is_king_first" : Str) = some (.bl f.first) := by kernel_rfl
theorem rp_is_king_first (f : RF) (x : Bool) : putF "is_king_first" (.bl x) (ruF f) = ruF { f with first := x } := by kernel_rfl
theorem ru_slides (f : RF) : (ruF f).lookup ("slides" : Str) = some (.bl f.slides) := by kernel_rfl
theorem rp_slides (f : RF) (x : Bool) : putF "slides" (.bl x) (ruF f) = ruF { f with slides := x } := by kernel_rfl
theorem ru_armed (f : RF) : (ruF f).lookup ("armed" : Str) = some (.bl f.armed) := by kernel_rfl
theorem rp_armed (f : RF) (x : Bool) : putF "armed" (.bl x) (ruF f) = ruF { f with armed := x } := by kernel_rfl
theorem ru_four (f : RF) : (ruF f).lookup ("four" : Str) = some (.bl f.four) := by kernel_rfl
theorem rp_four (f : RF) (x : Bool) : putF "four" (.bl x) (ruF f) = ruF { f with four := x } := by kernel_rfl
theorem ru_passed (f : RF) : (ruF f).lookup ("passed" : Str) = some (.bl f.passed) := by kernel_rfl
theorem rp_passed (f : RF) (x : Bool) : putF "passed" (.bl x) (ruF f) = ruF { f with passed := x } := by kernel_rfl
theorem ru_seat_enmity (f : RF) : (ruF f).lookup ("seat_enmity" : Str) = some (.int ((f.se : Nat) : Int)) := by kernel_rfl
theorem rp_seat_enmity (f : RF) (x : Nat) : putF "seat_enmity" (.int ((x : Nat) : Int)) (ruF f) = ruF { f with se := x } := by kernel_rfl
theorem ru_exit_enmity (f : RF) : (ruF f).lookup ("exit_enmity" : Str) = some (.int ((f.xe : Nat) : Int)) := by kernel_rfl
theorem rp_exit_enmity (f : RF) (x : Nat) : putF "exit_enmity" (.int ((x : Nat) : Int)) (ruF f) = ruF { f with xe := x } := by kernel_rfl
theorem ru_is_goal_exits (f : RF) : (ruF f).lookup ("is_goal_exits" : Str) = some (.bl f.goalX) := by kernel_rfl
theorem rp_is_goal_exits (f : RF) (x : Bool) : putF "is_goal_exits" (.bl x) (ruF f) = ruF { f with goalX := x } := by kernel_rfl
theorem ru_goal_place (f : RF) : (ruF f).lookup ("goal_place" : Str) = some (.int ((f.goalP : Nat) : Int)) := by kernel_rfl
theorem rp_goal_place (f : RF) (x : Nat) : putF "goal_place" (.int ((x : Nat) : Int)) (ruF f) = ruF { f with goalP := x } := by kernel_rfl
theorem ru_seat (f : RF) : (ruF f).lookup ("seat" : Str) = some (.int f.seat) := by kernel_rfl
theorem rp_seat (f : RF) (x : Int) : putF "seat" (.int x) (ruF f) = ruF { f with seat := x } := by kernel_rfl
theorem ru_exits (f : RF) : (ruF f).lookup ("exits" : Str) = some (.ref f.ex) := by kernel_rfl
theorem rp_exits (f : RF) (x : Addr) : putF "exits" (.ref x) (ruF f) = ruF { f with ex := x } := by kernel_rfl
theorem ru_walls (f : RF) : (ruF f).lookup ("walls" : Str) = some (.ref f.wl) := by kernel_rfl
theorem rp_walls (f : RF) (x : Addr) : putF "walls" (.ref x) (ruF f) = ruF { f with wl := x } := by kernel_rfl
theorem ru_ground (f : RF) : (ruF f).lookup ("ground" : Str) = some (.ref f.gr) := by kernel_rfl
theorem rp_ground (f : RF) (x : Addr) : putF "ground" (.ref x) (ruF f) = ruF { f with gr := x } := by kernel_rfl
theorem ru_start (f : RF) : (ruF f).lookup ("start" : Str) = some (.ref f.st) := by kernel_rfl
theorem rp_start (f : RF) (x : Addr) : putF "start" (.ref x) (ruF f) = ruF { f with st := x } := by kernel_rfl
theorem ru_m_is_edge (f : RF) : (ruF f).lookup ("is_edge" : Str) = none := by kernel_rfl
theorem ru_m_is_goal (f : RF) : (ruF f).lookup ("is_goal" : Str) = none := by kernel_rfl
theorem ru_m_has (f : RF) : (ruF f).lookup ("has" : Str) = none := by kernel_rfl
theorem ru_m_may_stand (f : RF) : (ruF f).lookup ("may_stand" : Str) = none := by kernel_rfl
theorem ru_m_settle (f : RF) : (ruF f).lookup ("settle" : Str) = none := by kernel_rfl
theorem putF_len (g : Str) (v : V) (fs : List (Str × V)) : (putF g v fs).length ≤ fs.length + 1 := by
  induction fs with
  | nil => exact Nat.le_refl _
  | cons x r ih =>
    obtain ⟨k, y⟩ := x
    by_cases h : k = g
    · rw [h, put_here]; exact Nat.le_succ _
    · rw [put_past h]; exact Nat.succ_le_succ ih
theorem pl {g : Str} {v : V} {fs : List (Str × V)} {n : Nat} (h : fs.length < n) : (putF g v fs).length < n + 1 := Nat.lt_of_le_of_lt (putF_len g v fs) (by omega)
theorem pl9 {fs : List (Str × V)} {n : Nat} (h : fs.length < n) (hn : n ≤ 1000 := by decide) : fs.length < 1000 := Nat.lt_of_lt_of_le h hn
theorem ruF_few (f : RF) : (ruF f).length < 1000 := by show 16 < 1000; decide
/-- a dict whose keys are the cells of p -/
def DkAt (H : Hp) (d : Addr) (n : Nat) (p : Int → Bool) : Prop := ∃ kvs : List (Key × V), H d = some (.dK kvs) ∧ kvs.length ≤ n ∧ (∀ i, (valV kvs (.inl i)).isSome = p i) ∧ (kvs.isEmpty = true ∨ ∃ i, p i = true)
theorem DkAt.get {H : Hp} {d : Addr} {n : Nat} {p : Int → Bool} (h : DkAt H d n p) (i : Int) : ∃ o, DGet H d (.int i) o ∧ o.isSome = p i := by
  obtain ⟨kvs, e, _, hp, _⟩ := h
  exact ⟨_, DGet.k (k := .inl i) e, hp i⟩
theorem DkAt.same {H H' : Hp} {d : Addr} {n : Nat} {p : Int → Bool} (h : DkAt H d n p) (s : Same H H') : DkAt H' d n p := by
  obtain ⟨kvs, e, r⟩ := h
  exact ⟨kvs, s _ _ e, r⟩
theorem DkAt.nil {H : Hp} {d : Addr} (h : H d = some (.dK [])) : DkAt H d 0 fun _ => false := ⟨[], h, Nat.le_refl _, fun _ => rfl, .inl rfl⟩
theorem DkAt.put {H : Hp} {d : Addr} {n : Nat} {p : Int → Bool} (h : DkAt H d n p) (hn : n ≤ 1000) (i : Int) (v : V) : ∃ H', DPut H d (.int i) v H' ∧ DkAt H' d (n + 1) (fun j => p j || decide (j = i)) ∧ Kp (· = d) H H' ∧ (∀ b, b ≠ d → H' b = H b) := by
  obtain ⟨kvs, e, hl, hp, _⟩ := h
  refine ⟨_, DPut.k (k := .inl i) e (small (by omega)), ⟨_, upd_same, Nat.le_trans (length_putK _ _ _) (by omega), fun j => ?_, .inr ⟨i, by simp⟩⟩, Kp.upd rfl, fun b hb => upd_ne hb⟩
  rw [valV_put]
  show _ = (p j || decide (j = i))
  rw [← hp j]
  by_cases hj : j = i
  · subst hj; rw [if_pos rfl]; simp
  · rw [if_neg (fun z => hj (Sum.inl.inj z))]; simp [hj]
section
variable (A : Adr)
structure RuAt (H : Hp) (a : Addr) (f : RF) (pe pw : Int → Bool) : Prop where
  obj : ∃ dx, H a = some (.ins A.c_Rules dx (ruF f))
  de : DkAt H f.ex 200 pe
  dw : DkAt H f.wl 200 pw
end
theorem DkAt.mono {H : Hp} {d : Addr} {n m : Nat} {p : Int → Bool} (h : DkAt H d n p) (hn : n ≤ m) : DkAt H d m p := by
  obtain ⟨kvs, e, hl, r⟩ := h
  exact ⟨kvs, e, Nat.le_trans hl hn, r⟩
theorem RuAt.same {A : Adr} {H H' : Hp} {a : Addr} {f : RF} {pe pw : Int → Bool} (h : RuAt A H a f pe pw) (s : Same H H') : RuAt A H' a f pe pw := by
  obtain ⟨⟨dx, h1⟩, h2, h3⟩ := h
  exact ⟨⟨dx, s _ _ h1⟩, h2.same s, h3.same s⟩
theorem step_new {H : Hp} {p q C dx : Addr} {fs fs' : List (Str × V)} {o : HO} (hp : H p = some (.ins C dx fs)) (nq : H q = none) : (upd (upd H q o) p (.ins C dx fs')) p = some (.ins C dx fs') ∧ (upd (upd H q o) p (.ins C dx fs')) q = some o ∧ Kp (· = p) H (upd (upd H q o) p (.ins C dx fs')) :=
  ⟨upd_same, (upd_ne (Ne.symm (ne_of_none hp nq))).trans upd_same, (Kp.new nq).trans (Kp.upd rfl)⟩
def rf0 (ex wl gr st : Addr) : RF := ⟨0, 0, false, false, false, false, false, 0, 0, false, 0, -1, ex, wl, gr, st⟩
section
variable {P : Program} {w : World} {K : PySem.W.Frag} {mg : Str → Option Value} {base : Heap} {A : Adr}
def sp_Rules_init (A : Adr) : Sp := fun vs H Q _ => ∃ p dx, vs = [.ref p] ∧ H p = some (.ins A.c_Rules dx []) ∧ ∀ ex wl gr st H', H' p = some (.ins A.c_Rules dx (ruF (rf0 ex wl gr st))) → H' ex = some (.dK []) → H' wl = some (.dK []) → H' gr = some (.lst []) → H' st = some (.lst []) → ex ≠ wl → Kp (· = p) H H' → H ex = none → H wl = none → Q .non H'
theorem ok_Rules___init__ (T : Txt K mg A) : FnOk P w K mg base CX0 1 A.f_Rules___init__ A.d_Rules___init__ ["self"] (sp_Rules_init A) := by
  refine T.F_Rules___init__.ok sc_Rules___init__ (fun vs H Q E h => ?_) (fun cdv B outer s H vs Q E hr h => ?_)
  · obtain ⟨p, dx, rfl, _⟩ := h
    rfl
  · obtain ⟨p, dx, rfl, hp, q⟩ := h
    refine ⟨_, (pss_cons (ps_fld (pv 0) pe_int rfl)
  (pss_cons (ps_fld (pv 0) pe_int rfl)
  (pss_cons (ps_fld (pv 0) pe_bl rfl)
  (pss_cons (ps_fld (pv 0) pe_bl rfl)
  (pss_cons (ps_fld (pv 0) pe_bl rfl)
  (pss_cons (ps_fld (pv 0) pe_bl rfl)
  (pss_cons (ps_fld (pv 0) pe_bl rfl)
  (pss_cons (ps_fld (pv 0) pe_int rfl)
  (pss_cons (ps_fld (pv 0) pe_int rfl)
  (pss_cons (ps_fld (pv 0) pe_bl rfl)
  (pss_cons (ps_fld (pv 0) pe_int rfl)
  (pss_cons (ps_fld (pv 0) (pe_un un_neg pe_int) rfl)
  (pss_cons (ps_fld (pv 0) pe_dnewK rfl)
  (pss_cons (ps_fld (pv 0) pe_dnewK rfl)
  (pss_cons (ps_fld (pv 0) (pe_lst pa_nil) rfl)
  (pss_one (ps_fld (pv 0) (pe_lst pa_nil) rfl))))))))))))))))), ?_⟩
    have l0 : ([] : List (Str × V)).length < 1 := by decide
    refine ⟨_, rfl, p, _, dx, _, rfl, hp, T.cl_Rules, T.n_Rules_wide, pl9 l0, ?_⟩
    have l1 := pl (g := "wide") (v := .int 0) l0
    refine ⟨_, rfl, p, _, dx, _, rfl, upd_same, T.cl_Rules, T.n_Rules_high, pl9 l1, ?_⟩
    rw [upd_upd]
    have l2 := pl (g := "high") (v := .int 0) l1
    refine ⟨_, rfl, p, _, dx, _, rfl, upd_same, T.cl_Rules, T.n_Rules_is_king_first, pl9 l2, ?_⟩
    rw [upd_upd]
    have l3 := pl (g := "is_king_first") (v := .bl false) l2
    refine ⟨_, rfl, p, _, dx, _, rfl, upd_same, T.cl_Rules, T.n_Rules_slides, pl9 l3, ?_⟩
    rw [upd_upd]
    have l4 := pl (g := "slides") (v := .bl false) l3
    refine ⟨_, rfl, p, _, dx, _, rfl, upd_same, T.cl_Rules, T.n_Rules_armed, pl9 l4, ?_⟩
    rw [upd_upd]
    have l5 := pl (g := "armed") (v := .bl false) l4
    refine ⟨_, rfl, p, _, dx, _, rfl, upd_same, T.cl_Rules, T.n_Rules_four, pl9 l5, ?_⟩
    rw [upd_upd]
    have l6 := pl (g := "four") (v := .bl false) l5
    refine ⟨_, rfl, p, _, dx, _, rfl, upd_same, T.cl_Rules, T.n_Rules_passed, pl9 l6, ?_⟩
    rw [upd_upd]
    have l7 := pl (g := "passed") (v := .bl false) l6
    refine ⟨_, rfl, p, _, dx, _, rfl, upd_same, T.cl_Rules, T.n_Rules_seat_enmity, pl9 l7, ?_⟩
    rw [upd_upd]
    have l8 := pl (g := "seat_enmity") (v := .int 0) l7
    refine ⟨_, rfl, p, _, dx, _, rfl, upd_same, T.cl_Rules, T.n_Rules_exit_enmity, pl9 l8, ?_⟩
    rw [upd_upd]
    have l9 := pl (g := "exit_enmity") (v := .int 0) l8
    refine ⟨_, rfl, p, _, dx, _, rfl, upd_same, T.cl_Rules, T.n_Rules_is_goal_exits, pl9 l9, ?_⟩
    rw [upd_upd]
    have l10 := pl (g := "is_goal_exits") (v := .bl false) l9
    refine ⟨_, rfl, p, _, dx, _, rfl, upd_same, T.cl_Rules, T.n_Rules_goal_place, pl9 l10, ?_⟩
    rw [upd_upd]
    have l11 := pl (g := "goal_place") (v := .int 0) l10
    refine ⟨_, rfl, _, rfl, p, _, dx, _, rfl, upd_same, T.cl_Rules, T.n_Rules_seat, pl9 l11, ?_⟩
    rw [upd_upd]
    have l12 := pl (g := "seat") (v := .int (-1)) l11
    intro ex nex
    obtain ⟨a1, b1, k1⟩ := step_new (o := .dK []) (fs' := putF "exits" (.ref ex) _) upd_same nex
    refine ⟨_, rfl, p, _, dx, _, rfl, (upd_ne (ne_of_none upd_same nex)).trans upd_same, T.cl_Rules, T.n_Rules_exits, pl9 l12, ?_⟩
    have l13 := pl (g := "exits") (v := .ref ex) l12
    intro wl nwl
    obtain ⟨a2, b2, k2⟩ := step_new (o := .dK []) (fs' := putF "walls" (.ref wl) _) a1 nwl
    refine ⟨_, rfl, p, _, dx, _, rfl, (upd_ne (ne_of_none a1 nwl)).trans a1, T.cl_Rules, T.n_Rules_walls, pl9 l13, ?_⟩
    have l14 := pl (g := "walls") (v := .ref wl) l13
    refine ⟨(by decide), fun gr ngr => ?_⟩
    obtain ⟨a3, b3, k3⟩ := step_new (o := .lst []) (fs' := putF "ground" (.ref gr) _) a2 ngr
    refine ⟨_, rfl, p, _, dx, _, rfl, (upd_ne (ne_of_none a2 ngr)).trans a2, T.cl_Rules, T.n_Rules_ground, pl9 l14, ?_⟩
    have l15 := pl (g := "ground") (v := .ref gr) l14
    refine ⟨(by decide), fun st nst => ?_⟩
    obtain ⟨a4, b4, k4⟩ := step_new (o := .lst []) (fs' := putF "start" (.ref st) _) a3 nst
    refine ⟨_, rfl, p, _, dx, _, rfl, (upd_ne (ne_of_none a3 nst)).trans a3, T.cl_Rules, T.n_Rules_start, pl9 l15, ?_⟩
    have e : putF "start" (.ref st) (putF "ground" (.ref gr) (putF "walls" (.ref wl) (putF "exits" (.ref ex) (putF "seat" (.int (-1)) (putF "goal_place" (.int 0) (putF "is_goal_exits" (.bl false) (putF "exit_enmity" (.int 0) (putF "seat_enmity" (.int 0)
      (putF "passed" (.bl false) (putF "four" (.bl false) (putF "armed" (.bl false) (putF "slides" (.bl false) (putF "is_king_first" (.bl false) (putF "high" (.int 0) (putF "wide" (.int 0) []))))))))))))))) = ruF (rf0 ex wl gr st) := by kernel_rfl
    have f1 : H ex = none := (Kp.upd (p := (· = p)) rfl).dom _ nex
    have f2 : H wl = none := (Kp.upd (p := (· = p)) rfl).dom _ (k1.dom _ nwl)
    have n1 : ex ≠ p := Ne.symm (ne_of_none upd_same nex)
    have n2 : wl ≠ p := Ne.symm (ne_of_none a1 nwl)
    have n3 : gr ≠ p := Ne.symm (ne_of_none a2 ngr)
    have n4 : wl ≠ ex := Ne.symm (ne_of_none b1 nwl)
    refine q ex wl gr st _ (a4.trans (congrArg (fun z => some (HO.ins A.c_Rules dx z)) e)) (k4.keep _ _ (k3.keep _ _ (k2.keep _ _ b1 n1) n1) n1) (k4.keep _ _ (k3.keep _ _ b2 n2) n2) (k4.keep _ _ b3 n3) b4 (Ne.symm n4) (((((Kp.upd (p := (· = p)) rfl).trans k1).trans k2).trans k3).trans k4) f1 f2
/-! ### cells -/
theorem signE {s : String} (b c : UInt8) (h : Str.ofString s = ⟨#[c.toNat]⟩) : decide (V.str ⟨#[b.toNat]⟩ = V.str (Str.ofString s)) = (b == c) := by
  rw [h, Bool.eq_iff_iff, decide_eq_true_iff, beq_iff_eq]
  constructor
  · intro z
    injection z with z
    injection z with z
    have z3 : [b.toNat] = [c.toNat] := congrArg (fun q : Array Nat => q.toList) z
    injection z3 with z4
    exact u8_inj z4
  · rintro rfl; rfl
theorem in2 (i a b : Int) : inV (.int i) [.int a, .int b] = (decide (i = a) || decide (i = b)) := by
  have := inV_ints i [a, b]
  have e : ([a, b].map V.int) = [.int a, .int b] := rfl
  rw [e] at this
  rw [this, Bool.eq_iff_iff, List.contains_iff_mem]
  simp
def edgeB (w h c : Nat) : Bool := c % 13 == 0 || c / 13 == 0 || c % 13 + 1 == w || c / 13 + 1 == h
def sp_is_edge (A : Adr) : Sp := fun vs H Q _ => ∃ a f c, vs = [.ref a, .int ((c : Nat) : Int)] ∧ (∃ dx, H a = some (.ins A.c_Rules dx (ruF f))) ∧ 1 ≤ f.wide ∧ 1 ≤ f.high ∧ ∀ H', Same H H' → Q (.bl (edgeB f.wide f.high c)) H'
theorem ok_Rules_is_edge (T : Txt K mg A) : FnOk P w K mg base CX0 1 A.f_Rules_is_edge A.d_Rules_is_edge ["self", "cell"] (sp_is_edge A) := by
  refine T.F_Rules_is_edge.ok sc_Rules_is_edge (fun vs H Q E h => ?_) (fun cdv B outer s H vs Q E hr h => ?_)
  · obtain ⟨a, f, c, rfl, _⟩ := h
    rfl
  · obtain ⟨a, f, c, rfl, ⟨dx, ho⟩, w1, h1, q⟩ := h
    refine ⟨_, (pss_cons (ps_par (i := 2) (j := 3) rfl sc_Rules_is_edge.nd rfl rfl (by decide) rfl rfl (pa_cons (pe_op op_mod (pv 1) (pe_gi T.g_FARTHEST)) (pa_cons (pe_op op_fdiv (pv 1) (pe_gi T.g_FARTHEST)) pa_nil)) rfl)
  (pss_one (ps_ret (pe_or (pe_cmpR op_in_seq (pv 2) (pe_tup (pa_cons pe_int (pa_cons (pe_op op_sub (pe_fld (pv 0) rfl) pe_int) pa_nil))) (by rfl)) (pe_one (pe_cmpR op_in_seq (pv 3) (pe_tup (pa_cons pe_int (pa_cons (pe_op op_sub (pe_fld (pv 0) rfl) pe_int) pa_nil))) (by rfl))))))), ?_⟩
    refine ⟨_, rfl, _, _, rfl, rfl, (by show (0 : Int) < 13; decide), _, rfl, _, _, rfl, rfl, ⟨by decide, by decide⟩, _, _, rfl, ?_⟩
    refine ⟨_, rfl, _, rfl, a, A.c_Rules, dx, _, _, rfl, ho, T.cl_Rules, T.n_Rules_wide, ru_wide _, _, _, rfl, rfl, (by show 2 ≤ sizeLine; exact smallE (by omega)), fun p np => ⟨p, _, rfl, .inr (.inl (.inl upd_same)), rfl, rfl, _, rfl, ?_⟩⟩
    have s1 : Same H (upd H p (.tup [.int 0, .int ((f.wide : Int) - 1)])) := same_new np
    have e1 : (if false = true then !inV (.int ((c : Int) % 13)) [.int 0, .int ((f.wide : Int) - 1)] else inV (.int ((c : Int) % 13)) [.int 0, .int ((f.wide : Int) - 1)]) = (c % 13 == 0 || c % 13 + 1 == f.wide) := by
      rw [if_neg Bool.false_ne_true, in2, Bool.eq_iff_iff, Bool.or_eq_true, Bool.or_eq_true, decide_eq_true_iff, decide_eq_true_iff, beq_iff_eq, beq_iff_eq]
      omega
    by_cases b1 : (c % 13 == 0 || c % 13 + 1 == f.wide) = true
    · refine if_t (e1.trans b1) ?_
      have e2 : edgeB f.wide f.high c = true := by
        unfold edgeB
        simp only [Bool.or_eq_true, beq_iff_eq] at b1 ⊢
        omega
      have := q _ s1
      rwa [e2] at this
    · refine if_f (e1.trans (Bool.eq_false_iff.mpr b1)) ?_
      have ho := s1 _ _ ho
      refine ⟨_, rfl, _, rfl, a, A.c_Rules, dx, _, _, rfl, ho, T.cl_Rules, T.n_Rules_high, ru_high _, _, _, rfl, rfl, (by show 2 ≤ sizeLine; exact smallE (by omega)), fun p np => ⟨p, _, rfl, .inr (.inl (.inl upd_same)), rfl, rfl, ?_⟩⟩
      have := q _ (s1.trans (same_new (o := .tup [.int 0, .int ((f.high : Int) - 1)]) np))
      have e2 : (if false = true then !inV (.int ((c : Int) / 13)) [.int 0, .int ((f.high : Int) - 1)] else inV (.int ((c : Int) / 13)) [.int 0, .int ((f.high : Int) - 1)]) = edgeB f.wide f.high c := by
        rw [if_neg Bool.false_ne_true, in2, Bool.eq_iff_iff]
        unfold edgeB
        simp only [Bool.or_eq_true, beq_iff_eq, decide_eq_true_iff] at b1 ⊢
        omega
      rw [← e2] at this
      exact this
def sp_has (A : Adr) : Sp := fun vs H Q _ => ∃ a f t x y, vs = [.ref a, .ref t] ∧ (∃ dx, H a = some (.ins A.c_Rules dx (ruF f))) ∧ SqT K H t [.int x, .int y] ∧ Q (.bl (decide (0 ≤ x) && decide (x < f.wide) && (decide (0 ≤ y) && decide (y < f.high)))) H
theorem ok_Rules_has (T : Txt K mg A) : FnOk P w K mg base CX0 1 A.f_Rules_has A.d_Rules_has ["self", "cell"] (sp_has (K := K) A) := by
  refine T.F_Rules_has.ok sc_Rules_has (fun vs H Q E h => ?_) (fun cdv B outer s H vs Q E hr h => ?_)
  · obtain ⟨a, f, t, x, y, rfl, _⟩ := h
    rfl
  · obtain ⟨a, f, t, x, y, rfl, ⟨dx, ho⟩, ht, q⟩ := h
    refine ⟨_, (pss_cons (ps_asg (pv 1) (pg_tup rfl (pgs_cons (pg_name (i := 2) sc_Rules_has.nd rfl (by first | exact .inl rfl | exact .inr rfl)) (pgs_cons (pg_name (i := 3) sc_Rules_has.nd rfl (by first | exact .inl rfl | exact .inr rfl)) pgs_nil))))
  (pss_one (ps_ret (pe_and (pe_chain op_le op_lt pe_int (pv 2) (pe_fld (pv 0) rfl)) (pe_one (pe_chain op_le op_lt pe_int (pv 3) (pe_fld (pv 0) rfl))))))), ?_⟩
    refine ⟨_, rfl, t, _, rfl, ht, rfl, _, _, rfl, _, _, rfl, rfl, ?_⟩
    refine ⟨_, rfl, _, _, rfl, rfl, _, rfl, ?_⟩
    by_cases h1 : 0 ≤ x
    · refine if_t (decide_eq_true h1) ⟨_, rfl, a, A.c_Rules, dx, _, _, rfl, ho, T.cl_Rules, T.n_Rules_wide, ru_wide _, _, _, rfl, rfl, _, rfl, ?_⟩
      rw [decide_eq_true h1, Bool.true_and] at q
      by_cases h2 : x < f.wide
      · rw [decide_eq_true h2, Bool.true_and] at q
        refine if_t (decide_eq_true h2) ⟨_, rfl, _, _, rfl, rfl, _, rfl, ?_⟩
        by_cases h3 : 0 ≤ y
        · rw [decide_eq_true h3, Bool.true_and] at q
          exact if_t (decide_eq_true h3) ⟨_, rfl, a, A.c_Rules, dx, _, _, rfl, ho, T.cl_Rules, T.n_Rules_high, ru_high _, _, _, rfl, rfl, q⟩
        · rw [decide_eq_false h3, Bool.false_and] at q
          exact if_f (decide_eq_false h3) q
      · rw [decide_eq_false h2, Bool.false_and] at q
        exact if_f (decide_eq_false h2) q
    · rw [decide_eq_false h1, Bool.false_and, Bool.false_and] at q
      exact if_f (decide_eq_false h1) ⟨_, rfl, q⟩
def sp_is_goal (A : Adr) : Sp := fun vs H Q _ => ∃ a f pe pw c, vs = [.ref a, .int ((c : Nat) : Int)] ∧ RuAt A H a f pe pw ∧ 1 ≤ f.wide ∧ 1 ≤ f.high ∧ ∀ H', Same H H' → Q (.bl (if f.goalX = true then pe (c : Int) else edgeB f.wide f.high c)) H'
theorem ok_Rules_is_goal (T : Txt K mg A) : FnOk P w K mg base CX0 2 A.f_Rules_is_goal A.d_Rules_is_goal ["self", "cell"] (sp_is_goal A) := by
  refine T.F_Rules_is_goal.ok sc_Rules_is_goal (fun vs H Q E h => ?_) (fun cdv B outer s H vs Q E hr h => ?_)
  · obtain ⟨a, f, pe, pw, c, rfl, _⟩ := h
    rfl
  · obtain ⟨a, f, pe, pw, c, rfl, Z, w1, h1, q⟩ := h
    obtain ⟨dx, ho⟩ := Z.obj
    refine ⟨_, (pss_cons (ps_if (pt_val (pe_fld (pv 0) rfl)) (pss_one (ps_ret (pe_cmp (pc_din (hu_of hr) (pv 1) (pe_fld (pv 0) rfl)) rfl))) pss_nil)
  (pss_one (ps_ret (pe_meth (pv 0) T.cl_Rules T.m_Rules_is_edge (ok_Rules_is_edge T) (hr.mono (by decide)) T.b_Rules_is_edge .nil pass0 (pa_cons (pv 1) pa_nil))))), ?_⟩
    refine ⟨_, rfl, a, A.c_Rules, dx, _, _, rfl, ho, T.cl_Rules, T.n_Rules_is_goal_exits, ru_is_goal_exits _, _, rfl, ?_⟩
    by_cases g : f.goalX = true
    · rw [if_pos g] at q
      refine if_t g ?_
      obtain ⟨o, hg, eo⟩ := Z.de.get c
      refine ⟨_, rfl, _, rfl, a, A.c_Rules, dx, _, _, rfl, ho, T.cl_Rules, T.n_Rules_exits, ru_exits _, _, o, rfl, hg, ?_⟩
      rw [eo]
      exact q H (Same.refl _)
    · rw [if_neg g] at q
      refine if_f (Bool.eq_false_iff.mpr g) ?_
      refine ⟨_, rfl, a, dx, _, rfl, ho, ru_m_is_edge f, _, rfl, a, f, c, rfl, ⟨dx, ho⟩, w1, h1, q⟩
def standB (seat : Int) (pe pw : Int → Bool) (b : UInt8) (c : Int) : Bool := !pw c && (b == 75 || (decide (c ≠ seat) && !pe c))
def sp_may_stand (A : Adr) : Sp := fun vs H Q _ => ∃ a f pe pw c b, vs = [.ref a, .str ⟨#[(b : UInt8).toNat]⟩, .int ((c : Nat) : Int)] ∧ RuAt A H a f pe pw ∧ Q (.bl (standB f.seat pe pw b c)) H
theorem ok_Rules_may_stand (T : Txt K mg A) : FnOk P w K mg base CX0 1 A.f_Rules_may_stand A.d_Rules_may_stand ["self", "sign", "cell"] (sp_may_stand A) := by
  refine T.F_Rules_may_stand.ok sc_Rules_may_stand (fun vs H Q E h => ?_) (fun cdv B outer s H vs Q E hr h => ?_)
  · obtain ⟨a, f, pe, pw, c, b, rfl, _⟩ := h
    rfl
  · obtain ⟨a, f, pe, pw, c, b, rfl, Z, q⟩ := h
    obtain ⟨dx, ho⟩ := Z.obj
    refine ⟨_, (pss_cons (ps_if (pt_cmp (pc_din (hu_of hr) (pv 2) (pe_fld (pv 0) rfl)) rfl) (pss_one (ps_ret pe_bl)) pss_nil)
  (pss_one (ps_ret (pe_or (pe_cmpR op_eq (pv 1) pe_str (nomark _)) (pe_one (pe_and (pe_cmpR op_ne (pv 2) (pe_fld (pv 0) rfl) (nomark _)) (pe_one (pe_cmp (pc_dnotin (hu_of hr) (pv 2) (pe_fld (pv 0) rfl)) rfl)))))))), ?_⟩
    obtain ⟨o, hg, eo⟩ := Z.dw.get c
    obtain ⟨o2, hg2, eo2⟩ := Z.de.get c
    refine ⟨_, rfl, _, rfl, a, A.c_Rules, dx, _, _, rfl, ho, T.cl_Rules, T.n_Rules_walls, ru_walls _, _, o, rfl, hg, _, rfl, ?_⟩
    rw [eo]
    unfold standB at q
    by_cases hw : pw c = true
    · rw [hw] at q
      exact if_t hw q
    · rw [Bool.eq_false_iff.mpr hw] at q
      refine if_f (Bool.eq_false_iff.mpr hw) ?_
      refine ⟨_, rfl, rfl, _, rfl, ?_⟩
      rw [Bool.not_false, Bool.true_and] at q
      have eK := signE (s := "K") b 75 (by decide +kernel)
      by_cases hk : (b == 75) = true
      · rw [hk, Bool.true_or] at q
        exact if_t (eK.trans hk) q
      · rw [Bool.eq_false_iff.mpr hk, Bool.false_or] at q
        refine if_f (eK.trans (Bool.eq_false_iff.mpr hk)) ⟨_, rfl, _, rfl, a, A.c_Rules, dx, _, _, rfl, ho, T.cl_Rules, T.n_Rules_seat, ru_seat _, rfl, _, rfl, ?_⟩
        have es : (!decide (V.int (c : Int) = V.int f.seat)) = decide ((c : Int) ≠ f.seat) := by
          rw [dec_int]
          by_cases h : (c : Int) = f.seat
          · rw [decide_eq_false (fun z => z h), h]; simp
          · rw [decide_eq_true h, beq_eq_false_iff_ne.mpr h]; rfl
        by_cases h : (c : Int) ≠ f.seat
        · rw [decide_eq_true h, Bool.true_and] at q
          refine if_t (es.trans (decide_eq_true h)) ⟨_, rfl, _, rfl, a, A.c_Rules, dx, _, _, rfl, ho, T.cl_Rules, T.n_Rules_exits, ru_exits _, _, o2, rfl, hg2, ?_⟩
          rw [eo2]
          exact q
        · rw [decide_eq_false h, Bool.false_and] at q
          exact if_f (es.trans (decide_eq_false h)) q
end
end Tf

set_option maxRecDepth 100000
set_option maxHeartbeats 4000000
/-! # Lists of tuples; what the ground's signs tell; rows -/
namespace Tf
open PySem PySem.Spec PyProof.Rows L2
/-! ### lists of tuples -/
def notTup : HO → Bool
  | .tup _ => false
  | .frz _ _ => false
  | _ => true
def NoTup (p : Addr → Prop) (H : Hp) : Prop := ∀ b o, p b → H b = some o → notTup o = true
theorem Kp.sqTN {K : PySem.W.Frag} {H H' : Hp} {p : Addr → Prop} {b : Addr} {xs : List V} (k : Kp p H H') (n : NoTup p H) (h : SqT K H b xs) : SqT K H' b xs := by
  rcases h with (h | ⟨o, h⟩) | h
  · exact .inl (.inl (k.keep _ _ h fun z => by have := n _ _ z h; cases this))
  · exact .inl (.inr ⟨o, k.keep _ _ h fun z => by have := n _ _ z h; cases this⟩)
  · exact .inr h
section
variable {α : Type} (K : PySem.W.Frag) (tv : α → List V)
def TupsAt (H : Hp) (xs : List V) (rs : List α) : Prop := xs.length = rs.length ∧ ∀ (i : Nat) x r, xs[i]? = some x → rs[i]? = some r → ∃ p, x = .ref p ∧ SqT K H p (tv r)
end
section
variable {α : Type} {K : PySem.W.Frag} {tv : α → List V} {H H' : Hp} {xs : List V} {rs : List α}
theorem TupsAt.nil : TupsAt K tv H [] [] := ⟨rfl, fun i x r h => by cases h⟩
theorem TupsAt.keep {p : Addr → Prop} (h : TupsAt K tv H xs rs) (k : Kp p H H') (n : NoTup p H) : TupsAt K tv H' xs rs := ⟨h.1, fun i x r h1 h2 => by
  obtain ⟨p, e, q⟩ := h.2 i x r h1 h2
  exact ⟨p, e, k.sqTN n q⟩⟩
theorem TupsAt.same (h : TupsAt K tv H xs rs) (s : Same H H') : TupsAt K tv H' xs rs := ⟨h.1, fun i x r h1 h2 => by
  obtain ⟨p, e, q⟩ := h.2 i x r h1 h2
  exact ⟨p, e, Same.sqT s q⟩⟩
theorem TupsAt.snoc (h : TupsAt K tv H xs rs) {p : Addr} {r : α} (hp : SqT K H p (tv r)) : TupsAt K tv H (xs ++ [.ref p]) (rs ++ [r]) := by
  refine ⟨by rw [List.length_append, List.length_append, h.1]; rfl, fun i x r' h1 h2 => ?_⟩
  by_cases hi : i < rs.length
  · rw [List.getElem?_append_left (by rw [h.1]; exact hi)] at h1
    rw [List.getElem?_append_left hi] at h2
    exact h.2 i x r' h1 h2
  · rw [List.getElem?_append_right (by omega)] at h2
    rw [List.getElem?_append_right (by rw [h.1]; omega), h.1] at h1
    cases e : i - rs.length with
    | zero => rw [e] at h1 h2; cases h1; cases h2; exact ⟨p, rfl, hp⟩
    | succ j => rw [e] at h2; cases h2
theorem TupsAt.get (h : TupsAt K tv H xs rs) {i : Nat} {x : V} (hx : xs[i]? = some x) : ∃ r p, rs[i]? = some r ∧ x = .ref p ∧ SqT K H p (tv r) := by
  have lt : i < rs.length := by rw [← h.1]; exact (List.getElem?_eq_some_iff.mp hx).1
  obtain ⟨p, e, q⟩ := h.2 i x _ hx (List.getElem?_eq_getElem lt)
  exact ⟨_, p, List.getElem?_eq_getElem lt, e, q⟩
end
theorem Kp.updNew {p : Addr → Prop} {H H2 : Hp} {l : Addr} {o u : HO} (k : Kp p H H2) (n : H l = none) (e : H2 l = some u) : Kp p H (L2.upd H2 l o) := ⟨fun b x h np => by
  rw [upd_ne (ne_of_none h n)]; exact k.keep _ _ h np, fun b h => by
  by_cases z : b = l
  · rw [z]; exact n
  · rw [upd_ne z] at h; exact k.dom _ h⟩
theorem DkAt.to {H H' : Hp} {d : Addr} {n m : Nat} {p p' : Int → Bool} (h : DkAt H d n p) (e : H' d = H d) (le : n ≤ m) (hp : ∀ j, p' j = p j) : DkAt H' d m p' := by
  obtain ⟨kvs, e1, hl, h2, hz⟩ := h
  exact ⟨kvs, e.trans e1, Nat.le_trans hl le, fun j => (h2 j).trans (hp j).symm, hz.imp id fun ⟨j, z⟩ => ⟨j, (hp j).trans z⟩⟩
theorem DkAt.ne {H : Hp} {a C dx d : Addr} {n : Nat} {p : Int → Bool} {fs : List (Str × V)} (h : DkAt H d n p) (e : H a = some (.ins C dx fs)) : a ≠ d := by
  obtain ⟨kvs, e1, _⟩ := h
  exact ne_of e e1 (by intro z; cases z)
abbrev Row3 := UInt8 × Nat × Nat
def rowV (g : Row3) : List V := [.str ⟨#[g.1.toNat]⟩, .int (g.2.1 : Nat), .int (g.2.2 : Nat)]
/-! ### what the ground's signs tell -/
def seatOf (gs : List Row3) : Int := match gs.find? (fun g => g.1 == 83) with
  | some g => (g.2.1 : Nat)
  | none => -1
def inRows (b : UInt8) (gs : List Row3) (i : Int) : Bool := gs.any fun g => g.1 == b && decide (((g.2.1 : Nat) : Int) = i)
theorem seatOf_snoc (l : List Row3) (g : Row3) : seatOf (l ++ [g]) = if (g.1 == 83) = true ∧ seatOf l < 0 then ((g.2.1 : Nat) : Int) else seatOf l := by
  unfold seatOf
  rw [List.find?_append]
  cases h : l.find? (fun g => g.1 == 83) with
  | some u =>
    show ((u.2.1 : Nat) : Int) = _
    rw [if_neg]
    rintro ⟨_, h⟩
    have h' : ((u.2.1 : Nat) : Int) < 0 := h
    omega
  | none =>
    by_cases hg : (g.1 == 83) = true
    · have e : [g].find? (fun g => g.1 == 83) = some g := List.find?_cons_of_pos hg
      rw [e, if_pos ⟨hg, by show (-1 : Int) < 0; decide⟩]
      rfl
    · have e : [g].find? (fun g => g.1 == 83) = none := List.find?_cons_of_neg hg
      rw [e, if_neg (fun z => hg z.1)]
      rfl
theorem inRows_snoc (b : UInt8) (l : List Row3) (g : Row3) (i : Int) : inRows b (l ++ [g]) i = (inRows b l i || (g.1 == b && decide (((g.2.1 : Nat) : Int) = i))) := by
  unfold inRows
  rw [List.any_append]
  congr 1
  show (_ || false) = _
  rw [Bool.or_false]
section
variable {P : Program} {w : World} {K : PySem.W.Frag} {mg : Str → Option Value} {base : Heap} {A : Adr}
def sp_settle (K : PySem.W.Frag) (A : Adr) : Sp := fun vs H Q _ => ∃ a f gs xs dx, vs = [.ref a] ∧ H a = some (.ins A.c_Rules dx (ruF f)) ∧ H f.gr = some (.lst xs) ∧ TupsAt K rowV H xs gs ∧ f.seat = -1 ∧ H f.ex = some (.dK []) ∧ H f.wl = some (.dK []) ∧ f.ex ≠ f.wl ∧ gs.length ≤ 169 ∧
  ∀ H', H' a = some (.ins A.c_Rules dx (ruF { f with seat := seatOf gs })) → DkAt H' f.ex 169 (inRows 88 gs) → DkAt H' f.wl 169 (inRows 35 gs) → Kp (fun b => b = a ∨ b = f.ex ∨ b = f.wl) H H' → Q .non H'
theorem ok_Rules_settle (T : Txt K mg A) : FnOk P w K mg base CX0 1 A.f_Rules_settle A.d_Rules_settle ["self"] (sp_settle K A) := by
  refine T.F_Rules_settle.ok sc_Rules_settle (fun vs H Q E h => ?_) (fun cdv B outer s H vs Q E hr h => ?_)
  · obtain ⟨a, f, gs, xs, dx, rfl, _⟩ := h
    rfl
  · obtain ⟨a, f, gs, xs, dx, rfl, ho, hg, ht, hs, hex, hwl, hne, few, q⟩ := h
    refine ⟨_, (pss_one (ps_for PassesOwn.never rfl (pi_list (pe_fld (pv 0) rfl)) (pg_tup rfl (pgs_cons (pg_name (i := 1) sc_Rules_settle.nd rfl (by first | exact .inl rfl | exact .inr rfl)) (pgs_cons (pg_name (i := 2) sc_Rules_settle.nd rfl (by first | exact .inl rfl | exact .inr rfl)) (pgs_cons (pg_name (i := 3) sc_Rules_settle.nd rfl (by first | exact .inl rfl | exact .inr rfl)) pgs_nil))))
  (pss_one (ps_if (PW.pt (pw_and (pt_cmpR op_eq (pv 1) pe_str (nomark _)) (pw_and1 (pt_cmpR op_lt (pe_fld (pv 0) rfl) pe_int (nomark _))))) (pss_one (ps_fld (pv 0) (pv 2) rfl)) (pss_one (ps_if (pt_cmpR op_eq (pv 1) pe_str (nomark _)) (pss_one (ps_dput (hu_of hr) (pe_fld (pv 0) rfl) (pv 2) pe_bl rfl)) (pss_one (ps_if (pt_cmpR op_eq (pv 1) pe_str (nomark _)) (pss_one (ps_dput (hu_of hr) (pe_fld (pv 0) rfl) (pv 2) pe_bl rfl)) pss_nil)))))))), ?_⟩
    have nt : NoTup (fun b => b = a ∨ b = f.ex ∨ b = f.wl) H := fun b o hb e => by
      rcases hb with rfl | rfl | rfl
      · rw [ho] at e; cases e; rfl
      · rw [hex] at e; cases e; rfl
      · rw [hwl] at e; cases e; rfl
    have ng : ¬ (f.gr = a ∨ f.gr = f.ex ∨ f.gr = f.wl) := fun z => by
      rcases z with z | z | z
      · rw [z, ho] at hg; cases hg
      · rw [z, hex] at hg; cases hg
      · rw [z, hwl] at hg; cases hg
    refine ⟨_, rfl, a, A.c_Rules, dx, _, _, rfl, ho, T.cl_Rules, T.n_Rules_ground, ru_ground _, _, rfl, ⟨_, SqL.of hg⟩, forS (wv_list (xs := xs)) (fun i σ H' => ∃ v1 v2 v3, σ = [some (.ref a), v1, v2, v3] ∧ H' a = some (.ins A.c_Rules dx (ruF { f with seat := seatOf (gs.take i) })) ∧ DkAt H' f.ex i (inRows 88 (gs.take i)) ∧ DkAt H' f.wl i (inRows 35 (gs.take i)) ∧ Kp (fun b => b = a ∨ b = f.ex ∨ b = f.wl) H H')
      ⟨none, none, none, rfl, ?_, DkAt.nil hex, DkAt.nil hwl, Kp.refl⟩ (fun i σ H' hP => ?_) (fun i x σ H' hx hP => ?_) (fun σ H' hP => ?_)⟩
    · rw [List.take_zero]
      have : { f with seat := seatOf [] } = f := by
        have : seatOf [] = f.seat := by rw [hs]; rfl
        rw [this]
      rw [this]
      exact ho
    · obtain ⟨_, _, _, _, _, _, _, k⟩ := hP
      exact SqL.of (k.keep _ _ hg ng)
    · obtain ⟨v1, v2, v3, rfl, o1, d1, d2, k⟩ := hP
      obtain ⟨r, p, hr', rfl, hq⟩ := ht.get hx
      have hi : i < gs.length := (List.getElem?_eq_some_iff.mp hr').1
      rw [take_more hr', seatOf_snoc]
      have e88 : inRows 88 (gs.take i ++ [r]) = fun j => inRows 88 (gs.take i) j || (r.1 == 88 && decide (((r.2.1 : Nat) : Int) = j)) := funext fun j => inRows_snoc _ _ _ _
      have e35 : inRows 35 (gs.take i ++ [r]) = fun j => inRows 35 (gs.take i) j || (r.1 == 35 && decide (((r.2.1 : Nat) : Int) = j)) := funext fun j => inRows_snoc _ _ _ _
      rw [e88, e35]
      refine ⟨p, _, rfl, k.sqTN nt hq, rfl, _, _, rfl, _, _, rfl, _, _, rfl, rfl, _, rfl, rfl, _, rfl, ?_⟩
      have eS := signE (s := "S") r.1 83 (by decide +kernel)
      have eX := signE (s := "X") r.1 88 (by decide +kernel)
      have eW := signE (s := "#") r.1 35 (by decide +kernel)
      have ho := o1
      by_cases h88 : (r.1 == 88) = true
      · have h83 : (r.1 == 83) = false := by rw [beq_iff_eq] at h88; rw [h88]; decide
        have h35 : (r.1 == 35) = false := by rw [beq_iff_eq] at h88; rw [h88]; decide
        rw [h83, h88, h35]
        refine if_f (eS.trans h83) ⟨_, rfl, rfl, _, rfl, if_t (eX.trans h88) ?_⟩
        obtain ⟨H2, hp, hd, hk, hb⟩ := d1.put (by omega) ((r.2.1 : Nat) : Int) (.bl true)
        refine ⟨_, rfl, a, A.c_Rules, dx, _, _, rfl, ho, T.cl_Rules, T.n_Rules_exits, ru_exits _, _, rfl, _, H2, rfl, hp, _, _, _, rfl, ?_, ?_, ?_, k.trans (hk.mono fun b hb => .inr (.inl hb))⟩
        · rw [if_neg (fun z => by cases z.1)]
          exact (hb _ (d1.ne o1)).trans o1
        · exact hd.to rfl (Nat.le_refl _) fun j => by
            show (inRows 88 (gs.take i) j || (true && _)) = (inRows 88 (gs.take i) j || _)
            rw [Bool.true_and]
            congr 1
            exact decide_eq_decide.mpr ⟨fun z => z.symm, fun z => z.symm⟩
        · exact d2.to (hb _ (fun z => hne z.symm)) (Nat.le_succ _) fun j => Bool.or_false _
      · have h88 := Bool.eq_false_iff.mpr h88
        have tail : (r.1 == 83 && decide (seatOf (gs.take i) < 0)) = false → (tIfS (tTest (tOp rEq (tVar 1) (tC (V.str (Str.ofString "#"))))) (sDPut (tFld K (tVar 0) "walls") (tVar 2) (tC (V.bl true))) tNext)
            { nx := fun σ H' => ∃ v1 v2 v3, σ = [some (.ref a), v1, v2, v3] ∧ H' a = some (.ins A.c_Rules dx (ruF { f with seat := if (r.1 == 83) = true ∧ seatOf (gs.take i) < 0 then ((r.2.1 : Nat) : Int) else seatOf (gs.take i) })) ∧ DkAt H' f.ex (i + 1) (fun j => inRows 88 (gs.take i) j || (r.1 == 88 && decide (((r.2.1 : Nat) : Int) = j))) ∧
              DkAt H' f.wl (i + 1) (fun j => inRows 35 (gs.take i) j || (r.1 == 35 && decide (((r.2.1 : Nat) : Int) = j))) ∧ Kp (fun b => b = a ∨ b = f.ex ∨ b = f.wl) H H', rt := Q }
            [some (.ref a), some (.str ⟨#[r.1.toNat]⟩), some (.int (r.2.1 : Nat)), some (.int (r.2.2 : Nat))] H' := fun h0 => by
          have h0' : ¬ ((r.1 == 83) = true ∧ seatOf (gs.take i) < 0) := fun z => by
            rw [z.1, decide_eq_true z.2] at h0; cases h0
          rw [if_neg h0', h88]
          by_cases h35 : (r.1 == 35) = true
          · rw [h35]
            refine ⟨_, rfl, rfl, _, rfl, if_t (eW.trans h35) ?_⟩
            obtain ⟨H2, hp, hd, hk, hb⟩ := d2.put (by omega) ((r.2.1 : Nat) : Int) (.bl true)
            refine ⟨_, rfl, a, A.c_Rules, dx, _, _, rfl, ho, T.cl_Rules, T.n_Rules_walls, ru_walls _, _, rfl, _, H2, rfl, hp, _, _, _, rfl, (hb _ (d2.ne o1)).trans o1, d1.to (hb _ hne) (Nat.le_succ _) fun j => Bool.or_false _, hd.to rfl (Nat.le_refl _) fun j => ?_, k.trans (hk.mono fun b hb => .inr (.inr hb))⟩
            show (inRows 35 (gs.take i) j || (true && _)) = (inRows 35 (gs.take i) j || _)
            rw [Bool.true_and]
            congr 1
            exact decide_eq_decide.mpr ⟨fun z => z.symm, fun z => z.symm⟩
          · have h35 := Bool.eq_false_iff.mpr h35
            rw [h35]
            exact ⟨_, rfl, rfl, _, rfl, if_f (eW.trans h35) ⟨_, _, _, rfl, o1, d1.to rfl (Nat.le_succ _) fun j => Bool.or_false _, d2.to rfl (Nat.le_succ _) fun j => Bool.or_false _, k⟩⟩
        by_cases h83 : (r.1 == 83) = true
        · refine if_t (eS.trans h83) ⟨_, rfl, a, A.c_Rules, dx, _, _, rfl, ho, T.cl_Rules, T.n_Rules_seat, ru_seat _, _, _, rfl, rfl, _, rfl, ?_⟩
          by_cases hlt : seatOf (gs.take i) < 0
          · refine if_t (decide_eq_true hlt) ⟨_, rfl, _, rfl, a, A.c_Rules, dx, _, rfl, o1, T.cl_Rules, T.n_Rules_seat, ruF_few _, ?_⟩
            have h35 : (r.1 == 35) = false := by rw [beq_iff_eq] at h83; rw [h83]; decide
            rw [rp_seat, if_pos ⟨h83, hlt⟩, h88, h35]
            refine ⟨_, _, _, rfl, upd_same, d1.to (upd_ne (Ne.symm (d1.ne o1))) (Nat.le_succ _) fun j => Bool.or_false _, d2.to (upd_ne (Ne.symm (d2.ne o1))) (Nat.le_succ _) fun j => Bool.or_false _, k.trans (Kp.upd (.inl rfl))⟩
          · exact if_f (decide_eq_false hlt) ⟨_, rfl, rfl, _, rfl, if_f (eX.trans h88) (tail (by rw [decide_eq_false hlt, Bool.and_false]))⟩
        · have h83 := Bool.eq_false_iff.mpr h83
          exact if_f (eS.trans h83) ⟨_, rfl, rfl, _, rfl, if_f (eX.trans h88) (tail (by rw [h83, Bool.false_and]))⟩
    · obtain ⟨v1, v2, v3, rfl, o1, d1, d2, k⟩ := hP
      rw [ht.1, List.take_length] at o1 d1 d2
      exact q H' o1 (d1.mono few) (d2.mono few) k
end
end Tf

set_option maxRecDepth 100000
set_option maxHeartbeats 4000000
/-! # Rows of signs -/
namespace TfP
open Tafl Tf
section
variable {α : Type} {sign : UInt8 → Option α} {sb : α → UInt8}
structure SignsOk (sign : UInt8 → Option α) (sb : α → UInt8) (cs : List Nat) : Prop where
  yes : ∀ x : UInt8, cs.contains x.toNat = true → ∃ k, sign x = some k
  no : ∀ x : UInt8, cs.contains x.toNat = false → sign x = none
  back : ∀ x k, sign x = some k → sb k = x
def rowF (sb : α → UInt8) (b p : Nat) : Nat → List α → List Row3
  | _, [] => []
  | x, k :: r => (sb k, b + x, p + x) :: rowF sb b p (x + 1) r
theorem rowF_snoc (b p : Nat) (k : α) : ∀ (l : List α) (x : Nat), rowF sb b p x (l ++ [k]) = rowF sb b p x l ++ [(sb k, b + (x + l.length), p + (x + l.length))]
  | [], x => rfl
  | m :: l, x => by
    show (_ :: rowF sb b p (x + 1) (l ++ [k])) = _
    rw [rowF_snoc b p k l (x + 1), List.length_cons]
    have e : x + 1 + l.length = x + (l.length + 1) := by omega
    rw [e]
    rfl
def flatR (sb : α → UInt8) (high : Nat) : Nat → List (List α) → List Nat → List Row3
  | i, r :: g, p :: gp => rowF sb (13 * (high - 1 - i)) p 0 r ++ flatR sb high (i + 1) g gp
  | _, _, _ => []
theorem flatR_snoc (high : Nat) (r : List α) (p : Nat) : ∀ (g : List (List α)) (gp : List Nat) (i : Nat), g.length = gp.length → flatR sb high i (g ++ [r]) (gp ++ [p]) = flatR sb high i g gp ++ rowF sb (13 * (high - 1 - (i + g.length))) p 0 r
  | [], [], i, _ => by
    show rowF sb (13 * (high - 1 - i)) p 0 r ++ [] = [] ++ rowF sb (13 * (high - 1 - (i + 0))) p 0 r
    rw [List.append_nil]
    rfl
  | [], _ :: _, _, h => by cases h
  | _ :: _, [], _, h => by cases h
  | a :: g, b :: gp, i, h => by
    show rowF sb _ b 0 a ++ flatR sb high (i + 1) (g ++ [r]) (gp ++ [p]) = (rowF sb _ b 0 a ++ flatR sb high (i + 1) g gp) ++ _
    rw [flatR_snoc high r p g gp (i + 1) (by simpa using h), List.append_assoc, List.length_cons]
    have e : i + 1 + g.length = i + (g.length + 1) := by omega
    rw [e]
/-- what is read already put ahead -/
def glR (l : List α) : Except Nat (List α × Cur) → Except Nat (List α × Cur)
  | .ok t => .ok (l ++ t.1, t.2)
  | .error e => .error e
def glG (g : List (List α)) (gp : List Nat) : Except Nat (List (List α) × List Nat × Cur) → Except Nat (List (List α) × List Nat × Cur)
  | .ok t => .ok (g ++ t.1, gp ++ t.2.1, t.2.2)
  | .error e => .error e
theorem glR_nil (x : Except Nat (List α × Cur)) : glR [] x = x := by cases x <;> rfl
theorem glG_nil (x : Except Nat (List (List α) × List Nat × Cur)) : glG [] [] x = x := by cases x <;> rfl
theorem row_go {l : List α} {n m : Nat} {bs : Bytes} {x : UInt8} {k : α} (h : bs[n]? = some x) (hk : sign x = some k) : glR l (rowIn sign (m + 1) (cur bs n)) = glR (l ++ [k]) (rowIn sign m (cur bs (n + 1))) := by
  rw [rowIn]
  have e : (cur bs n).next.bind sign = some k := by rw [cur_next, h]; exact hk
  rw [e, cur_on]
  cases rowIn sign m (cur bs (n + 1)) with
  | ok t =>
    show Except.ok (l ++ (k :: t.1), t.2) = Except.ok ((l ++ [k]) ++ t.1, t.2)
    rw [List.append_assoc]
    rfl
  | error e => rfl
theorem row_no {l : List α} {n m : Nat} {bs : Bytes} (h : ∀ x, bs[n]? = some x → sign x = none) : glR l (rowIn sign (m + 1) (cur bs n)) = .error n := by
  rw [rowIn]
  have e : (cur bs n).next.bind sign = none := by
    rw [cur_next]
    cases e : bs[n]? with
    | none => rfl
    | some x => exact h x e
  rw [e]
  rfl
theorem row_end {l : List α} {n : Nat} {bs : Bytes} : glR l (rowIn sign 0 (cur bs n)) = (lit [10] (cur bs n)).map fun d => (l, d) := by
  rw [rowIn]
  show glR l ((lit [10] (cur bs n)).map fun d => ([], d)) = _
  cases lit [10] (cur bs n) with
  | ok t =>
    show Except.ok (l ++ [], t) = _
    rw [List.append_nil]
    rfl
  | error e => rfl
theorem rows_go {g : List (List α)} {gp : List Nat} {w m n : Nat} {bs : Bytes} {r : List α} {d : Cur} (h : rowIn sign w (cur bs n) = .ok (r, d)) : glG g gp (rowsIn sign w (m + 1) (cur bs n)) = glG (g ++ [r]) (gp ++ [n]) (rowsIn sign w m d) := by
  rw [rowsIn, h]
  show glG g gp (do
    let (l, ps, e) ← rowsIn sign w m d
    return (r :: l, n :: ps, e)) = _
  cases rowsIn sign w m d with
  | ok t =>
    show Except.ok (g ++ (r :: t.1), gp ++ (n :: t.2.1), t.2.2) = Except.ok ((g ++ [r]) ++ t.1, (gp ++ [n]) ++ t.2.1, t.2.2)
    rw [List.append_assoc, List.append_assoc]
    rfl
  | error e => rfl
theorem rows_no {g : List (List α)} {gp : List Nat} {w m n p : Nat} {bs : Bytes} (h : rowIn sign w (cur bs n) = .error p) : glG g gp (rowsIn sign w (m + 1) (cur bs n)) = .error p := by
  rw [rowsIn, h]
  rfl
end
end TfP
namespace Tf
open PySem PySem.Spec PyProof.Rows L2 TfP
theorem SqL.apart {K : PySem.W.Frag} {H0 : Hp} {b l : Addr} {xs : List V} (h : SqL K H0 b xs) (n : H0 l = none) : b ≠ l ∨ ∀ H, SqL K H b xs := by
  rcases h with (h | ⟨o, h⟩) | h
  · exact .inl (ne_of_none h n)
  · exact .inl (ne_of_none h n)
  · exact .inr fun _ => .inr h
/-- a list changes, the reader stands -/
theorem RdAt.list {K : PySem.W.Frag} {A : Adr} {H : Hp} {a l : Addr} {S : RS} {n : Nat} {xs : List V} {ys : List V} (R : RdAt K A H a S n) (e : H l = some (.lst xs)) (nt : S.t ≠ l ∨ ∀ H, SqL K H S.t (bV S.bs)) : RdAt K A (upd H l (.lst ys)) a S n := by
  obtain ⟨⟨dx, h1⟩, h2, h3, h4, h5, h6⟩ := R
  exact ⟨⟨dx, (upd_ne (ne_of h1 e (by intro z; cases z))).trans h1⟩, h2, nt.elim (fun nt => (Kp.upd (p := (· = l)) rfl).sqL nt h3) fun f => f _, h4, h5, h6⟩
section
variable {P : Program} {w : World} {K : PySem.W.Frag} {mg : Str → Option Value} {base : Heap} {A : Adr}
def sp_rows_read (K : PySem.W.Frag) (A : Adr) : Sp := fun vs H Q E => ∃ (α : Type) (sign : UInt8 → Option α) (sb : α → UInt8) (cs : List Nat), ∃ a S n ra dr f, vs = [.ref a, .ref ra, .str ⟨cs.toArray⟩] ∧ TfP.SignsOk sign sb cs ∧ cs.length ≤ 1000 ∧ RdAt K A H a S n ∧ H ra = some (.ins A.c_Rules dr (ruF f)) ∧ ra ≠ a ∧ f.wide ≤ 13 ∧ f.high ≤ 13 ∧
  (∀ g gp n' H' l xs, Tafl.rowsIn sign f.wide f.high (cur S.bs n) = .ok (g, gp, cur S.bs n') → g.length = f.high → gp.length = f.high → (∀ r ∈ g, r.length = f.wide) → Kp (· = a) H H' → RdAt K A H' a S n' → H l = none → H' l = some (.lst xs) → TupsAt K rowV H' xs (TfP.flatR sb f.high 0 g gp) → xs.length ≤ 169 → Q (.ref l) H') ∧
  (∀ p, Tafl.rowsIn sign f.wide f.high (cur S.bs n) = .error p → EF A (· = a) H E 1 p)
theorem ok_rows_read (T : Txt K mg A) : FnOk P w K mg base (L2N.CX P w) 6 A.f_rows_read A.d_rows_read ["reader", "rules", "signs"] (sp_rows_read K A) := by
  refine okG T.F_rows_read sc_rows_read (fun vs H Q E h => ?_) (fun cdv B outer s H vs Q E hr h => ?_)
  · obtain ⟨α, sign, sb, cs, a, S, n, ra, dr, f, rfl, _⟩ := h
    rfl
  · obtain ⟨α, sign, sb, cs, a, S, n, ra, dr, f, rfl, sg, few, Z, hra, nra, w13, h13, qT, qF⟩ := h
    have R := Z.rd
    refine ⟨_, (pss_cons (ps_set (i := 3) sc_rows_read.nd rfl (by first | exact .inl rfl | exact .inr rfl) (pe_lst pa_nil))
  (pss_cons (ps_for (L2.passes_of rfl) rfl (pi_range1 (by rfl) T.n_range (pa_cons (pe_fld (pv 1) rfl) pa_nil)) (pg_name (i := 4) sc_rows_read.nd rfl (by first | exact .inl rfl | exact .inr rfl))
  (pss_cons (ps_for (L2.passes_of rfl) rfl (pi_range1 (by rfl) T.n_range (pa_cons (pe_fld (pv 1) rfl) pa_nil)) (pg_name (i := 5) sc_rows_read.nd rfl (by first | exact .inl rfl | exact .inr rfl))
  (pss_cons (ps_set (i := 6) sc_rows_read.nd rfl (by first | exact .inl rfl | exact .inr rfl) (pe_fld (pv 0) rfl))
  (pss_one (ps_expr (pe_bm PySem.F.plainAttrs_list PySem.F.slot_list_append PySem.F.type_list_append mt_append (pv 3) (pa_cons (pe_tup (pa_cons (pe_meth (pv 0) R.cl R.m_take (ok_Bytes_take T) (hr.mono (by decide)) T.b_Bytes_take .nil (pxN (L2N.takes_of rfl rfl rfl rfl)) (pa_cons (pv 2) pa_nil)) (pa_cons (pe_op op_add (pe_op op_mul (pe_gi T.g_FARTHEST) (pe_op op_sub (pe_op op_sub (pe_fld (pv 1) rfl) pe_int) (pv 4))) (pv 5)) (pa_cons (pv 6) pa_nil)))) pa_nil))))))
  (pss_one (ps_expr (pe_meth0 (pv 0) R.cl R.m_line_end (ok_Bytes_line_end T) (hr.mono (by decide)) T.b_Bytes_line_end .nil (pxN (L2N.takes_of rfl rfl rfl rfl)))))))
  (pss_one (ps_ret (pv 3))))), ?_⟩
    refine ⟨by decide, fun l nl => ?_⟩
    have nla : l ≠ a := by obtain ⟨dx, ho⟩ := Z.obj; exact Ne.symm (ne_of_none ho nl)
    have rr : ∀ {H' : Hp}, Kp (· = a) H H' → H' ra = some (.ins A.c_Rules dr (ruF f)) := fun k => k.keep _ _ hra nra
    have hra := hra
    have d2 : Kp (· = a) H (upd H l (.lst [])) := Kp.new nl
    have hra0 := hra
    have hra := rr d2
    refine ⟨_, rfl, ra, A.c_Rules, dr, _, _, rfl, hra, T.cl_Rules, T.n_Rules_high, ru_high _, _, rfl, by omega, by omega, ?_⟩
    rw [show ((f.high : Int)).toNat = f.high from Int.toNat_natCast _]
    refine forS (wv_range (lo := 0) (n := f.high)) (fun i σ H' => ∃ (g : List (List α)) (gp : List Nat), ∃ n' v4 v5 v6 xs, σ = [some (.ref a), some (.ref ra), some (.str ⟨cs.toArray⟩), some (.ref l), v4, v5, v6] ∧ g.length = i ∧ gp.length = i ∧ (∀ r ∈ g, r.length = f.wide) ∧ Kp (· = a) H H' ∧ RdAt K A H' a S n' ∧ H' l = some (.lst xs) ∧
        TupsAt K rowV H' xs (flatR sb f.high 0 g gp) ∧ xs.length = i * f.wide ∧ Tafl.rowsIn sign f.wide f.high (cur S.bs n) = glG g gp (Tafl.rowsIn sign f.wide (f.high - i) (cur S.bs n')))
      ⟨[], [], n, none, none, none, [], rfl, rfl, rfl, (fun r h => by cases h), d2, Z.same (same_new nl), upd_same, TupsAt.nil, by rw [Nat.zero_mul]; rfl, by rw [Nat.sub_zero]; exact (glG_nil _).symm⟩ (fun _ _ _ _ => trivial) (fun i y σ H1 hy hP => ?_) (fun σ H1 hP => ?_)
    · obtain ⟨g, gp, n1, v4, v5, v6, xs, rfl, gl, gpl, gw, k1, Z1, hl1, ht1, xl, el⟩ := hP
      have hi : i < f.high := by
        have := (List.getElem?_eq_some_iff.mp hy).1
        rwa [List.length_map, List.length_range] at this
      obtain rfl : y = .int (i : Nat) := by
        rw [List.getElem?_map, List.getElem?_range hi] at hy
        have e : V.int (0 + (i : Int)) = y := Option.some.inj hy
        rw [← e, Int.zero_add]
      have hra := rr k1
      refine ⟨_, rfl, ra, A.c_Rules, dr, _, _, rfl, hra, T.cl_Rules, T.n_Rules_wide, ru_wide _, _, rfl, by omega, by omega, ?_⟩
      rw [show ((f.wide : Int)).toNat = f.wide from Int.toNat_natCast _]
      refine forS (wv_range (lo := 0) (n := f.wide)) (fun x σ H' => ∃ r : List α, ∃ v5 v6 xs2, σ = [some (.ref a), some (.ref ra), some (.str ⟨cs.toArray⟩), some (.ref l), some (.int (i : Nat)), v5, v6] ∧ r.length = x ∧ Kp (· = a) H H' ∧ RdAt K A H' a S (n1 + x) ∧ H' l = some (.lst xs2) ∧
          TupsAt K rowV H' xs2 (flatR sb f.high 0 g gp ++ rowF sb (13 * (f.high - 1 - i)) n1 0 r) ∧ xs2.length = i * f.wide + x ∧ Tafl.rowIn sign f.wide (cur S.bs n1) = glR r (Tafl.rowIn sign (f.wide - x) (cur S.bs (n1 + x))))
        ⟨[], v5, v6, xs, rfl, rfl, k1, Z1, hl1, by rw [show rowF sb (13 * (f.high - 1 - i)) n1 0 ([] : List α) = [] from rfl, List.append_nil]; exact ht1, xl, by rw [Nat.sub_zero]; exact (glR_nil _).symm⟩ (fun _ _ _ _ => trivial) (fun x y σ H2 hy hP => ?_) (fun σ H2 hP => ?_)
      · obtain ⟨r, v5, v6, xs2, rfl, rl, k2, Z2, hl2, ht2, xl2, el2⟩ := hP
        have hx : x < f.wide := by
          have := (List.getElem?_eq_some_iff.mp hy).1
          rwa [List.length_map, List.length_range] at this
        obtain rfl : y = .int (x : Nat) := by
          rw [List.getElem?_map, List.getElem?_range hx] at hy
          have e : V.int (0 + (x : Int)) = y := Option.some.inj hy
          rw [← e, Int.zero_add]
        obtain ⟨dx, ho⟩ := Z2.obj
        obtain ⟨m, hm⟩ : ∃ m, f.wide - x = m + 1 := ⟨f.wide - x - 1, by omega⟩
        rw [hm] at el2
        refine ⟨_, rfl, a, S.C, dx, _, _, rfl, ho, R.cl, R.n_at, rdF_at _ _ _, ?_⟩
        refine ⟨_, rfl, .inl ⟨rfl, _, SqL.of hl2⟩, _, rfl, a, dx, _, rfl, ho, rdF_none Z2.ex, _, rfl, a, S, n1 + x, _, cs, rfl, Z2, .inl rfl, few, fun z H3 hz hc k3 Z3 => ?_, fun hF => ?_⟩
        · have k13 := k2.trans k3
          have hra := rr k13
          obtain ⟨kz, hkz⟩ := sg.yes z hc
          refine ⟨_, rfl, ra, A.c_Rules, dr, _, _, rfl, hra, T.cl_Rules, T.n_Rules_high, ru_high _, _, _, rfl, rfl, _, rfl, _, _, rfl, rfl, _, _, rfl, rfl, .inl ⟨by decide, by decide⟩, _, rfl, _, _, rfl, rfl, _, rfl, (by show 3 ≤ sizeLine; exact smallE (by omega)), fun p np => ?_⟩
          have hl3 : H3 l = some (.lst xs2) := k3.keep _ _ hl2 nla
          have hl4 := same_new (o := .tup [.str ⟨#[z.toNat]⟩, .int (13 * ((f.high : Int) - 1 - (i : Int)) + (x : Int)), .int ((n1 + x : Nat) : Int)]) np _ _ hl3
          refine ⟨l, xs2, _, rfl, rfl, hl4, ?_, ?_⟩
          · rw [xl2]
            exact small (by have := Nat.mul_le_mul (Nat.le_of_lt hi) w13; omega)
          have hrow : rowV (sb kz, 13 * (f.high - 1 - i) + (0 + r.length), n1 + (0 + r.length)) = [.str ⟨#[z.toNat]⟩, .int (13 * ((f.high : Int) - 1 - (i : Int)) + (x : Int)), .int ((n1 + x : Nat) : Int)] := by
            unfold rowV
            rw [sg.back z kz hkz, rl]
            have e1 : ((13 * (f.high - 1 - i) + (0 + x) : Nat) : Int) = 13 * ((f.high : Int) - 1 - (i : Int)) + (x : Int) := by omega
            have e2 : n1 + (0 + x) = n1 + x := by omega
            rw [e1, e2]
          have nta : NoTup (· = a) H2 := fun b o hb e => by rw [hb, ho] at e; cases e; rfl
          have ht4 := ((ht2.keep k3 nta).same (same_new (o := .tup [.str ⟨#[z.toNat]⟩, .int (13 * ((f.high : Int) - 1 - (i : Int)) + (x : Int)), .int ((n1 + x : Nat) : Int)]) np)).snoc (p := p) (r := (sb kz, 13 * (f.high - 1 - i) + (0 + r.length), n1 + (0 + r.length))) (.inl (.inl (by rw [hrow]; exact upd_same)))
          refine ⟨r ++ [kz], _, _, _, rfl, by rw [List.length_append, rl]; rfl, (k13.trans (Kp.new np)).updNew nl hl4, ?_, upd_same, ?_, by rw [List.length_append, xl2]; rfl, ?_⟩
          · have Z4 := Z3.same (same_new (o := .tup [.str ⟨#[z.toNat]⟩, .int (13 * ((f.high : Int) - 1 - (i : Int)) + (x : Int)), .int ((n1 + x : Nat) : Int)]) np)
            exact Z4.list hl4 (SqL.apart Z.txt nl)
          · rw [rowF_snoc, ← List.append_assoc]
            exact ht4.keep (p := (· = l)) (Kp.upd rfl) fun b o hb e => by rw [hb, hl4] at e; cases e; rfl
          · rw [el2, row_go hz hkz]
            have e : f.wide - (x + 1) = m := by omega
            rw [e]
            rfl
        · refine (qF (n1 + x) ?_).up k2 fun _ z => z
          obtain ⟨mm, hmm⟩ : ∃ mm, f.high - i = mm + 1 := ⟨f.high - i - 1, by omega⟩
          rw [el, hmm]
          refine rows_no ?_
          rw [el2]
          refine row_no fun z hz => sg.no z ?_
          unfold oneIn at hF
          rw [hz] at hF
          exact hF
      · obtain ⟨r, v5, v6, xs2, rfl, rl, k2, Z2, hl2, ht2, xl2, el2⟩ := hP
        rw [List.length_map, List.length_range] at rl Z2 xl2 el2
        rw [Nat.sub_self, row_end] at el2
        obtain ⟨dx, ho⟩ := Z2.obj
        obtain ⟨mm, hmm⟩ : ∃ mm, f.high - i = mm + 1 := ⟨f.high - i - 1, by omega⟩
        rw [hmm] at el
        refine ⟨_, rfl, a, dx, _, rfl, ho, rdF_none Z2.ex, a, S, _, rfl, Z2, fun n2 H3 e3 k3 Z3 => ?_, fun p e3 => (qF p ?_).up k2 fun _ z => z⟩
        · rw [e3] at el2
          have nta : NoTup (· = a) H2 := fun b o hb e => by rw [hb, ho] at e; cases e; rfl
          refine ⟨g ++ [r], gp ++ [n1], n2, _, _, _, xs2, rfl, by rw [List.length_append, gl]; rfl, by rw [List.length_append, gpl]; rfl, fun r' hr' => ?_, k2.trans k3, Z3, k3.keep _ _ hl2 nla, ?_, by rw [xl2, Nat.succ_mul], ?_⟩
          · rcases List.mem_append.mp hr' with h | h
            · exact gw _ h
            · rw [List.mem_singleton.mp h]; exact rl
          · rw [flatR_snoc _ _ _ _ _ _ (gl.trans gpl.symm), gl, Nat.zero_add]
            exact ht2.keep k3 nta
          · rw [el, rows_go el2]
            have e : f.high - (i + 1) = mm := by omega
            rw [e]
        · rw [el]
          rw [e3] at el2
          exact rows_no el2
    · obtain ⟨g, gp, n1, v4, v5, v6, xs, rfl, gl, gpl, gw, k1, Z1, hl1, ht1, xl, el⟩ := hP
      rw [List.length_map, List.length_range] at gl gpl xl el
      rw [Nat.sub_self] at el
      refine ⟨_, rfl, qT g gp n1 H1 l xs ?_ gl gpl gw k1 Z1 nl hl1 ht1 ?_⟩
      · rw [el, Tafl.rowsIn]
        show Except.ok (g ++ [], gp ++ [], _) = _
        rw [List.append_nil, List.append_nil]
      · rw [xl]
        exact Nat.le_trans (Nat.mul_le_mul h13 w13) (by decide)
end
end Tf

set_option maxRecDepth 100000
set_option maxHeartbeats 400000
/-! # The grammar in three parts; words in another order: plain Lean -/
namespace TfP
open Tafl Tf
theorem lit_append (a b : Bytes) (c : Cur) : lit (a ++ b) c = (lit a c) >>= lit b := by
  induction a generalizing c with
  | nil => rfl
  | cons x r ih =>
    show (if c.next = some x then lit (r ++ b) c.on else .error c.at_) = ((if c.next = some x then lit r c.on else .error c.at_) >>= lit b)
    by_cases h : c.next = some x
    · rw [if_pos h, if_pos h, ih]
    · rw [if_neg h, if_neg h]; rfl
theorem bind_ok {α β : Type} (a : α) (f : α → Except Nat β) : (Except.ok a >>= f) = f a := rfl
theorem bind_err {α β : Type} (e : Nat) (f : α → Except Nat β) : ((Except.error e : Except Nat α) >>= f) = Except.error e := rfl
def pr (i : Nat) : Option Bytes → List (Nat × Bytes)
  | some a => [(i, a)]
  | none => []
def strip (x : UInt8) (a : Bytes) : Option Bytes := if a.head? = some x then some (a.drop 1) else none
theorem pr_step (x : UInt8) (i j : Nat) (o1 o2 : Option Bytes) : (pr i o1 ++ pr j o2).filterMap (fun (w : Nat × Bytes) => if w.2.head? = some x then some (w.1, w.2.drop 1) else none) = pr i (o1.bind (strip x)) ++ pr j (o2.bind (strip x)) := by
  have one : ∀ (i : Nat) (o : Option Bytes), (pr i o).filterMap (fun (w : Nat × Bytes) => if w.2.head? = some x then some (w.1, w.2.drop 1) else none) = pr i (o.bind (strip x)) := by
    intro i o
    cases o with
    | none => rfl
    | some a =>
      show [(i, a)].filterMap _ = pr i (strip x a)
      unfold strip
      by_cases h : a.head? = some x
      · simp [pr, h]
      · simp [pr, h]
  rw [List.filterMap_append, one, one]
def flip : Except Nat (Nat × Cur) → Except Nat (Nat × Cur)
  | .ok t => .ok (1 - t.1, t.2)
  | .error e => .error e
theorem strip_ne {x : UInt8} {a b u v : Bytes} (h : a ≠ b) (ha : strip x a = some u) (hb : strip x b = some v) : u ≠ v := by
  unfold strip at ha hb
  by_cases h1 : a.head? = some x
  · by_cases h2 : b.head? = some x
    · rw [if_pos h1] at ha
      rw [if_pos h2] at hb
      rintro rfl
      cases a with
      | nil => cases h1
      | cons p r =>
        cases b with
        | nil => cases h2
        | cons q t =>
          cases h1; cases h2
          have e1 : r = u := Option.some.inj ha
          have e2 : t = u := Option.some.inj hb
          exact h (by rw [e1, e2])
    · rw [if_neg h2] at hb; cases hb
  · rw [if_neg h1] at ha; cases ha
theorem find_pr (i j : Nat) (o1 o2 : Option Bytes) (hn : ∀ a b, o1 = some a → o2 = some b → a ≠ b) :
    (pr i o1 ++ pr j o2).find? (fun (w : Nat × Bytes) => w.2.isEmpty) = if o1 = some [] then some (i, []) else if o2 = some [] then some (j, []) else none := by
  rcases o1 with _ | _ | ⟨x, a⟩ <;> rcases o2 with _ | _ | ⟨y, b⟩ <;> first | rfl | skip
theorem empty_pr (i j : Nat) (o1 o2 : Option Bytes) : (pr i o1 ++ pr j o2).isEmpty = (o1.isNone && o2.isNone) := by
  rcases o1 with _ | a <;> rcases o2 with _ | b <;> rfl
theorem oneOf_flip : ∀ (f : Nat) (o1 o2 : Option Bytes) (c : Cur), (∀ a b, o1 = some a → o2 = some b → a ≠ b) → oneOf f (pr 0 o1 ++ pr 1 o2) c = flip (oneOf f (pr 0 o2 ++ pr 1 o1) c)
  | 0, o1, o2, c, _ => rfl
  | f + 1, o1, o2, c, hn => by
    have hn' : ∀ a b, o2 = some a → o1 = some b → a ≠ b := fun a b h1 h2 z => hn b a h2 h1 z.symm
    rw [oneOf, oneOf, find_pr 0 1 o1 o2 hn, find_pr 0 1 o2 o1 hn']
    by_cases h1 : o1 = some []
    · have h2 : ¬ o2 = some [] := fun z => hn _ _ h1 z rfl
      rw [if_pos h1, if_neg h2, if_pos h1]
      rfl
    · by_cases h2 : o2 = some []
      · rw [if_neg h1, if_pos h2, if_pos h2]
        rfl
      · rw [if_neg h1, if_neg h2, if_neg h2, if_neg h1]
        show (match c.next with | none => _ | some x => _) = flip (match c.next with | none => _ | some x => _)
        cases c.next with
        | none => rfl
        | some x =>
          show (if ((pr 0 o1 ++ pr 1 o2).filterMap _).isEmpty = true then _ else oneOf f ((pr 0 o1 ++ pr 1 o2).filterMap _) c.on) = flip (if ((pr 0 o2 ++ pr 1 o1).filterMap _).isEmpty = true then _ else oneOf f ((pr 0 o2 ++ pr 1 o1).filterMap _) c.on)
          rw [pr_step, pr_step, empty_pr, empty_pr, Bool.and_comm]
          by_cases h : ((o2.bind (strip x)).isNone && (o1.bind (strip x)).isNone) = true
          · rw [if_pos h, if_pos h]; rfl
          · rw [if_neg h, if_neg h]
            refine oneOf_flip f _ _ _ fun u v e1 e2 => ?_
            cases o1 with
            | none => cases e1
            | some a =>
              cases o2 with
              | none => cases e2
              | some b => exact strip_ne (hn a b rfl rfl) e1 e2
theorem oneOf_label (m : Nat) : ∀ (f : Nat) (l : List (Nat × Bytes)) (c : Cur) (j : Nat) (d : Cur), (∀ v ∈ l, v.1 < m) → oneOf f l c = .ok (j, d) → j < m
  | 0, l, c, j, d, _, h => by cases h
  | f + 1, l, c, j, d, hl, h => by
    rw [oneOf] at h
    cases e : l.find? (fun (w : Nat × Bytes) => w.2.isEmpty) with
    | some v =>
      rw [e] at h
      cases h
      exact hl _ (List.mem_of_find?_eq_some e)
    | none =>
      rw [e] at h
      cases e2 : c.next with
      | none => rw [e2] at h; cases h
      | some x =>
        rw [e2] at h
        have h' : (if (l.filterMap fun (w : Nat × Bytes) => if w.2.head? = some x then some (w.1, w.2.drop 1) else none).isEmpty = true then Except.error c.at_ else oneOf f (l.filterMap fun (w : Nat × Bytes) => if w.2.head? = some x then some (w.1, w.2.drop 1) else none) c.on) = .ok (j, d) := h
        split at h'
        · cases h'
        · refine oneOf_label m f _ _ _ _ (fun v hv => ?_) h'
          obtain ⟨u, hu, e3⟩ := List.mem_filterMap.mp hv
          by_cases hx : u.2.head? = some x
          · rw [if_pos hx] at e3
            cases e3
            show u.1 < m
            exact hl u hu
          · rw [if_neg hx] at e3; cases e3
theorem word2 (s t : String) (c : Cur) : word [s, t] c = oneOf 16 (labs 0 [ascii s, ascii t]) c := rfl
theorem word3 (s t u : String) (c : Cur) : word [s, t, u] c = oneOf 16 (labs 0 [ascii s, ascii t, ascii u]) c := rfl
theorem word4 (s t u v : String) (c : Cur) : word [s, t, u, v] c = oneOf 16 (labs 0 [ascii s, ascii t, ascii u, ascii v]) c := rfl
/-- a choice of two words whose order is the other one -/
theorem word2_flip {s t : String} {c : Cur} (h : ascii s ≠ ascii t) : word [s, t] c = flip (oneOf 16 (labs 0 [ascii t, ascii s]) c) := by
  rw [word2]
  exact oneOf_flip 16 (some (ascii s)) (some (ascii t)) c fun a b h1 h2 => by cases h1; cases h2; exact h
theorem flip_ok {x : Except Nat (Nat × Cur)} {j : Nat} {d : Cur} (h : x = .ok (j, d)) : flip x = .ok (1 - j, d) := by rw [h]; rfl
theorem flip_err {x : Except Nat (Nat × Cur)} {e : Nat} (h : x = .error e) : flip x = .error e := by rw [h]; rfl
/-! ### three parts -/
structure GH where
  name : Bytes
  wide : Nat
  high : Nat
  g : List (List Kind)
  gp : List Nat
  s : List (List Piece)
  sp : List Nat
  c : Cur
def gH {β : Type} (c : Cur) (k : GH → Except Nat β) : Except Nat β := do
  let c ← lit (ascii "tafl ") c
  let (n, c) ← nameIn c
  let c ← lit [32] c
  let (w, c) ← number 5 13 c
  let c ← lit [32] c
  let (h, c) ← number 5 13 c
  let c ← lit [10] c
  let c ← lit (ascii "ground") c
  let c ← lit [10] c
  let (g, gp, c) ← rowsIn kindSign w h c
  let c ← lit (ascii "start") c
  let c ← lit [10] c
  let (s, sp, c) ← rowsIn pieceSign w h c
  k ⟨n, w, h, g, gp, s, sp, c⟩
def gK {β : Type} (c : Cur) (k : Nat × Nat × Nat × Nat × Cur → Except Nat β) : Except Nat β := do
  let c ← lit (ascii "first ") c
  let (f, c) ← word ["hunters", "king"] c
  let c ← lit [10] c
  let c ← lit (ascii "king ") c
  let (k1, c) ← word ["steps", "slides"] c
  let c ← lit [32] c
  let (k2, c) ← word ["bare", "armed"] c
  let c ← lit [32] c
  let (k3, c) ← word ["two", "four"] c
  let c ← lit [10] c
  k (f, k1, k2, k3, c)
def gR {β : Type} (c : Cur) (k : Nat × Nat × Nat × Nat × Nat × Nat × Nat → Except Nat β) : Except Nat β := do
  let c ← lit (ascii "seat ") c
  let (s1, c) ← word ["barred", "passed"] c
  let c ← lit [32] c
  let (s2, c) ← word ENMITY c
  let c ← lit [10] c
  let c ← lit (ascii "exits ") c
  let (x, c) ← word ENMITY c
  let c ← lit [10] c
  let c ← lit (ascii "goal ") c
  let p := c.at_
  let (o, c) ← word ["edge", "exits"] c
  let c ← lit [10] c
  let c ← lit (ascii "thrice ") c
  let (t, c) ← word ["drawn", "hunters", "king"] c
  let c ← lit [10] c
  let c ← lit (ascii "limit ") c
  let (l, c) ← number 1 60000 c
  let c ← lit [10] c
  if c.rest = [] then k (s1, s2, x, p, o, t, l) else .error c.at_
def rulesOf (a : GH) (b : Nat × Nat × Nat × Nat × Cur) (r : Nat × Nat × Nat × Nat × Nat × Nat × Nat) : Rules := ⟨a.name, a.wide, a.high, a.g, a.gp, a.s, a.sp, b.1, b.2.1 == 1, b.2.2.1 == 1, b.2.2.2.1 == 1, r.1 == 1, r.2.1, r.2.2.1, r.2.2.2.2.1, r.2.2.2.1, r.2.2.2.2.2.1, r.2.2.2.2.2.2⟩
theorem l1 (c : Cur) : lit (ascii "\nground\n") c = (do let c ← lit [10] c; let c ← lit (ascii "ground") c; lit [10] c) := by
  have e : ascii "\nground\n" = [10] ++ (ascii "ground" ++ [10]) := by decide +kernel
  rw [e, lit_append]
  congr 1
  funext c
  rw [lit_append]
theorem l2 (c : Cur) : lit (ascii "start\n") c = (do let c ← lit (ascii "start") c; lit [10] c) := by
  have e : ascii "start\n" = ascii "start" ++ [10] := by decide +kernel
  rw [e, lit_append]
theorem l3 (c : Cur) : lit (ascii "\nking ") c = (do let c ← lit [10] c; lit (ascii "king ") c) := by
  have e : ascii "\nking " = [10] ++ ascii "king " := by decide +kernel
  rw [e, lit_append]
theorem l4 (c : Cur) : lit (ascii "\nseat ") c = (do let c ← lit [10] c; lit (ascii "seat ") c) := by
  have e : ascii "\nseat " = [10] ++ ascii "seat " := by decide +kernel
  rw [e, lit_append]
theorem l5 (c : Cur) : lit (ascii "\nexits ") c = (do let c ← lit [10] c; lit (ascii "exits ") c) := by
  have e : ascii "\nexits " = [10] ++ ascii "exits " := by decide +kernel
  rw [e, lit_append]
theorem l6 (c : Cur) : lit (ascii "\ngoal ") c = (do let c ← lit [10] c; lit (ascii "goal ") c) := by
  have e : ascii "\ngoal " = [10] ++ ascii "goal " := by decide +kernel
  rw [e, lit_append]
theorem l7 (c : Cur) : lit (ascii "\nthrice ") c = (do let c ← lit [10] c; lit (ascii "thrice ") c) := by
  have e : ascii "\nthrice " = [10] ++ ascii "thrice " := by decide +kernel
  rw [e, lit_append]
theorem l8 (c : Cur) : lit (ascii "\nlimit ") c = (do let c ← lit [10] c; lit (ascii "limit ") c) := by
  have e : ascii "\nlimit " = [10] ++ ascii "limit " := by decide +kernel
  rw [e, lit_append]
theorem grammar_eq (b : Bytes) : grammar b = gH ⟨b, 0⟩ fun a => gK a.c fun k => gR k.2.2.2.2 fun r => .ok (rulesOf a k r) := by
  unfold grammar gH gK gR
  simp only [l1, l2, l3, l4, l5, l6, l7, l8, bind_assoc, LF]
  rfl
end TfP

set_option maxRecDepth 100000
set_option maxHeartbeats 1000000
/-! # The rules' lines (printed by mkhead.py) -/
namespace Tf
open PySem PySem.Spec PyProof.Rows L2 TfP
theorem RdAt.other {K : PySem.W.Frag} {A : Adr} {H : Hp} {a b C dx : Addr} {fs fs' : List (Str × V)} {S : RS} {n : Nat} (R : RdAt K A H a S n) (e : H b = some (.ins C dx fs)) (ne : b ≠ a) : RdAt K A (upd H b (.ins C dx fs')) a S n := by
  obtain ⟨⟨dx', h1⟩, h2, h3, h4, h5, h6⟩ := R
  exact ⟨⟨dx', (upd_ne (Ne.symm ne)).trans h1⟩, h2, (Kp.upd (p := (· = b)) rfl).sqI e (fun _ z => z) h3, h4, h5, h6⟩
theorem nt_of {H : Hp} {a C dx : Addr} {fs : List (Str × V)} (h : H a = some (.ins C dx fs)) : NoTup (· = a) H := fun b o hb e => by rw [hb, h] at e; cases e; rfl
def kindB : Tafl.Kind → UInt8
  | .plain => 46
  | .seat => 83
  | .exit => 88
  | .wall => 35
theorem mem4 (a b c d x : Nat) : [a, b, c, d].contains x = true ↔ x = a ∨ x = b ∨ x = c ∨ x = d := by
  rw [List.contains_iff_mem]
  simp only [List.mem_cons, List.not_mem_nil, or_false]
theorem kindOk : SignsOk Tafl.kindSign kindB [46, 83, 88, 35] := by
  refine ⟨fun x h => ?_, fun x h => ?_, fun x k h => ?_⟩
  · rw [mem4] at h
    rcases h with h | h | h | h
    · exact ⟨.plain, by have : x = 46 := u8_inj h; subst this; rfl⟩
    · exact ⟨.seat, by have : x = 83 := u8_inj h; subst this; rfl⟩
    · exact ⟨.exit, by have : x = 88 := u8_inj h; subst this; rfl⟩
    · exact ⟨.wall, by have : x = 35 := u8_inj h; subst this; rfl⟩
  · have h1 : ∀ y : UInt8, [46, 83, 88, 35].contains y.toNat = true → ¬ x = y := fun y hy z => by rw [z, hy] at h; cases h
    unfold Tafl.kindSign
    rw [if_neg (h1 46 (by decide)), if_neg (h1 83 (by decide)), if_neg (h1 88 (by decide)), if_neg (h1 35 (by decide))]
  · unfold Tafl.kindSign at h
    repeat (split at h; (next e => cases h; exact e.symm))
    cases h
theorem pieceOk : SignsOk Tafl.pieceSign Tafl.pieceByte [46, 104, 109, 75] := by
  refine ⟨fun x h => ?_, fun x h => ?_, fun x k h => ?_⟩
  · rw [mem4] at h
    rcases h with h | h | h | h
    · exact ⟨.none, by have : x = 46 := u8_inj h; subst this; rfl⟩
    · exact ⟨.hunter, by have : x = 104 := u8_inj h; subst this; rfl⟩
    · exact ⟨.man, by have : x = 109 := u8_inj h; subst this; rfl⟩
    · exact ⟨.king, by have : x = 75 := u8_inj h; subst this; rfl⟩
  · have h1 : ∀ y : UInt8, [46, 104, 109, 75].contains y.toNat = true → ¬ x = y := fun y hy z => by rw [z, hy] at h; cases h
    unfold Tafl.pieceSign
    rw [if_neg (h1 46 (by decide)), if_neg (h1 104 (by decide)), if_neg (h1 109 (by decide)), if_neg (h1 75 (by decide))]
  · unfold Tafl.pieceSign at h
    repeat (split at h; (next e => cases h; exact e.symm))
    cases h
section
variable {P : Program} {w : World} {K : PySem.W.Frag} {mg : Str → Option Value} {base : Heap} {A : Adr}
def sp_head_read (K : PySem.W.Frag) (A : Adr) : Sp := fun vs H Q E => ∃ a S ra dr f, vs = [.ref a, .ref ra] ∧ RdAt K A H a S 0 ∧ H ra = some (.ins A.c_Rules dr (ruF f)) ∧ ra ≠ a ∧
  (∀ (G : TfP.GH) n' H' gl xs sl ys, (∀ (β : Type) (k : TfP.GH → Except Nat β), TfP.gH (cur S.bs 0) k = k G) → G.c = cur S.bs n' → 5 ≤ G.wide → G.wide ≤ 13 → 5 ≤ G.high → G.high ≤ 13 → G.g.length = G.high → G.gp.length = G.high → (∀ r ∈ G.g, r.length = G.wide) → G.s.length = G.high → G.sp.length = G.high → (∀ r ∈ G.s, r.length = G.wide) →
    Kp (fun b => b = a ∨ b = ra) H H' → RdAt K A H' a S n' → H' ra = some (.ins A.c_Rules dr (ruF { f with wide := G.wide, high := G.high, gr := gl, st := sl })) →
    H' gl = some (.lst xs) → TupsAt K rowV H' xs (TfP.flatR kindB G.high 0 G.g G.gp) → xs.length ≤ 169 → H' sl = some (.lst ys) → TupsAt K rowV H' ys (TfP.flatR Tafl.pieceByte G.high 0 G.s G.sp) → ys.length ≤ 169 → Q .non H') ∧
  (∀ p, (∀ (β : Type) (k : TfP.GH → Except Nat β), TfP.gH (cur S.bs 0) k = .error p) → EF A (fun b => b = a ∨ b = ra) H E 1 p)

theorem ok_head_read (T : Txt K mg A) : FnOk P w K mg base (L2N.CX P w) 7 A.f_head_read A.d_head_read ["reader", "rules"] (sp_head_read K A) := by
  refine okG T.F_head_read sc_head_read (fun vs H Q E h => ?_) (fun cdv B outer s H vs Q E hr h => ?_)
  · obtain ⟨a, S, ra, dr, f, rfl, _⟩ := h
    rfl
  · obtain ⟨a, S, ra, dr, f, rfl, Z, hra, nra, qT, qF⟩ := h
    have R := Z.rd
    refine ⟨_, (pss_cons (ps_expr (pe_meth (pv 0) R.cl R.m_literal (ok_Bytes_literal T) (hr.mono (by decide)) T.b_Bytes_literal .nil (pxN (L2N.takes_of rfl rfl rfl rfl)) (pa_cons pe_str pa_nil)))
  (pss_cons (ps_expr (pe_meth0 (pv 0) R.cl R.m_name (ok_Bytes_name T) (hr.mono (by decide)) T.b_Bytes_name .nil (pxN (L2N.takes_of rfl rfl rfl rfl))))
  (pss_cons (ps_expr (pe_meth (pv 0) R.cl R.m_literal (ok_Bytes_literal T) (hr.mono (by decide)) T.b_Bytes_literal .nil (pxN (L2N.takes_of rfl rfl rfl rfl)) (pa_cons pe_str pa_nil)))
  (pss_cons (ps_fld (pv 1) (pe_meth0 (pv 0) R.cl R.m_size (ok_Bytes_size T) (hr.mono (by decide)) T.b_Bytes_size .nil (pxN (L2N.takes_of rfl rfl rfl rfl))) rfl)
  (pss_cons (ps_expr (pe_meth (pv 0) R.cl R.m_literal (ok_Bytes_literal T) (hr.mono (by decide)) T.b_Bytes_literal .nil (pxN (L2N.takes_of rfl rfl rfl rfl)) (pa_cons pe_str pa_nil)))
  (pss_cons (ps_fld (pv 1) (pe_meth0 (pv 0) R.cl R.m_size (ok_Bytes_size T) (hr.mono (by decide)) T.b_Bytes_size .nil (pxN (L2N.takes_of rfl rfl rfl rfl))) rfl)
  (pss_cons (ps_expr (pe_meth0 (pv 0) R.cl R.m_line_end (ok_Bytes_line_end T) (hr.mono (by decide)) T.b_Bytes_line_end .nil (pxN (L2N.takes_of rfl rfl rfl rfl))))
  (pss_cons (ps_expr (pe_meth (pv 0) R.cl R.m_literal (ok_Bytes_literal T) (hr.mono (by decide)) T.b_Bytes_literal .nil (pxN (L2N.takes_of rfl rfl rfl rfl)) (pa_cons pe_str pa_nil)))
  (pss_cons (ps_expr (pe_meth0 (pv 0) R.cl R.m_line_end (ok_Bytes_line_end T) (hr.mono (by decide)) T.b_Bytes_line_end .nil (pxN (L2N.takes_of rfl rfl rfl rfl))))
  (pss_cons (ps_fld (pv 1) (pe_call (ok_rows_read T) (hr.mono (by decide)) rfl T.g_rows_read T.F_rows_read.kp T.b_rows_read .nil (pxN (L2N.takes_of rfl rfl rfl rfl)) (pa_cons (pv 0) (pa_cons (pv 1) (pa_cons (pe_gs T.g_GROUND) pa_nil)))) rfl)
  (pss_cons (ps_expr (pe_meth (pv 0) R.cl R.m_literal (ok_Bytes_literal T) (hr.mono (by decide)) T.b_Bytes_literal .nil (pxN (L2N.takes_of rfl rfl rfl rfl)) (pa_cons pe_str pa_nil)))
  (pss_cons (ps_expr (pe_meth0 (pv 0) R.cl R.m_line_end (ok_Bytes_line_end T) (hr.mono (by decide)) T.b_Bytes_line_end .nil (pxN (L2N.takes_of rfl rfl rfl rfl))))
  (pss_one (ps_fld (pv 1) (pe_call (ok_rows_read T) (hr.mono (by decide)) rfl T.g_rows_read T.F_rows_read.kp T.b_rows_read .nil (pxN (L2N.takes_of rfl rfl rfl rfl)) (pa_cons (pv 0) (pa_cons (pv 1) (pa_cons (pe_gs T.g_START) pa_nil)))) rfl)))))))))))))), ?_⟩
    have kk : Kp (fun b => b = a ∨ b = ra) H H := Kp.refl
    obtain ⟨dx, ho⟩ := Z.obj
    have t1 : V.str (Str.ofString "tafl ") = txV (Tafl.ascii "tafl ") := by decide +kernel
    refine ⟨_, rfl, a, dx, _, rfl, ho, rdF_none Z.ex, a, S, _, _, congrArg (fun z => [V.ref a, z]) t1, Z, fun n1 H1 e1 k1 Z => ?_, fun p e1 => (qF p fun β k => by simp only [TfP.gH, e1, TfP.bind_ok, TfP.bind_err]).up kk fun _ z => .inl z⟩
    have kk := kk.trans (k1.mono fun _ z => .inl z)
    have hra := k1.keep _ _ hra nra
    obtain ⟨dx, ho⟩ := Z.obj
    refine ⟨_, rfl, a, dx, _, rfl, ho, rdF_none Z.ex, a, S, _, rfl, Z, fun v2 n2 H2 e2 k2 Z => ?_, fun p e2 => (qF p fun β k => by simp only [TfP.gH, e1, e2, TfP.bind_ok, TfP.bind_err]).up kk fun _ z => .inl z⟩
    have kk := kk.trans (k2.mono fun _ z => .inl z)
    have hra := k2.keep _ _ hra nra
    obtain ⟨dx, ho⟩ := Z.obj
    have t3 : V.str (Str.ofString " ") = txV [32] := by decide +kernel
    refine ⟨_, rfl, a, dx, _, rfl, ho, rdF_none Z.ex, a, S, _, _, congrArg (fun z => [V.ref a, z]) t3, Z, fun n3 H3 e3 k3 Z => ?_, fun p e3 => (qF p fun β k => by simp only [TfP.gH, e1, e2, e3, TfP.bind_ok, TfP.bind_err]).up kk fun _ z => .inl z⟩
    have kk := kk.trans (k3.mono fun _ z => .inl z)
    have hra := k3.keep _ _ hra nra
    obtain ⟨dx, ho⟩ := Z.obj
    refine ⟨_, rfl, a, dx, _, rfl, ho, rdF_none Z.ex, a, S, _, rfl, Z, fun w n4 H4 e4 w5 w13 k4 Z => ?_, fun p e4 => (qF p fun β k => by simp only [TfP.gH, e1, e2, e3, e4, TfP.bind_ok, TfP.bind_err]).up kk fun _ z => .inl z⟩
    have kk := kk.trans (k4.mono fun _ z => .inl z)
    have hra := k4.keep _ _ hra nra
    obtain ⟨dx, ho⟩ := Z.obj
    refine ⟨_, rfl, ra, A.c_Rules, dr, _, rfl, hra, T.cl_Rules, T.n_Rules_wide, ruF_few _, ?_⟩
    rw [rp_wide]
    have Z : RdAt K A (upd H4 ra (.ins A.c_Rules dr (ruF { f with wide := w }))) a S n4 := Z.other hra nra
    have kk := kk.trans (Kp.upd (p := fun b => b = a ∨ b = ra) (o := .ins A.c_Rules dr (ruF { f with wide := w })) (.inr rfl))
    have hra : (upd H4 ra (.ins A.c_Rules dr (ruF { f with wide := w }))) ra = some (.ins A.c_Rules dr (ruF { f with wide := w })) := upd_same
    obtain ⟨dx, ho⟩ := Z.obj
    have t5 : V.str (Str.ofString " ") = txV [32] := by decide +kernel
    refine ⟨_, rfl, a, dx, _, rfl, ho, rdF_none Z.ex, a, S, _, _, congrArg (fun z => [V.ref a, z]) t5, Z, fun n5 H5 e5 k5 Z => ?_, fun p e5 => (qF p fun β k => by simp only [TfP.gH, e1, e2, e3, e4, e5, TfP.bind_ok, TfP.bind_err]).up kk fun _ z => .inl z⟩
    have kk := kk.trans (k5.mono fun _ z => .inl z)
    have hra := k5.keep _ _ hra nra
    obtain ⟨dx, ho⟩ := Z.obj
    refine ⟨_, rfl, a, dx, _, rfl, ho, rdF_none Z.ex, a, S, _, rfl, Z, fun h n6 H6 e6 h5 h13 k6 Z => ?_, fun p e6 => (qF p fun β k => by simp only [TfP.gH, e1, e2, e3, e4, e5, e6, TfP.bind_ok, TfP.bind_err]).up kk fun _ z => .inl z⟩
    have kk := kk.trans (k6.mono fun _ z => .inl z)
    have hra := k6.keep _ _ hra nra
    obtain ⟨dx, ho⟩ := Z.obj
    refine ⟨_, rfl, ra, A.c_Rules, dr, _, rfl, hra, T.cl_Rules, T.n_Rules_high, ruF_few _, ?_⟩
    rw [rp_high]
    have Z : RdAt K A (upd H6 ra (.ins A.c_Rules dr (ruF { f with wide := w, high := h }))) a S n6 := Z.other hra nra
    have kk := kk.trans (Kp.upd (p := fun b => b = a ∨ b = ra) (o := .ins A.c_Rules dr (ruF { f with wide := w, high := h })) (.inr rfl))
    have hra : (upd H6 ra (.ins A.c_Rules dr (ruF { f with wide := w, high := h }))) ra = some (.ins A.c_Rules dr (ruF { f with wide := w, high := h })) := upd_same
    obtain ⟨dx, ho⟩ := Z.obj
    refine ⟨_, rfl, a, dx, _, rfl, ho, rdF_none Z.ex, a, S, _, rfl, Z, fun n7 H7 e7 k7 Z => ?_, fun p e7 => (qF p fun β k => by simp only [TfP.gH, e1, e2, e3, e4, e5, e6, e7, TfP.bind_ok, TfP.bind_err]).up kk fun _ z => .inl z⟩
    have kk := kk.trans (k7.mono fun _ z => .inl z)
    have hra := k7.keep _ _ hra nra
    obtain ⟨dx, ho⟩ := Z.obj
    have t8 : V.str (Str.ofString "ground") = txV (Tafl.ascii "ground") := by decide +kernel
    refine ⟨_, rfl, a, dx, _, rfl, ho, rdF_none Z.ex, a, S, _, _, congrArg (fun z => [V.ref a, z]) t8, Z, fun n8 H8 e8 k8 Z => ?_, fun p e8 => (qF p fun β k => by simp only [TfP.gH, e1, e2, e3, e4, e5, e6, e7, e8, TfP.bind_ok, TfP.bind_err]).up kk fun _ z => .inl z⟩
    have kk := kk.trans (k8.mono fun _ z => .inl z)
    have hra := k8.keep _ _ hra nra
    obtain ⟨dx, ho⟩ := Z.obj
    refine ⟨_, rfl, a, dx, _, rfl, ho, rdF_none Z.ex, a, S, _, rfl, Z, fun n9 H9 e9 k9 Z => ?_, fun p e9 => (qF p fun β k => by simp only [TfP.gH, e1, e2, e3, e4, e5, e6, e7, e8, e9, TfP.bind_ok, TfP.bind_err]).up kk fun _ z => .inl z⟩
    have kk := kk.trans (k9.mono fun _ z => .inl z)
    have hra := k9.keep _ _ hra nra
    obtain ⟨dx, ho⟩ := Z.obj
    have t10 : V.str (Str.ofString ".SX#") = .str ⟨[46, 83, 88, 35].toArray⟩ := by decide +kernel
    refine ⟨_, rfl, _, rfl, _, Tafl.kindSign, kindB, [46, 83, 88, 35], a, S, _, ra, dr, { f with wide := w, high := h }, congrArg (fun z => [V.ref a, V.ref ra, z]) t10, kindOk, (by decide), Z, hra, nra, w13, h13, fun g0 gp n10 H10 gl xs e g0_l g0_pl g0_w k10 Z g0_n g0_h g0_t g0_f => ?_, fun p e => (qF p fun β k => by have e10 : Tafl.rowsIn Tafl.kindSign w h (cur S.bs n9) = .error p := e; simp only [TfP.gH, e1, e2, e3, e4, e5, e6, e7, e8, e9, e10, TfP.bind_ok, TfP.bind_err]).up kk fun _ z => .inl z⟩
    have e10 : Tafl.rowsIn Tafl.kindSign w h (cur S.bs n9) = .ok (g0, gp, cur S.bs n10) := e
    have kk := kk.trans (k10.mono fun _ z => .inl z)
    have hra := k10.keep _ _ hra nra
    obtain ⟨dx, ho⟩ := Z.obj
    have g0_ne : gl ≠ a := ne_of g0_h ho (by intro z; cases z)
    refine ⟨_, rfl, ra, A.c_Rules, dr, _, rfl, hra, T.cl_Rules, T.n_Rules_ground, ruF_few _, ?_⟩
    rw [rp_ground]
    have Z : RdAt K A (upd H10 ra (.ins A.c_Rules dr (ruF { f with wide := w, high := h, gr := gl }))) a S n10 := Z.other hra nra
    have kk := kk.trans (Kp.upd (p := fun b => b = a ∨ b = ra) (o := .ins A.c_Rules dr (ruF { f with wide := w, high := h, gr := gl })) (.inr rfl))
    have g0_t := g0_t.keep (p := (· = ra)) (Kp.upd (o := .ins A.c_Rules dr (ruF { f with wide := w, high := h, gr := gl })) rfl) (nt_of hra)
    have g0_h := (upd_ne (o := .ins A.c_Rules dr (ruF { f with wide := w, high := h, gr := gl })) (ne_of g0_h hra (by intro z; cases z))).trans g0_h
    have hra : (upd H10 ra (.ins A.c_Rules dr (ruF { f with wide := w, high := h, gr := gl }))) ra = some (.ins A.c_Rules dr (ruF { f with wide := w, high := h, gr := gl })) := upd_same
    obtain ⟨dx, ho⟩ := Z.obj
    have t11 : V.str (Str.ofString "start") = txV (Tafl.ascii "start") := by decide +kernel
    refine ⟨_, rfl, a, dx, _, rfl, ho, rdF_none Z.ex, a, S, _, _, congrArg (fun z => [V.ref a, z]) t11, Z, fun n11 H11 e11 k11 Z => ?_, fun p e11 => (qF p fun β k => by simp only [TfP.gH, e1, e2, e3, e4, e5, e6, e7, e8, e9, e10, e11, TfP.bind_ok, TfP.bind_err]).up kk fun _ z => .inl z⟩
    have kk := kk.trans (k11.mono fun _ z => .inl z)
    have g0_h := k11.keep _ _ g0_h g0_ne
    have g0_t := g0_t.keep k11 (nt_of ho)
    have hra := k11.keep _ _ hra nra
    obtain ⟨dx, ho⟩ := Z.obj
    refine ⟨_, rfl, a, dx, _, rfl, ho, rdF_none Z.ex, a, S, _, rfl, Z, fun n12 H12 e12 k12 Z => ?_, fun p e12 => (qF p fun β k => by simp only [TfP.gH, e1, e2, e3, e4, e5, e6, e7, e8, e9, e10, e11, e12, TfP.bind_ok, TfP.bind_err]).up kk fun _ z => .inl z⟩
    have kk := kk.trans (k12.mono fun _ z => .inl z)
    have g0_h := k12.keep _ _ g0_h g0_ne
    have g0_t := g0_t.keep k12 (nt_of ho)
    have hra := k12.keep _ _ hra nra
    obtain ⟨dx, ho⟩ := Z.obj
    have t13 : V.str (Str.ofString ".hmK") = .str ⟨[46, 104, 109, 75].toArray⟩ := by decide +kernel
    refine ⟨_, rfl, _, rfl, _, Tafl.pieceSign, Tafl.pieceByte, [46, 104, 109, 75], a, S, _, ra, dr, { f with wide := w, high := h, gr := gl }, congrArg (fun z => [V.ref a, V.ref ra, z]) t13, pieceOk, (by decide), Z, hra, nra, w13, h13, fun s0 sp n13 H13 sl ys e s0_l s0_pl s0_w k13 Z s0_n s0_h s0_t s0_f => ?_, fun p e => (qF p fun β k => by have e13 : Tafl.rowsIn Tafl.pieceSign w h (cur S.bs n12) = .error p := e; simp only [TfP.gH, e1, e2, e3, e4, e5, e6, e7, e8, e9, e10, e11, e12, e13, TfP.bind_ok, TfP.bind_err]).up kk fun _ z => .inl z⟩
    have e13 : Tafl.rowsIn Tafl.pieceSign w h (cur S.bs n12) = .ok (s0, sp, cur S.bs n13) := e
    have kk := kk.trans (k13.mono fun _ z => .inl z)
    have g0_h := k13.keep _ _ g0_h g0_ne
    have g0_t := g0_t.keep k13 (nt_of ho)
    have hra := k13.keep _ _ hra nra
    obtain ⟨dx, ho⟩ := Z.obj
    have s0_ne : sl ≠ a := ne_of s0_h ho (by intro z; cases z)
    refine ⟨_, rfl, ra, A.c_Rules, dr, _, rfl, hra, T.cl_Rules, T.n_Rules_start, ruF_few _, ?_⟩
    rw [rp_start]
    have Z : RdAt K A (upd H13 ra (.ins A.c_Rules dr (ruF { f with wide := w, high := h, gr := gl, st := sl }))) a S n13 := Z.other hra nra
    have kk := kk.trans (Kp.upd (p := fun b => b = a ∨ b = ra) (o := .ins A.c_Rules dr (ruF { f with wide := w, high := h, gr := gl, st := sl })) (.inr rfl))
    have g0_t := g0_t.keep (p := (· = ra)) (Kp.upd (o := .ins A.c_Rules dr (ruF { f with wide := w, high := h, gr := gl, st := sl })) rfl) (nt_of hra)
    have g0_h := (upd_ne (o := .ins A.c_Rules dr (ruF { f with wide := w, high := h, gr := gl, st := sl })) (ne_of g0_h hra (by intro z; cases z))).trans g0_h
    have s0_t := s0_t.keep (p := (· = ra)) (Kp.upd (o := .ins A.c_Rules dr (ruF { f with wide := w, high := h, gr := gl, st := sl })) rfl) (nt_of hra)
    have s0_h := (upd_ne (o := .ins A.c_Rules dr (ruF { f with wide := w, high := h, gr := gl, st := sl })) (ne_of s0_h hra (by intro z; cases z))).trans s0_h
    have hra : (upd H13 ra (.ins A.c_Rules dr (ruF { f with wide := w, high := h, gr := gl, st := sl }))) ra = some (.ins A.c_Rules dr (ruF { f with wide := w, high := h, gr := gl, st := sl })) := upd_same
    obtain ⟨dx, ho⟩ := Z.obj
    refine qT ⟨v2, w, h, g0, gp, s0, sp, cur S.bs n13⟩ n13 _ gl xs sl ys (fun β k => by simp only [TfP.gH, e1, e2, e3, e4, e5, e6, e7, e8, e9, e10, e11, e12, e13, TfP.bind_ok]) rfl w5 w13 h5 h13 g0_l g0_pl g0_w s0_l s0_pl s0_w kk Z hra g0_h g0_t g0_f s0_h s0_t s0_f
def sp_king_read (K : PySem.W.Frag) (A : Adr) : Sp := fun vs H Q E => ∃ a S n ra dr f, vs = [.ref a, .ref ra] ∧ RdAt K A H a S n ∧ H ra = some (.ins A.c_Rules dr (ruF f)) ∧ ra ≠ a ∧
  (∀ (b : Nat × Nat × Nat × Nat × Tafl.Cur) n' H', (∀ (β : Type) (k : Nat × Nat × Nat × Nat × Tafl.Cur → Except Nat β), TfP.gK (cur S.bs n) k = k b) → b.2.2.2.2 = cur S.bs n' → Kp (fun b => b = a ∨ b = ra) H H' → RdAt K A H' a S n' →
    H' ra = some (.ins A.c_Rules dr (ruF { f with first := b.1 == 1, slides := b.2.1 == 1, armed := b.2.2.1 == 1, four := b.2.2.2.1 == 1 })) → Q .non H') ∧
  (∀ p, (∀ (β : Type) (k : Nat × Nat × Nat × Nat × Tafl.Cur → Except Nat β), TfP.gK (cur S.bs n) k = .error p) → EF A (fun b => b = a ∨ b = ra) H E 1 p)
theorem ok_king_read (T : Txt K mg A) : FnOk P w K mg base (L2N.CX P w) 6 A.f_king_read A.d_king_read ["reader", "rules"] (sp_king_read K A) := by
  refine okG T.F_king_read sc_king_read (fun vs H Q E h => ?_) (fun cdv B outer s H vs Q E hr h => ?_)
  · obtain ⟨a, S, n, ra, dr, f, rfl, _⟩ := h
    rfl
  · obtain ⟨a, S, n, ra, dr, f, rfl, Z, hra, nra, qT, qF⟩ := h
    have R := Z.rd
    refine ⟨_, (pss_cons (ps_expr (pe_meth (pv 0) R.cl R.m_literal (ok_Bytes_literal T) (hr.mono (by decide)) T.b_Bytes_literal .nil (pxN (L2N.takes_of rfl rfl rfl rfl)) (pa_cons pe_str pa_nil)))
  (pss_cons (ps_fld (pv 1) (pe_cmpR op_eq (pe_meth (pv 0) R.cl R.m_choice (ok_Bytes_choice T) (hr.mono (by decide)) T.b_Bytes_choice .nil (pxN (L2N.takes_of rfl rfl rfl rfl)) (pa_cons (pe_gr T.g_SIDES) pa_nil)) (pe_gi T.g_KING) (nomark _)) rfl)
  (pss_cons (ps_expr (pe_meth0 (pv 0) R.cl R.m_line_end (ok_Bytes_line_end T) (hr.mono (by decide)) T.b_Bytes_line_end .nil (pxN (L2N.takes_of rfl rfl rfl rfl))))
  (pss_cons (ps_expr (pe_meth (pv 0) R.cl R.m_literal (ok_Bytes_literal T) (hr.mono (by decide)) T.b_Bytes_literal .nil (pxN (L2N.takes_of rfl rfl rfl rfl)) (pa_cons pe_str pa_nil)))
  (pss_cons (ps_fld (pv 1) (pe_cmpR op_eq (pe_meth (pv 0) R.cl R.m_choice (ok_Bytes_choice T) (hr.mono (by decide)) T.b_Bytes_choice .nil (pxN (L2N.takes_of rfl rfl rfl rfl)) (pa_cons (pe_tupF (pa_cons pe_str (pa_cons pe_str pa_nil))) pa_nil)) pe_int (nomark _)) rfl)
  (pss_cons (ps_expr (pe_meth (pv 0) R.cl R.m_literal (ok_Bytes_literal T) (hr.mono (by decide)) T.b_Bytes_literal .nil (pxN (L2N.takes_of rfl rfl rfl rfl)) (pa_cons pe_str pa_nil)))
  (pss_cons (ps_fld (pv 1) (pe_cmpR op_eq (pe_meth (pv 0) R.cl R.m_choice (ok_Bytes_choice T) (hr.mono (by decide)) T.b_Bytes_choice .nil (pxN (L2N.takes_of rfl rfl rfl rfl)) (pa_cons (pe_tupF (pa_cons pe_str (pa_cons pe_str pa_nil))) pa_nil)) pe_int (nomark _)) rfl)
  (pss_cons (ps_expr (pe_meth (pv 0) R.cl R.m_literal (ok_Bytes_literal T) (hr.mono (by decide)) T.b_Bytes_literal .nil (pxN (L2N.takes_of rfl rfl rfl rfl)) (pa_cons pe_str pa_nil)))
  (pss_cons (ps_fld (pv 1) (pe_cmpR op_eq (pe_meth (pv 0) R.cl R.m_choice (ok_Bytes_choice T) (hr.mono (by decide)) T.b_Bytes_choice .nil (pxN (L2N.takes_of rfl rfl rfl rfl)) (pa_cons (pe_tupF (pa_cons pe_str (pa_cons pe_str pa_nil))) pa_nil)) pe_int (nomark _)) rfl)
  (pss_one (ps_expr (pe_meth0 (pv 0) R.cl R.m_line_end (ok_Bytes_line_end T) (hr.mono (by decide)) T.b_Bytes_line_end .nil (pxN (L2N.takes_of rfl rfl rfl rfl)))))))))))))), ?_⟩
    have kk : Kp (fun b => b = a ∨ b = ra) H H := Kp.refl
    obtain ⟨dx, ho⟩ := Z.obj
    have t1 : V.str (Str.ofString "first ") = txV (Tafl.ascii "first ") := by decide +kernel
    refine ⟨_, rfl, a, dx, _, rfl, ho, rdF_none Z.ex, a, S, _, _, congrArg (fun z => [V.ref a, z]) t1, Z, fun n1 H1 e1 k1 Z => ?_, fun p e1 => (qF p fun β k => by simp only [TfP.gK, e1, TfP.bind_ok, TfP.bind_err]).up kk fun _ z => .inl z⟩
    have kk := kk.trans (k1.mono fun _ z => .inl z)
    have hra := k1.keep _ _ hra nra
    obtain ⟨dx, ho⟩ := Z.obj
    have t2 : [V.str (Str.ofString "hunters"), V.str (Str.ofString "king")] = [Tafl.ascii "hunters", Tafl.ascii "king"].map txV := by decide +kernel
    have u2 : WordsOk [Tafl.ascii "hunters", Tafl.ascii "king"] := ⟨by simp, by decide, by decide +kernel⟩
    refine ⟨_, rfl, a, dx, _, rfl, ho, rdF_none Z.ex, a, S, _, _, [Tafl.ascii "hunters", Tafl.ascii "king"], rfl, Z, (by rw [← t2]; exact T.t_SIDES.sq _), T.t_SIDES.ty _, u2, fun j2 n2 H2 e k2 Z => ?_, fun p e => (qF p fun β k => by have e2 : Tafl.word ["hunters", "king"] (cur S.bs n1) = .error p := e; simp only [TfP.gK, e1, e2, TfP.bind_ok, TfP.bind_err]).up kk fun _ z => .inl z⟩
    have e2 : Tafl.word ["hunters", "king"] (cur S.bs n1) = .ok (j2, cur S.bs n2) := e
    have kk := kk.trans (k2.mono fun _ z => .inl z)
    have hra := k2.keep _ _ hra nra
    obtain ⟨dx, ho⟩ := Z.obj
    have v2 : decide (V.int ((j2 : Nat) : Int) = V.int 1) = ((j2) == 1) := by rw [dec_int, Bool.eq_iff_iff, beq_iff_eq, beq_iff_eq]; omega
    refine ⟨rfl, ?_⟩
    rw [v2]
    refine ⟨_, rfl, ra, A.c_Rules, dr, _, rfl, hra, T.cl_Rules, T.n_Rules_is_king_first, ruF_few _, ?_⟩
    rw [rp_is_king_first]
    have Z : RdAt K A (upd H2 ra (.ins A.c_Rules dr (ruF { f with first := (j2) == 1 }))) a S n2 := Z.other hra nra
    have kk := kk.trans (Kp.upd (p := fun b => b = a ∨ b = ra) (o := .ins A.c_Rules dr (ruF { f with first := (j2) == 1 })) (.inr rfl))
    have hra : (upd H2 ra (.ins A.c_Rules dr (ruF { f with first := (j2) == 1 }))) ra = some (.ins A.c_Rules dr (ruF { f with first := (j2) == 1 })) := upd_same
    obtain ⟨dx, ho⟩ := Z.obj
    refine ⟨_, rfl, a, dx, _, rfl, ho, rdF_none Z.ex, a, S, _, rfl, Z, fun n3 H3 e3 k3 Z => ?_, fun p e3 => (qF p fun β k => by simp only [TfP.gK, e1, e2, e3, TfP.bind_ok, TfP.bind_err]).up kk fun _ z => .inl z⟩
    have kk := kk.trans (k3.mono fun _ z => .inl z)
    have hra := k3.keep _ _ hra nra
    obtain ⟨dx, ho⟩ := Z.obj
    have t4 : V.str (Str.ofString "king ") = txV (Tafl.ascii "king ") := by decide +kernel
    refine ⟨_, rfl, a, dx, _, rfl, ho, rdF_none Z.ex, a, S, _, _, congrArg (fun z => [V.ref a, z]) t4, Z, fun n4 H4 e4 k4 Z => ?_, fun p e4 => (qF p fun β k => by simp only [TfP.gK, e1, e2, e3, e4, TfP.bind_ok, TfP.bind_err]).up kk fun _ z => .inl z⟩
    have kk := kk.trans (k4.mono fun _ z => .inl z)
    have hra := k4.keep _ _ hra nra
    obtain ⟨dx, ho⟩ := Z.obj
    have t5 : [V.str (Str.ofString "slides"), V.str (Str.ofString "steps")] = [Tafl.ascii "slides", Tafl.ascii "steps"].map txV := by decide +kernel
    have u5 : WordsOk [Tafl.ascii "slides", Tafl.ascii "steps"] := ⟨by simp, by decide, by decide +kernel⟩
    refine ⟨_, rfl, a, dx, _, rfl, ho, rdF_none Z.ex, (by show _ ≤ sizeLine; exact smallE (by decide)), fun p5 o5 np5 oc5 od5 => ⟨a, S, _, p5, [Tafl.ascii "slides", Tafl.ascii "steps"], rfl, Z.same (same_new np5), .inl (.inr ⟨o5, by rw [← t5]; exact upd_same⟩), ⟨p5, rfl, .inr ⟨o5, _, upd_same, oc5, od5⟩⟩, u5, fun j5 n5 H5 e k5 Z => ?_, fun p e => (qF p fun β k => by have e5 : Tafl.word ["steps", "slides"] (cur S.bs n4) = .error p := (TfP.word2_flip (by decide +kernel)).trans (TfP.flip_err e); simp only [TfP.gK, e1, e2, e3, e4, e5, TfP.bind_ok, TfP.bind_err]).up (kk.trans (Kp.new np5)) fun _ z => .inl z⟩⟩
    have kk := kk.trans (Kp.new (p := fun b => b = a ∨ b = ra) (o := .frz o5 (.tup [V.str (Str.ofString "slides"), V.str (Str.ofString "steps")])) np5)
    have hra := (same_new (o := .frz o5 (.tup [V.str (Str.ofString "slides"), V.str (Str.ofString "steps")])) np5) _ _ hra
    have ho := (same_new (o := .frz o5 (.tup [V.str (Str.ofString "slides"), V.str (Str.ofString "steps")])) np5) _ _ ho
    have e5 : Tafl.word ["steps", "slides"] (cur S.bs n4) = .ok (1 - j5, cur S.bs n5) := (TfP.word2_flip (by decide +kernel)).trans (TfP.flip_ok e)
    have kk := kk.trans (k5.mono fun _ z => .inl z)
    have hra := k5.keep _ _ hra nra
    obtain ⟨dx, ho⟩ := Z.obj
    have v5 : decide (V.int ((j5 : Nat) : Int) = V.int 0) = ((1 - j5) == 1) := by rw [dec_int, Bool.eq_iff_iff, beq_iff_eq, beq_iff_eq]; omega
    refine ⟨rfl, ?_⟩
    rw [v5]
    refine ⟨_, rfl, ra, A.c_Rules, dr, _, rfl, hra, T.cl_Rules, T.n_Rules_slides, ruF_few _, ?_⟩
    rw [rp_slides]
    have Z : RdAt K A (upd H5 ra (.ins A.c_Rules dr (ruF { f with first := (j2) == 1, slides := (1 - j5) == 1 }))) a S n5 := Z.other hra nra
    have kk := kk.trans (Kp.upd (p := fun b => b = a ∨ b = ra) (o := .ins A.c_Rules dr (ruF { f with first := (j2) == 1, slides := (1 - j5) == 1 })) (.inr rfl))
    have hra : (upd H5 ra (.ins A.c_Rules dr (ruF { f with first := (j2) == 1, slides := (1 - j5) == 1 }))) ra = some (.ins A.c_Rules dr (ruF { f with first := (j2) == 1, slides := (1 - j5) == 1 })) := upd_same
    obtain ⟨dx, ho⟩ := Z.obj
    have t6 : V.str (Str.ofString " ") = txV [32] := by decide +kernel
    refine ⟨_, rfl, a, dx, _, rfl, ho, rdF_none Z.ex, a, S, _, _, congrArg (fun z => [V.ref a, z]) t6, Z, fun n6 H6 e6 k6 Z => ?_, fun p e6 => (qF p fun β k => by simp only [TfP.gK, e1, e2, e3, e4, e5, e6, TfP.bind_ok, TfP.bind_err]).up kk fun _ z => .inl z⟩
    have kk := kk.trans (k6.mono fun _ z => .inl z)
    have hra := k6.keep _ _ hra nra
    obtain ⟨dx, ho⟩ := Z.obj
    have t7 : [V.str (Str.ofString "armed"), V.str (Str.ofString "bare")] = [Tafl.ascii "armed", Tafl.ascii "bare"].map txV := by decide +kernel
    have u7 : WordsOk [Tafl.ascii "armed", Tafl.ascii "bare"] := ⟨by simp, by decide, by decide +kernel⟩
    refine ⟨_, rfl, a, dx, _, rfl, ho, rdF_none Z.ex, (by show _ ≤ sizeLine; exact smallE (by decide)), fun p7 o7 np7 oc7 od7 => ⟨a, S, _, p7, [Tafl.ascii "armed", Tafl.ascii "bare"], rfl, Z.same (same_new np7), .inl (.inr ⟨o7, by rw [← t7]; exact upd_same⟩), ⟨p7, rfl, .inr ⟨o7, _, upd_same, oc7, od7⟩⟩, u7, fun j7 n7 H7 e k7 Z => ?_, fun p e => (qF p fun β k => by have e7 : Tafl.word ["bare", "armed"] (cur S.bs n6) = .error p := (TfP.word2_flip (by decide +kernel)).trans (TfP.flip_err e); simp only [TfP.gK, e1, e2, e3, e4, e5, e6, e7, TfP.bind_ok, TfP.bind_err]).up (kk.trans (Kp.new np7)) fun _ z => .inl z⟩⟩
    have kk := kk.trans (Kp.new (p := fun b => b = a ∨ b = ra) (o := .frz o7 (.tup [V.str (Str.ofString "armed"), V.str (Str.ofString "bare")])) np7)
    have hra := (same_new (o := .frz o7 (.tup [V.str (Str.ofString "armed"), V.str (Str.ofString "bare")])) np7) _ _ hra
    have ho := (same_new (o := .frz o7 (.tup [V.str (Str.ofString "armed"), V.str (Str.ofString "bare")])) np7) _ _ ho
    have e7 : Tafl.word ["bare", "armed"] (cur S.bs n6) = .ok (1 - j7, cur S.bs n7) := (TfP.word2_flip (by decide +kernel)).trans (TfP.flip_ok e)
    have kk := kk.trans (k7.mono fun _ z => .inl z)
    have hra := k7.keep _ _ hra nra
    obtain ⟨dx, ho⟩ := Z.obj
    have v7 : decide (V.int ((j7 : Nat) : Int) = V.int 0) = ((1 - j7) == 1) := by rw [dec_int, Bool.eq_iff_iff, beq_iff_eq, beq_iff_eq]; omega
    refine ⟨rfl, ?_⟩
    rw [v7]
    refine ⟨_, rfl, ra, A.c_Rules, dr, _, rfl, hra, T.cl_Rules, T.n_Rules_armed, ruF_few _, ?_⟩
    rw [rp_armed]
    have Z : RdAt K A (upd H7 ra (.ins A.c_Rules dr (ruF { f with first := (j2) == 1, slides := (1 - j5) == 1, armed := (1 - j7) == 1 }))) a S n7 := Z.other hra nra
    have kk := kk.trans (Kp.upd (p := fun b => b = a ∨ b = ra) (o := .ins A.c_Rules dr (ruF { f with first := (j2) == 1, slides := (1 - j5) == 1, armed := (1 - j7) == 1 })) (.inr rfl))
    have hra : (upd H7 ra (.ins A.c_Rules dr (ruF { f with first := (j2) == 1, slides := (1 - j5) == 1, armed := (1 - j7) == 1 }))) ra = some (.ins A.c_Rules dr (ruF { f with first := (j2) == 1, slides := (1 - j5) == 1, armed := (1 - j7) == 1 })) := upd_same
    obtain ⟨dx, ho⟩ := Z.obj
    have t8 : V.str (Str.ofString " ") = txV [32] := by decide +kernel
    refine ⟨_, rfl, a, dx, _, rfl, ho, rdF_none Z.ex, a, S, _, _, congrArg (fun z => [V.ref a, z]) t8, Z, fun n8 H8 e8 k8 Z => ?_, fun p e8 => (qF p fun β k => by simp only [TfP.gK, e1, e2, e3, e4, e5, e6, e7, e8, TfP.bind_ok, TfP.bind_err]).up kk fun _ z => .inl z⟩
    have kk := kk.trans (k8.mono fun _ z => .inl z)
    have hra := k8.keep _ _ hra nra
    obtain ⟨dx, ho⟩ := Z.obj
    have t9 : [V.str (Str.ofString "two"), V.str (Str.ofString "four")] = [Tafl.ascii "two", Tafl.ascii "four"].map txV := by decide +kernel
    have u9 : WordsOk [Tafl.ascii "two", Tafl.ascii "four"] := ⟨by simp, by decide, by decide +kernel⟩
    refine ⟨_, rfl, a, dx, _, rfl, ho, rdF_none Z.ex, (by show _ ≤ sizeLine; exact smallE (by decide)), fun p9 o9 np9 oc9 od9 => ⟨a, S, _, p9, [Tafl.ascii "two", Tafl.ascii "four"], rfl, Z.same (same_new np9), .inl (.inr ⟨o9, by rw [← t9]; exact upd_same⟩), ⟨p9, rfl, .inr ⟨o9, _, upd_same, oc9, od9⟩⟩, u9, fun j9 n9 H9 e k9 Z => ?_, fun p e => (qF p fun β k => by have e9 : Tafl.word ["two", "four"] (cur S.bs n8) = .error p := e; simp only [TfP.gK, e1, e2, e3, e4, e5, e6, e7, e8, e9, TfP.bind_ok, TfP.bind_err]).up (kk.trans (Kp.new np9)) fun _ z => .inl z⟩⟩
    have kk := kk.trans (Kp.new (p := fun b => b = a ∨ b = ra) (o := .frz o9 (.tup [V.str (Str.ofString "two"), V.str (Str.ofString "four")])) np9)
    have hra := (same_new (o := .frz o9 (.tup [V.str (Str.ofString "two"), V.str (Str.ofString "four")])) np9) _ _ hra
    have ho := (same_new (o := .frz o9 (.tup [V.str (Str.ofString "two"), V.str (Str.ofString "four")])) np9) _ _ ho
    have e9 : Tafl.word ["two", "four"] (cur S.bs n8) = .ok (j9, cur S.bs n9) := e
    have kk := kk.trans (k9.mono fun _ z => .inl z)
    have hra := k9.keep _ _ hra nra
    obtain ⟨dx, ho⟩ := Z.obj
    have v9 : decide (V.int ((j9 : Nat) : Int) = V.int 1) = ((j9) == 1) := by rw [dec_int, Bool.eq_iff_iff, beq_iff_eq, beq_iff_eq]; omega
    refine ⟨rfl, ?_⟩
    rw [v9]
    refine ⟨_, rfl, ra, A.c_Rules, dr, _, rfl, hra, T.cl_Rules, T.n_Rules_four, ruF_few _, ?_⟩
    rw [rp_four]
    have Z : RdAt K A (upd H9 ra (.ins A.c_Rules dr (ruF { f with first := (j2) == 1, slides := (1 - j5) == 1, armed := (1 - j7) == 1, four := (j9) == 1 }))) a S n9 := Z.other hra nra
    have kk := kk.trans (Kp.upd (p := fun b => b = a ∨ b = ra) (o := .ins A.c_Rules dr (ruF { f with first := (j2) == 1, slides := (1 - j5) == 1, armed := (1 - j7) == 1, four := (j9) == 1 })) (.inr rfl))
    have hra : (upd H9 ra (.ins A.c_Rules dr (ruF { f with first := (j2) == 1, slides := (1 - j5) == 1, armed := (1 - j7) == 1, four := (j9) == 1 }))) ra = some (.ins A.c_Rules dr (ruF { f with first := (j2) == 1, slides := (1 - j5) == 1, armed := (1 - j7) == 1, four := (j9) == 1 })) := upd_same
    obtain ⟨dx, ho⟩ := Z.obj
    refine ⟨_, rfl, a, dx, _, rfl, ho, rdF_none Z.ex, a, S, _, rfl, Z, fun n10 H10 e10 k10 Z => ?_, fun p e10 => (qF p fun β k => by simp only [TfP.gK, e1, e2, e3, e4, e5, e6, e7, e8, e9, e10, TfP.bind_ok, TfP.bind_err]).up kk fun _ z => .inl z⟩
    have kk := kk.trans (k10.mono fun _ z => .inl z)
    have hra := k10.keep _ _ hra nra
    obtain ⟨dx, ho⟩ := Z.obj
    exact qT (j2, 1 - j5, 1 - j7, j9, cur S.bs n10) n10 _ (fun β k => by simp only [TfP.gK, e1, e2, e3, e4, e5, e6, e7, e8, e9, e10, TfP.bind_ok]) rfl kk Z hra
def sp_rest_read (K : PySem.W.Frag) (A : Adr) : Sp := fun vs H Q E => ∃ a S n ra dr f, vs = [.ref a, .ref ra] ∧ RdAt K A H a S n ∧ H ra = some (.ins A.c_Rules dr (ruF f)) ∧ ra ≠ a ∧
  (∀ (r : Nat × Nat × Nat × Nat × Nat × Nat × Nat) n' H', (∀ (β : Type) (k : Nat × Nat × Nat × Nat × Nat × Nat × Nat → Except Nat β), TfP.gR (cur S.bs n) k = k r) → Kp (fun b => b = a ∨ b = ra) H H' → RdAt K A H' a S n' →
    H' ra = some (.ins A.c_Rules dr (ruF { f with passed := r.1 == 1, se := r.2.1, xe := r.2.2.1, goalP := r.2.2.2.1, goalX := r.2.2.2.2.1 == 1 })) → Q .non H') ∧
  (∀ p, (∀ (β : Type) (k : Nat × Nat × Nat × Nat × Nat × Nat × Nat → Except Nat β), TfP.gR (cur S.bs n) k = .error p) → EF A (fun b => b = a ∨ b = ra) H E 1 p)
theorem ok_rest_read (T : Txt K mg A) : FnOk P w K mg base (L2N.CX P w) 6 A.f_rest_read A.d_rest_read ["reader", "rules"] (sp_rest_read K A) := by
  refine okG T.F_rest_read sc_rest_read (fun vs H Q E h => ?_) (fun cdv B outer s H vs Q E hr h => ?_)
  · obtain ⟨a, S, n, ra, dr, f, rfl, _⟩ := h
    rfl
  · obtain ⟨a, S, n, ra, dr, f, rfl, Z, hra, nra, qT, qF⟩ := h
    have R := Z.rd
    refine ⟨_, (pss_cons (ps_expr (pe_meth (pv 0) R.cl R.m_literal (ok_Bytes_literal T) (hr.mono (by decide)) T.b_Bytes_literal .nil (pxN (L2N.takes_of rfl rfl rfl rfl)) (pa_cons pe_str pa_nil)))
  (pss_cons (ps_fld (pv 1) (pe_cmpR op_eq (pe_meth (pv 0) R.cl R.m_choice (ok_Bytes_choice T) (hr.mono (by decide)) T.b_Bytes_choice .nil (pxN (L2N.takes_of rfl rfl rfl rfl)) (pa_cons (pe_tupF (pa_cons pe_str (pa_cons pe_str pa_nil))) pa_nil)) pe_int (nomark _)) rfl)
  (pss_cons (ps_expr (pe_meth (pv 0) R.cl R.m_literal (ok_Bytes_literal T) (hr.mono (by decide)) T.b_Bytes_literal .nil (pxN (L2N.takes_of rfl rfl rfl rfl)) (pa_cons pe_str pa_nil)))
  (pss_cons (ps_fld (pv 1) (pe_meth (pv 0) R.cl R.m_choice (ok_Bytes_choice T) (hr.mono (by decide)) T.b_Bytes_choice .nil (pxN (L2N.takes_of rfl rfl rfl rfl)) (pa_cons (pe_gr T.g_ENMITIES) pa_nil)) rfl)
  (pss_cons (ps_expr (pe_meth0 (pv 0) R.cl R.m_line_end (ok_Bytes_line_end T) (hr.mono (by decide)) T.b_Bytes_line_end .nil (pxN (L2N.takes_of rfl rfl rfl rfl))))
  (pss_cons (ps_expr (pe_meth (pv 0) R.cl R.m_literal (ok_Bytes_literal T) (hr.mono (by decide)) T.b_Bytes_literal .nil (pxN (L2N.takes_of rfl rfl rfl rfl)) (pa_cons pe_str pa_nil)))
  (pss_cons (ps_fld (pv 1) (pe_meth (pv 0) R.cl R.m_choice (ok_Bytes_choice T) (hr.mono (by decide)) T.b_Bytes_choice .nil (pxN (L2N.takes_of rfl rfl rfl rfl)) (pa_cons (pe_gr T.g_ENMITIES) pa_nil)) rfl)
  (pss_cons (ps_expr (pe_meth0 (pv 0) R.cl R.m_line_end (ok_Bytes_line_end T) (hr.mono (by decide)) T.b_Bytes_line_end .nil (pxN (L2N.takes_of rfl rfl rfl rfl))))
  (pss_cons (ps_expr (pe_meth (pv 0) R.cl R.m_literal (ok_Bytes_literal T) (hr.mono (by decide)) T.b_Bytes_literal .nil (pxN (L2N.takes_of rfl rfl rfl rfl)) (pa_cons pe_str pa_nil)))
  (pss_cons (ps_fld (pv 1) (pe_fld (pv 0) rfl) rfl)
  (pss_cons (ps_fld (pv 1) (pe_cmpR op_eq (pe_meth (pv 0) R.cl R.m_choice (ok_Bytes_choice T) (hr.mono (by decide)) T.b_Bytes_choice .nil (pxN (L2N.takes_of rfl rfl rfl rfl)) (pa_cons (pe_tupF (pa_cons pe_str (pa_cons pe_str pa_nil))) pa_nil)) pe_int (nomark _)) rfl)
  (pss_cons (ps_expr (pe_meth0 (pv 0) R.cl R.m_line_end (ok_Bytes_line_end T) (hr.mono (by decide)) T.b_Bytes_line_end .nil (pxN (L2N.takes_of rfl rfl rfl rfl))))
  (pss_cons (ps_expr (pe_meth (pv 0) R.cl R.m_literal (ok_Bytes_literal T) (hr.mono (by decide)) T.b_Bytes_literal .nil (pxN (L2N.takes_of rfl rfl rfl rfl)) (pa_cons pe_str pa_nil)))
  (pss_cons (ps_expr (pe_meth (pv 0) R.cl R.m_choice (ok_Bytes_choice T) (hr.mono (by decide)) T.b_Bytes_choice .nil (pxN (L2N.takes_of rfl rfl rfl rfl)) (pa_cons (pe_tupF (pa_cons pe_str (pa_cons pe_str (pa_cons pe_str pa_nil)))) pa_nil)))
  (pss_cons (ps_expr (pe_meth0 (pv 0) R.cl R.m_line_end (ok_Bytes_line_end T) (hr.mono (by decide)) T.b_Bytes_line_end .nil (pxN (L2N.takes_of rfl rfl rfl rfl))))
  (pss_cons (ps_expr (pe_meth (pv 0) R.cl R.m_literal (ok_Bytes_literal T) (hr.mono (by decide)) T.b_Bytes_literal .nil (pxN (L2N.takes_of rfl rfl rfl rfl)) (pa_cons pe_str pa_nil)))
  (pss_cons (ps_expr (pe_meth0 (pv 0) R.cl R.m_limit (ok_Bytes_limit T) (hr.mono (by decide)) T.b_Bytes_limit .nil (pxN (L2N.takes_of rfl rfl rfl rfl))))
  (pss_cons (ps_expr (pe_meth0 (pv 0) R.cl R.m_line_end (ok_Bytes_line_end T) (hr.mono (by decide)) T.b_Bytes_line_end .nil (pxN (L2N.takes_of rfl rfl rfl rfl))))
  (pss_one (ps_expr (pe_meth0 (pv 0) R.cl R.m_finish (ok_Bytes_finish T) (hr.mono (by decide)) T.b_Bytes_finish .nil (pxN (L2N.takes_of rfl rfl rfl rfl))))))))))))))))))))))), ?_⟩
    have kk : Kp (fun b => b = a ∨ b = ra) H H := Kp.refl
    obtain ⟨dx, ho⟩ := Z.obj
    have t1 : V.str (Str.ofString "seat ") = txV (Tafl.ascii "seat ") := by decide +kernel
    refine ⟨_, rfl, a, dx, _, rfl, ho, rdF_none Z.ex, a, S, _, _, congrArg (fun z => [V.ref a, z]) t1, Z, fun n1 H1 e1 k1 Z => ?_, fun p e1 => (qF p fun β k => by simp only [TfP.gR, e1, TfP.bind_ok, TfP.bind_err]).up kk fun _ z => .inl z⟩
    have kk := kk.trans (k1.mono fun _ z => .inl z)
    have hra := k1.keep _ _ hra nra
    obtain ⟨dx, ho⟩ := Z.obj
    have t2 : [V.str (Str.ofString "passed"), V.str (Str.ofString "barred")] = [Tafl.ascii "passed", Tafl.ascii "barred"].map txV := by decide +kernel
    have u2 : WordsOk [Tafl.ascii "passed", Tafl.ascii "barred"] := ⟨by simp, by decide, by decide +kernel⟩
    refine ⟨_, rfl, a, dx, _, rfl, ho, rdF_none Z.ex, (by show _ ≤ sizeLine; exact smallE (by decide)), fun p2 o2 np2 oc2 od2 => ⟨a, S, _, p2, [Tafl.ascii "passed", Tafl.ascii "barred"], rfl, Z.same (same_new np2), .inl (.inr ⟨o2, by rw [← t2]; exact upd_same⟩), ⟨p2, rfl, .inr ⟨o2, _, upd_same, oc2, od2⟩⟩, u2, fun j2 n2 H2 e k2 Z => ?_, fun p e => (qF p fun β k => by have e2 : Tafl.word ["barred", "passed"] (cur S.bs n1) = .error p := (TfP.word2_flip (by decide +kernel)).trans (TfP.flip_err e); simp only [TfP.gR, e1, e2, TfP.bind_ok, TfP.bind_err]).up (kk.trans (Kp.new np2)) fun _ z => .inl z⟩⟩
    have kk := kk.trans (Kp.new (p := fun b => b = a ∨ b = ra) (o := .frz o2 (.tup [V.str (Str.ofString "passed"), V.str (Str.ofString "barred")])) np2)
    have hra := (same_new (o := .frz o2 (.tup [V.str (Str.ofString "passed"), V.str (Str.ofString "barred")])) np2) _ _ hra
    have ho := (same_new (o := .frz o2 (.tup [V.str (Str.ofString "passed"), V.str (Str.ofString "barred")])) np2) _ _ ho
    have e2 : Tafl.word ["barred", "passed"] (cur S.bs n1) = .ok (1 - j2, cur S.bs n2) := (TfP.word2_flip (by decide +kernel)).trans (TfP.flip_ok e)
    have kk := kk.trans (k2.mono fun _ z => .inl z)
    have hra := k2.keep _ _ hra nra
    obtain ⟨dx, ho⟩ := Z.obj
    have v2 : decide (V.int ((j2 : Nat) : Int) = V.int 0) = ((1 - j2) == 1) := by rw [dec_int, Bool.eq_iff_iff, beq_iff_eq, beq_iff_eq]; omega
    refine ⟨rfl, ?_⟩
    rw [v2]
    refine ⟨_, rfl, ra, A.c_Rules, dr, _, rfl, hra, T.cl_Rules, T.n_Rules_passed, ruF_few _, ?_⟩
    rw [rp_passed]
    have Z : RdAt K A (upd H2 ra (.ins A.c_Rules dr (ruF { f with passed := (1 - j2) == 1 }))) a S n2 := Z.other hra nra
    have kk := kk.trans (Kp.upd (p := fun b => b = a ∨ b = ra) (o := .ins A.c_Rules dr (ruF { f with passed := (1 - j2) == 1 })) (.inr rfl))
    have hra : (upd H2 ra (.ins A.c_Rules dr (ruF { f with passed := (1 - j2) == 1 }))) ra = some (.ins A.c_Rules dr (ruF { f with passed := (1 - j2) == 1 })) := upd_same
    obtain ⟨dx, ho⟩ := Z.obj
    have t3 : V.str (Str.ofString " ") = txV [32] := by decide +kernel
    refine ⟨_, rfl, a, dx, _, rfl, ho, rdF_none Z.ex, a, S, _, _, congrArg (fun z => [V.ref a, z]) t3, Z, fun n3 H3 e3 k3 Z => ?_, fun p e3 => (qF p fun β k => by simp only [TfP.gR, e1, e2, e3, TfP.bind_ok, TfP.bind_err]).up kk fun _ z => .inl z⟩
    have kk := kk.trans (k3.mono fun _ z => .inl z)
    have hra := k3.keep _ _ hra nra
    obtain ⟨dx, ho⟩ := Z.obj
    have t4 : [V.str (Str.ofString "quiet"), V.str (Str.ofString "hunters"), V.str (Str.ofString "men"), V.str (Str.ofString "all")] = [Tafl.ascii "quiet", Tafl.ascii "hunters", Tafl.ascii "men", Tafl.ascii "all"].map txV := by decide +kernel
    have u4 : WordsOk [Tafl.ascii "quiet", Tafl.ascii "hunters", Tafl.ascii "men", Tafl.ascii "all"] := ⟨by simp, by decide, by decide +kernel⟩
    refine ⟨_, rfl, a, dx, _, rfl, ho, rdF_none Z.ex, a, S, _, _, [Tafl.ascii "quiet", Tafl.ascii "hunters", Tafl.ascii "men", Tafl.ascii "all"], rfl, Z, (by rw [← t4]; exact T.t_ENMITIES.sq _), T.t_ENMITIES.ty _, u4, fun j4 n4 H4 e k4 Z => ?_, fun p e => (qF p fun β k => by have e4 : Tafl.word Tafl.ENMITY (cur S.bs n3) = .error p := e; simp only [TfP.gR, e1, e2, e3, e4, TfP.bind_ok, TfP.bind_err]).up kk fun _ z => .inl z⟩
    have e4 : Tafl.word Tafl.ENMITY (cur S.bs n3) = .ok (j4, cur S.bs n4) := e
    have kk := kk.trans (k4.mono fun _ z => .inl z)
    have hra := k4.keep _ _ hra nra
    obtain ⟨dx, ho⟩ := Z.obj
    refine ⟨_, rfl, ra, A.c_Rules, dr, _, rfl, hra, T.cl_Rules, T.n_Rules_seat_enmity, ruF_few _, ?_⟩
    rw [rp_seat_enmity]
    have Z : RdAt K A (upd H4 ra (.ins A.c_Rules dr (ruF { f with passed := (1 - j2) == 1, se := j4 }))) a S n4 := Z.other hra nra
    have kk := kk.trans (Kp.upd (p := fun b => b = a ∨ b = ra) (o := .ins A.c_Rules dr (ruF { f with passed := (1 - j2) == 1, se := j4 })) (.inr rfl))
    have hra : (upd H4 ra (.ins A.c_Rules dr (ruF { f with passed := (1 - j2) == 1, se := j4 }))) ra = some (.ins A.c_Rules dr (ruF { f with passed := (1 - j2) == 1, se := j4 })) := upd_same
    obtain ⟨dx, ho⟩ := Z.obj
    refine ⟨_, rfl, a, dx, _, rfl, ho, rdF_none Z.ex, a, S, _, rfl, Z, fun n5 H5 e5 k5 Z => ?_, fun p e5 => (qF p fun β k => by simp only [TfP.gR, e1, e2, e3, e4, e5, TfP.bind_ok, TfP.bind_err]).up kk fun _ z => .inl z⟩
    have kk := kk.trans (k5.mono fun _ z => .inl z)
    have hra := k5.keep _ _ hra nra
    obtain ⟨dx, ho⟩ := Z.obj
    have t6 : V.str (Str.ofString "exits ") = txV (Tafl.ascii "exits ") := by decide +kernel
    refine ⟨_, rfl, a, dx, _, rfl, ho, rdF_none Z.ex, a, S, _, _, congrArg (fun z => [V.ref a, z]) t6, Z, fun n6 H6 e6 k6 Z => ?_, fun p e6 => (qF p fun β k => by simp only [TfP.gR, e1, e2, e3, e4, e5, e6, TfP.bind_ok, TfP.bind_err]).up kk fun _ z => .inl z⟩
    have kk := kk.trans (k6.mono fun _ z => .inl z)
    have hra := k6.keep _ _ hra nra
    obtain ⟨dx, ho⟩ := Z.obj
    have t7 : [V.str (Str.ofString "quiet"), V.str (Str.ofString "hunters"), V.str (Str.ofString "men"), V.str (Str.ofString "all")] = [Tafl.ascii "quiet", Tafl.ascii "hunters", Tafl.ascii "men", Tafl.ascii "all"].map txV := by decide +kernel
    have u7 : WordsOk [Tafl.ascii "quiet", Tafl.ascii "hunters", Tafl.ascii "men", Tafl.ascii "all"] := ⟨by simp, by decide, by decide +kernel⟩
    refine ⟨_, rfl, a, dx, _, rfl, ho, rdF_none Z.ex, a, S, _, _, [Tafl.ascii "quiet", Tafl.ascii "hunters", Tafl.ascii "men", Tafl.ascii "all"], rfl, Z, (by rw [← t7]; exact T.t_ENMITIES.sq _), T.t_ENMITIES.ty _, u7, fun j7 n7 H7 e k7 Z => ?_, fun p e => (qF p fun β k => by have e7 : Tafl.word Tafl.ENMITY (cur S.bs n6) = .error p := e; simp only [TfP.gR, e1, e2, e3, e4, e5, e6, e7, TfP.bind_ok, TfP.bind_err]).up kk fun _ z => .inl z⟩
    have e7 : Tafl.word Tafl.ENMITY (cur S.bs n6) = .ok (j7, cur S.bs n7) := e
    have kk := kk.trans (k7.mono fun _ z => .inl z)
    have hra := k7.keep _ _ hra nra
    obtain ⟨dx, ho⟩ := Z.obj
    refine ⟨_, rfl, ra, A.c_Rules, dr, _, rfl, hra, T.cl_Rules, T.n_Rules_exit_enmity, ruF_few _, ?_⟩
    rw [rp_exit_enmity]
    have Z : RdAt K A (upd H7 ra (.ins A.c_Rules dr (ruF { f with passed := (1 - j2) == 1, se := j4, xe := j7 }))) a S n7 := Z.other hra nra
    have kk := kk.trans (Kp.upd (p := fun b => b = a ∨ b = ra) (o := .ins A.c_Rules dr (ruF { f with passed := (1 - j2) == 1, se := j4, xe := j7 })) (.inr rfl))
    have hra : (upd H7 ra (.ins A.c_Rules dr (ruF { f with passed := (1 - j2) == 1, se := j4, xe := j7 }))) ra = some (.ins A.c_Rules dr (ruF { f with passed := (1 - j2) == 1, se := j4, xe := j7 })) := upd_same
    obtain ⟨dx, ho⟩ := Z.obj
    refine ⟨_, rfl, a, dx, _, rfl, ho, rdF_none Z.ex, a, S, _, rfl, Z, fun n8 H8 e8 k8 Z => ?_, fun p e8 => (qF p fun β k => by simp only [TfP.gR, e1, e2, e3, e4, e5, e6, e7, e8, TfP.bind_ok, TfP.bind_err]).up kk fun _ z => .inl z⟩
    have kk := kk.trans (k8.mono fun _ z => .inl z)
    have hra := k8.keep _ _ hra nra
    obtain ⟨dx, ho⟩ := Z.obj
    have t9 : V.str (Str.ofString "goal ") = txV (Tafl.ascii "goal ") := by decide +kernel
    refine ⟨_, rfl, a, dx, _, rfl, ho, rdF_none Z.ex, a, S, _, _, congrArg (fun z => [V.ref a, z]) t9, Z, fun n9 H9 e9 k9 Z => ?_, fun p e9 => (qF p fun β k => by simp only [TfP.gR, e1, e2, e3, e4, e5, e6, e7, e8, e9, TfP.bind_ok, TfP.bind_err]).up kk fun _ z => .inl z⟩
    have kk := kk.trans (k9.mono fun _ z => .inl z)
    have hra := k9.keep _ _ hra nra
    obtain ⟨dx, ho⟩ := Z.obj
    refine ⟨_, rfl, a, S.C, dx, _, _, rfl, ho, R.cl, R.n_at, rdF_at _ _ _, ?_⟩
    refine ⟨_, rfl, ra, A.c_Rules, dr, _, rfl, hra, T.cl_Rules, T.n_Rules_goal_place, ruF_few _, ?_⟩
    rw [rp_goal_place]
    have Z : RdAt K A (upd H9 ra (.ins A.c_Rules dr (ruF { f with passed := (1 - j2) == 1, se := j4, xe := j7, goalP := n9 }))) a S n9 := Z.other hra nra
    have kk := kk.trans (Kp.upd (p := fun b => b = a ∨ b = ra) (o := .ins A.c_Rules dr (ruF { f with passed := (1 - j2) == 1, se := j4, xe := j7, goalP := n9 })) (.inr rfl))
    have hra : (upd H9 ra (.ins A.c_Rules dr (ruF { f with passed := (1 - j2) == 1, se := j4, xe := j7, goalP := n9 }))) ra = some (.ins A.c_Rules dr (ruF { f with passed := (1 - j2) == 1, se := j4, xe := j7, goalP := n9 })) := upd_same
    obtain ⟨dx, ho⟩ := Z.obj
    have t10 : [V.str (Str.ofString "edge"), V.str (Str.ofString "exits")] = [Tafl.ascii "edge", Tafl.ascii "exits"].map txV := by decide +kernel
    have u10 : WordsOk [Tafl.ascii "edge", Tafl.ascii "exits"] := ⟨by simp, by decide, by decide +kernel⟩
    refine ⟨_, rfl, a, dx, _, rfl, ho, rdF_none Z.ex, (by show _ ≤ sizeLine; exact smallE (by decide)), fun p10 o10 np10 oc10 od10 => ⟨a, S, _, p10, [Tafl.ascii "edge", Tafl.ascii "exits"], rfl, Z.same (same_new np10), .inl (.inr ⟨o10, by rw [← t10]; exact upd_same⟩), ⟨p10, rfl, .inr ⟨o10, _, upd_same, oc10, od10⟩⟩, u10, fun j10 n10 H10 e k10 Z => ?_, fun p e => (qF p fun β k => by have e10 : Tafl.word ["edge", "exits"] (cur S.bs n9) = .error p := e; simp only [TfP.gR, e1, e2, e3, e4, e5, e6, e7, e8, e9, e10, TfP.bind_ok, TfP.bind_err]).up (kk.trans (Kp.new np10)) fun _ z => .inl z⟩⟩
    have kk := kk.trans (Kp.new (p := fun b => b = a ∨ b = ra) (o := .frz o10 (.tup [V.str (Str.ofString "edge"), V.str (Str.ofString "exits")])) np10)
    have hra := (same_new (o := .frz o10 (.tup [V.str (Str.ofString "edge"), V.str (Str.ofString "exits")])) np10) _ _ hra
    have ho := (same_new (o := .frz o10 (.tup [V.str (Str.ofString "edge"), V.str (Str.ofString "exits")])) np10) _ _ ho
    have e10 : Tafl.word ["edge", "exits"] (cur S.bs n9) = .ok (j10, cur S.bs n10) := e
    have kk := kk.trans (k10.mono fun _ z => .inl z)
    have hra := k10.keep _ _ hra nra
    obtain ⟨dx, ho⟩ := Z.obj
    have v10 : decide (V.int ((j10 : Nat) : Int) = V.int 1) = ((j10) == 1) := by rw [dec_int, Bool.eq_iff_iff, beq_iff_eq, beq_iff_eq]; omega
    refine ⟨rfl, ?_⟩
    rw [v10]
    refine ⟨_, rfl, ra, A.c_Rules, dr, _, rfl, hra, T.cl_Rules, T.n_Rules_is_goal_exits, ruF_few _, ?_⟩
    rw [rp_is_goal_exits]
    have Z : RdAt K A (upd H10 ra (.ins A.c_Rules dr (ruF { f with passed := (1 - j2) == 1, se := j4, xe := j7, goalP := n9, goalX := (j10) == 1 }))) a S n10 := Z.other hra nra
    have kk := kk.trans (Kp.upd (p := fun b => b = a ∨ b = ra) (o := .ins A.c_Rules dr (ruF { f with passed := (1 - j2) == 1, se := j4, xe := j7, goalP := n9, goalX := (j10) == 1 })) (.inr rfl))
    have hra : (upd H10 ra (.ins A.c_Rules dr (ruF { f with passed := (1 - j2) == 1, se := j4, xe := j7, goalP := n9, goalX := (j10) == 1 }))) ra = some (.ins A.c_Rules dr (ruF { f with passed := (1 - j2) == 1, se := j4, xe := j7, goalP := n9, goalX := (j10) == 1 })) := upd_same
    obtain ⟨dx, ho⟩ := Z.obj
    refine ⟨_, rfl, a, dx, _, rfl, ho, rdF_none Z.ex, a, S, _, rfl, Z, fun n11 H11 e11 k11 Z => ?_, fun p e11 => (qF p fun β k => by simp only [TfP.gR, e1, e2, e3, e4, e5, e6, e7, e8, e9, e10, e11, TfP.bind_ok, TfP.bind_err]).up kk fun _ z => .inl z⟩
    have kk := kk.trans (k11.mono fun _ z => .inl z)
    have hra := k11.keep _ _ hra nra
    obtain ⟨dx, ho⟩ := Z.obj
    have t12 : V.str (Str.ofString "thrice ") = txV (Tafl.ascii "thrice ") := by decide +kernel
    refine ⟨_, rfl, a, dx, _, rfl, ho, rdF_none Z.ex, a, S, _, _, congrArg (fun z => [V.ref a, z]) t12, Z, fun n12 H12 e12 k12 Z => ?_, fun p e12 => (qF p fun β k => by simp only [TfP.gR, e1, e2, e3, e4, e5, e6, e7, e8, e9, e10, e11, e12, TfP.bind_ok, TfP.bind_err]).up kk fun _ z => .inl z⟩
    have kk := kk.trans (k12.mono fun _ z => .inl z)
    have hra := k12.keep _ _ hra nra
    obtain ⟨dx, ho⟩ := Z.obj
    have t13 : [V.str (Str.ofString "drawn"), V.str (Str.ofString "hunters"), V.str (Str.ofString "king")] = [Tafl.ascii "drawn", Tafl.ascii "hunters", Tafl.ascii "king"].map txV := by decide +kernel
    have u13 : WordsOk [Tafl.ascii "drawn", Tafl.ascii "hunters", Tafl.ascii "king"] := ⟨by simp, by decide, by decide +kernel⟩
    refine ⟨_, rfl, a, dx, _, rfl, ho, rdF_none Z.ex, (by show _ ≤ sizeLine; exact smallE (by decide)), fun p13 o13 np13 oc13 od13 => ⟨a, S, _, p13, [Tafl.ascii "drawn", Tafl.ascii "hunters", Tafl.ascii "king"], rfl, Z.same (same_new np13), .inl (.inr ⟨o13, by rw [← t13]; exact upd_same⟩), ⟨p13, rfl, .inr ⟨o13, _, upd_same, oc13, od13⟩⟩, u13, fun j13 n13 H13 e k13 Z => ?_, fun p e => (qF p fun β k => by have e13 : Tafl.word ["drawn", "hunters", "king"] (cur S.bs n12) = .error p := e; simp only [TfP.gR, e1, e2, e3, e4, e5, e6, e7, e8, e9, e10, e11, e12, e13, TfP.bind_ok, TfP.bind_err]).up (kk.trans (Kp.new np13)) fun _ z => .inl z⟩⟩
    have kk := kk.trans (Kp.new (p := fun b => b = a ∨ b = ra) (o := .frz o13 (.tup [V.str (Str.ofString "drawn"), V.str (Str.ofString "hunters"), V.str (Str.ofString "king")])) np13)
    have hra := (same_new (o := .frz o13 (.tup [V.str (Str.ofString "drawn"), V.str (Str.ofString "hunters"), V.str (Str.ofString "king")])) np13) _ _ hra
    have ho := (same_new (o := .frz o13 (.tup [V.str (Str.ofString "drawn"), V.str (Str.ofString "hunters"), V.str (Str.ofString "king")])) np13) _ _ ho
    have e13 : Tafl.word ["drawn", "hunters", "king"] (cur S.bs n12) = .ok (j13, cur S.bs n13) := e
    have kk := kk.trans (k13.mono fun _ z => .inl z)
    have hra := k13.keep _ _ hra nra
    obtain ⟨dx, ho⟩ := Z.obj
    refine ⟨_, rfl, a, dx, _, rfl, ho, rdF_none Z.ex, a, S, _, rfl, Z, fun n14 H14 e14 k14 Z => ?_, fun p e14 => (qF p fun β k => by simp only [TfP.gR, e1, e2, e3, e4, e5, e6, e7, e8, e9, e10, e11, e12, e13, e14, TfP.bind_ok, TfP.bind_err]).up kk fun _ z => .inl z⟩
    have kk := kk.trans (k14.mono fun _ z => .inl z)
    have hra := k14.keep _ _ hra nra
    obtain ⟨dx, ho⟩ := Z.obj
    have t15 : V.str (Str.ofString "limit ") = txV (Tafl.ascii "limit ") := by decide +kernel
    refine ⟨_, rfl, a, dx, _, rfl, ho, rdF_none Z.ex, a, S, _, _, congrArg (fun z => [V.ref a, z]) t15, Z, fun n15 H15 e15 k15 Z => ?_, fun p e15 => (qF p fun β k => by simp only [TfP.gR, e1, e2, e3, e4, e5, e6, e7, e8, e9, e10, e11, e12, e13, e14, e15, TfP.bind_ok, TfP.bind_err]).up kk fun _ z => .inl z⟩
    have kk := kk.trans (k15.mono fun _ z => .inl z)
    have hra := k15.keep _ _ hra nra
    obtain ⟨dx, ho⟩ := Z.obj
    refine ⟨_, rfl, a, dx, _, rfl, ho, rdF_none Z.ex, a, S, _, rfl, Z, fun lim n16 H16 e16 k16 Z => ?_, fun p e16 => (qF p fun β k => by simp only [TfP.gR, e1, e2, e3, e4, e5, e6, e7, e8, e9, e10, e11, e12, e13, e14, e15, e16, TfP.bind_ok, TfP.bind_err]).up kk fun _ z => .inl z⟩
    have kk := kk.trans (k16.mono fun _ z => .inl z)
    have hra := k16.keep _ _ hra nra
    obtain ⟨dx, ho⟩ := Z.obj
    refine ⟨_, rfl, a, dx, _, rfl, ho, rdF_none Z.ex, a, S, _, rfl, Z, fun n17 H17 e17 k17 Z => ?_, fun p e17 => (qF p fun β k => by simp only [TfP.gR, e1, e2, e3, e4, e5, e6, e7, e8, e9, e10, e11, e12, e13, e14, e15, e16, e17, TfP.bind_ok, TfP.bind_err]).up kk fun _ z => .inl z⟩
    have kk := kk.trans (k17.mono fun _ z => .inl z)
    have hra := k17.keep _ _ hra nra
    obtain ⟨dx, ho⟩ := Z.obj
    have hat : (cur S.bs n9).at_ = n9 := rfl
    refine ⟨_, rfl, a, dx, _, rfl, ho, rdF_none Z.ex, a, S, _, rfl, Z, fun e => ?_, fun e => (qF n17 fun β k => ?_).up kk fun _ z => .inl z⟩
    · refine qT (1 - j2, j4, j7, n9, j10, j13, lim) n17 _ (fun β k => ?_) kk Z hra
      have er : (cur S.bs n17).rest = [] := List.drop_eq_nil_of_le (by omega)
      simp only [TfP.gR, e1, e2, e3, e4, e5, e6, e7, e8, e9, e10, e11, e12, e13, e14, e15, e16, e17, TfP.bind_ok, er, if_true, hat]
    · have er : (cur S.bs n17).rest ≠ [] := fun z => e (Nat.le_antisymm Z.le (List.drop_eq_nil_iff.mp z))
      simp only [TfP.gR, e1, e2, e3, e4, e5, e6, e7, e8, e9, e10, e11, e12, e13, e14, e15, e16, e17, TfP.bind_ok, if_neg er]
      rfl
end
end Tf

set_option maxRecDepth 100000
set_option maxHeartbeats 1000000
/-! # What may be wrong with the rules -/
namespace Tf
open PySem PySem.Spec PyProof.Rows L2 TfP
/-- a list comprehension over a list of things whose i-th is told by rs: of each f tells what is appended (nothing, or one) -/
theorem lcR {α : Type} {J : It} {xs : List V} {G : Hp → Prop} {g : TG} {tt : TT} {te : TE} {vs : List Nat} {σ : L2.St} {H1 : Hp} {D : Addr} {Qd : Hp → Prop} (w : WalkV J xs G) (nD : H1 D = none) (hG : ∀ H, Same H1 H → G H) (rs : List α) (hl : xs.length = rs.length) (f : α → List V)
    (hs : ∀ (i : Nat) x r ys H (Nx : Hp → Prop), xs[i]? = some x → rs[i]? = some r → Same H1 H → H D = some (.lst ys) → ys.length < sizeLine → (∀ y H', f r = [y] → Same H1 H' → H' D = some (.lst (ys ++ [y])) → Nx H') → (∀ H', f r = [] → Same H1 H' → H' D = some (.lst ys) → Nx H') →
      g x (wipe σ vs) H fun σ2 H2 => wipe σ2 vs = wipe σ vs ∧ tt σ2 H2 fun b H3 => if b = true then te σ2 H3 fun y H4 => ∃ acc, H4 D = some (.lst acc) ∧ acc.length < sizeLine ∧ Nx (upd H4 D (.lst (acc ++ [y]))) else Nx H3)
    (len : (rs.flatMap f).length < sizeLine) (hd : ∀ H, Same H1 H → H D = some (.lst (rs.flatMap f)) → Qd H) :
    ∃ W : Nat → Nat → Hp → Prop, (∃ m, W 0 m (upd H1 D (.lst []))) ∧ ∀ i m H, W i m H →
      (J.stop i H ∧ Qd H) ∨ (J.go i H ∧ ∃ Nx : Hp → Prop, (∀ H', Nx H' → ∃ m', m' < m ∧ W (i + 1) m' H') ∧ ∀ x H', J.yld i H x H' → g x (wipe σ vs) H' fun σ2 H2 => wipe σ2 vs = wipe σ vs ∧ tt σ2 H2 fun b H3 =>
        if b = true then te σ2 H3 fun y H4 => ∃ acc, H4 D = some (.lst acc) ∧ acc.length < sizeLine ∧ Nx (upd H4 D (.lst (acc ++ [y]))) else Nx H3) := by
  refine ⟨fun i m H => i + m = xs.length ∧ Same H1 H ∧ H D = some (.lst ((rs.take i).flatMap f)), ⟨xs.length, by omega, same_new nD, upd_same⟩, fun i m H ⟨hm, hS, hD⟩ => ?_⟩
  by_cases hi : i < xs.length
  · refine .inr ⟨w.goes i H hi (hG H hS), fun H' => Same H1 H' ∧ H' D = some (.lst ((rs.take (i + 1)).flatMap f)), fun H' ⟨h1, h2⟩ => ⟨m - 1, by omega, by omega, h1, h2⟩, fun x H' hy => ?_⟩
    obtain ⟨rfl, hx⟩ := w.yields i H x H' hi (hG H hS) hy
    have hr : rs[i]? = some rs[i] := List.getElem?_eq_getElem (by omega)
    have tk : (rs.take (i + 1)).flatMap f = (rs.take i).flatMap f ++ f (rs[i]) := by rw [take_more hr, List.flatMap_append]; simp
    have le : ((rs.take i).flatMap f).length ≤ (rs.flatMap f).length := by
      have e : rs.flatMap f = (rs.take i).flatMap f ++ (rs.drop i).flatMap f := by rw [← List.flatMap_append, List.take_append_drop]
      rw [e, List.length_append]
      omega
    refine hs i x _ _ H' _ hx hr hS hD (Nat.lt_of_le_of_lt le len) (fun y H2 hf s2 d2 => ⟨s2, ?_⟩) (fun H2 hf s2 d2 => ⟨s2, ?_⟩)
    · rw [tk, hf]; exact d2
    · rw [tk, hf, List.append_nil]; exact d2
  · have e : i = xs.length := by omega
    subst e
    rw [hl, List.take_length] at hD
    exact .inl ⟨w.stops H (hG H hS), hd H hS hD⟩
theorem flat_if {α : Type} (l : List α) (p : α → Bool) (f : α → V) : (l.flatMap fun x => if p x = true then [f x] else []) = (l.filter p).map f := by
  induction l with
  | nil => rfl
  | cons a r ih =>
    rw [List.flatMap_cons, ih, List.filter_cons]
    by_cases h : p a = true
    · rw [if_pos h, if_pos h]; rfl
    · rw [if_neg h, if_neg h]; rfl
theorem signV (b c : UInt8) : decide (V.str ⟨#[b.toNat]⟩ = V.str ⟨#[c.toNat]⟩) = (b == c) := by
  rw [Bool.eq_iff_iff, decide_eq_true_iff, beq_iff_eq]
  constructor
  · intro z
    injection z with z
    injection z with z
    have z3 : [b.toNat] = [c.toNat] := congrArg (fun q : Array Nat => q.toList) z
    injection z3 with z4
    exact u8_inj z4
  · rintro rfl; rfl
theorem cut12 (xs : List V) : cutV xs (some 1) (some 2) = (xs.drop 1).take 1 := by
  have h1 : HT.sIx xs.length 0 (some 1) = min 1 xs.length := HT.sIx_nat _ _ 1
  have h2 : HT.sIx xs.length xs.length (some 2) = min 2 xs.length := HT.sIx_nat _ _ 2
  unfold cutV
  rw [h1, h2]
  rcases xs with _ | ⟨a, _ | ⟨b, r⟩⟩ <;> rfl
def natV (n : Nat) : V := .int (n : Nat)
section
variable {P : Program} {w : World} {K : PySem.W.Frag} {mg : Str → Option Value} {base : Heap} {A : Adr}
def sp_second_of (K : PySem.W.Frag) (A : Adr) : Sp := fun vs H Q _ => ∃ l xs gs, ∃ b : UInt8, vs = [.ref l, .str ⟨#[b.toNat]⟩] ∧ H l = some (.lst xs) ∧ TupsAt K rowV H xs gs ∧ gs.length ≤ 169 ∧
  ∀ H' q, Same H H' → H q = none → H' q = some (.lst (((((gs.filter fun g => g.1 == b).map fun g => g.2.2).drop 1).take 1).map natV)) → Q (.ref q) H'
theorem ok_second_of (T : Txt K mg A) : FnOk P w K mg base CX0 1 A.f_second_of A.d_second_of ["signs", "sign"] (sp_second_of K A) := by
  refine T.F_second_of.ok sc_second_of (fun vs H Q E h => ?_) (fun cdv B outer s H vs Q E hr h => ?_)
  · obtain ⟨l, xs, gs, b, rfl, _⟩ := h
    rfl
  · obtain ⟨l, xs, gs, b, rfl, hl, ht, few, q⟩ := h
    refine ⟨_, (pss_one (ps_ret (pe_slice sl_list (pe_lc (own := [("own", 2), ("cell", 3), ("place", 4)]) rfl sc_second_of.nd (pi_list (pv 0)) (blkOk_by (N := ["signs", "sign", "own", "cell", "place"]) (sc := defScope s_second_of) (own := [("own", 2), ("cell", 3), ("place", 4)]) (by decide +kernel)) (fun _ _ _ _ _ => (pg_tupK K (n := 3) rfl (pgs_cons (pg_name (i := 2) sc_second_of.nd rfl (by first | exact .inl rfl | exact .inr rfl)) (pgs_cons (pg_name (i := 3) sc_second_of.nd rfl (by first | exact .inl rfl | exact .inr rfl)) (pgs_cons (pg_name (i := 4) sc_second_of.nd rfl (by first | exact .inl rfl | exact .inr rfl)) pgs_nil))))) (fun _ _ _ _ _ => (pts_one (pt_cmpR op_eq (pv 2) (pv 1) (nomark _)))) (fun _ _ _ _ _ => (pv 4))) (po_some pe_int) (po_some pe_int)))), ?_⟩
    refine ⟨_, rfl, l, rfl, ⟨_, SqL.of hl⟩, fun D nD => lcR (wv_list (xs := xs)) nD (fun H2 s2 => s2.seq (SqL.of hl)) gs ht.1 (fun g => if (g.1 == b) = true then [natV g.2.2] else []) (fun i x g ys H2 Nx hx hg s2 d2 lt hN hN0 => ?_) ?_ fun H2 s2 d2 => ?_⟩
    · obtain ⟨p, rfl, hp⟩ := ht.2 i x g hx hg
      refine ⟨p, _, rfl, Same.sqT s2 hp, rfl, _, _, rfl, _, _, rfl, _, _, rfl, rfl, rfl, _, rfl, _, rfl, rfl, _, rfl, ?_⟩
      by_cases hb : (g.1 == b) = true
      · exact if_t ((signV _ _).trans hb) ⟨_, rfl, ys, d2, lt, hN _ _ (if_pos hb) (same_put s2 nD) upd_same⟩
      · exact if_f ((signV _ _).trans (Bool.eq_false_iff.mpr hb)) (hN0 _ (if_neg hb) s2 d2)
    · rw [flat_if]
      exact small (by rw [List.length_map]; exact Nat.le_trans (List.length_filter_le _ _) (by omega))
    · rw [flat_if] at d2
      refine ⟨_, rfl, _, rfl, D, _, rfl, SqL.of d2, fun p np => ?_⟩
      refine q _ p (s2.trans (same_new np)) (s2.free np) ?_
      rw [upd_same, cut12, List.map_take, List.map_drop, List.map_map]
      rfl
def sp_second_seats (K : PySem.W.Frag) (A : Adr) : Sp := fun vs H Q _ => ∃ a f dx xs gs, vs = [.ref a] ∧ H a = some (.ins A.c_Rules dx (ruF f)) ∧ H f.gr = some (.lst xs) ∧ TupsAt K rowV H xs gs ∧ gs.length ≤ 169 ∧
  ∀ H' q, Same H H' → H q = none → H' q = some (.lst (((((gs.filter fun g => g.1 == 83).map fun g => g.2.2).drop 1).take 1).map natV)) → Q (.ref q) H'
theorem ok_second_seats (T : Txt K mg A) : FnOk P w K mg base CX0 2 A.f_second_seats A.d_second_seats ["rules"] (sp_second_seats K A) := by
  refine T.F_second_seats.ok sc_second_seats (fun vs H Q E h => ?_) (fun cdv B outer s H vs Q E hr h => ?_)
  · obtain ⟨a, f, dx, xs, gs, rfl, _⟩ := h
    rfl
  · obtain ⟨a, f, dx, xs, gs, rfl, ho, hl, ht, few, q⟩ := h
    refine ⟨_, (pss_one (ps_ret (pe_call (ok_second_of T) (hr.mono (by decide)) rfl T.g_second_of T.F_second_of.kp T.b_second_of .nil pass0 (pa_cons (pe_fld (pv 0) rfl) (pa_cons pe_str pa_nil))))), ?_⟩
    have eS : V.str (Str.ofString "S") = .str ⟨#[(83 : UInt8).toNat]⟩ := by decide +kernel
    exact ⟨_, rfl, a, A.c_Rules, dx, _, _, rfl, ho, T.cl_Rules, T.n_Rules_ground, ru_ground _, f.gr, xs, gs, 83, congrArg (fun z => [V.ref f.gr, z]) eS, hl, ht, few, q⟩
def wrongB (f : RF) (pe pw : Int → Bool) (g : Row3) : Bool := !(g.1 == 46) && (pe ((g.2.1 : Nat) : Int) || !standB f.seat pe pw g.1 ((g.2.1 : Nat) : Int))
def sp_wrong_pieces (K : PySem.W.Frag) (A : Adr) : Sp := fun vs H Q _ => ∃ a f pe pw xs gs, vs = [.ref a] ∧ RuAt A H a f pe pw ∧ H f.st = some (.lst xs) ∧ TupsAt K rowV H xs gs ∧ gs.length ≤ 169 ∧
  ∀ H' q, Same H H' → H q = none → H' q = some (.lst (((gs.filter (wrongB f pe pw)).map fun g => g.2.2).map natV)) → Q (.ref q) H'
theorem ok_wrong_pieces (T : Txt K mg A) : FnOk P w K mg base CX0 2 A.f_wrong_pieces A.d_wrong_pieces ["rules"] (sp_wrong_pieces K A) := by
  refine T.F_wrong_pieces.ok sc_wrong_pieces (fun vs H Q E h => ?_) (fun cdv B outer s H vs Q E hr h => ?_)
  · obtain ⟨a, f, pe, pw, xs, gs, rfl, _⟩ := h
    rfl
  · obtain ⟨a, f, pe, pw, xs, gs, rfl, Z, hl, ht, few, q⟩ := h
    obtain ⟨dx, ho⟩ := Z.obj
    refine ⟨_, (pss_cons (ps_set (i := 1) sc_wrong_pieces.nd rfl (by first | exact .inl rfl | exact .inr rfl) (pe_lst pa_nil))
  (pss_cons (ps_for PassesOwn.never rfl (pi_list (pe_fld (pv 0) rfl)) (pg_tup rfl (pgs_cons (pg_name (i := 2) sc_wrong_pieces.nd rfl (by first | exact .inl rfl | exact .inr rfl)) (pgs_cons (pg_name (i := 3) sc_wrong_pieces.nd rfl (by first | exact .inl rfl | exact .inr rfl)) (pgs_cons (pg_name (i := 4) sc_wrong_pieces.nd rfl (by first | exact .inl rfl | exact .inr rfl)) pgs_nil))))
  (pss_one (ps_if (PW.pt (pw_and (pt_cmpR op_ne (pv 2) pe_str (nomark _)) (pw_and1 (PW.pt (pw_or (pt_cmp (pc_din (hu_of hr) (pv 3) (pe_fld (pv 0) rfl)) rfl) (pw_or1 (pt_not (pt_val (pe_meth (pv 0) T.cl_Rules T.m_Rules_may_stand (ok_Rules_may_stand T) (hr.mono (by decide)) T.b_Rules_may_stand .nil pass0 (pa_cons (pv 2) (pa_cons (pv 3) pa_nil))))))))))) (pss_one (ps_expr (pe_bm PySem.F.plainAttrs_list PySem.F.slot_list_append PySem.F.type_list_append mt_append (pv 1) (pa_cons (pv 4) pa_nil)))) pss_nil)))
  (pss_one (ps_ret (pv 1))))), ?_⟩
    refine ⟨(by decide), fun D nD => ?_⟩
    have ho0 := ho
    have s0 : Same H (upd H D (.lst [])) := same_new nD
    have ho := s0 _ _ ho
    refine ⟨_, rfl, a, A.c_Rules, dx, _, _, rfl, ho, T.cl_Rules, T.n_Rules_start, ru_start _, _, rfl, ⟨_, SqL.of (s0 _ _ hl)⟩, forS (wv_list (xs := xs)) (fun i σ H' => ∃ v2 v3 v4, σ = [some (.ref a), some (.ref D), v2, v3, v4] ∧ Same H H' ∧ H' D = some (.lst ((((gs.take i).filter (wrongB f pe pw)).map fun g => g.2.2).map natV)))
      ⟨none, none, none, rfl, s0, upd_same⟩ (fun i σ H' hP => ?_) (fun i x σ H' hx hP => ?_) (fun σ H' hP => ?_)⟩
    · obtain ⟨_, _, _, _, k, _⟩ := hP
      exact SqL.of (k _ _ hl)
    · obtain ⟨v2, v3, v4, rfl, k, hD⟩ := hP
      obtain ⟨g, p, hg, rfl, hp⟩ := ht.get hx
      have Z := Z.same k
      have ho := k _ _ ho0
      have fin : ∀ b, wrongB f pe pw g = b → (b = true → H' D = some (.lst ((((gs.take i).filter (wrongB f pe pw)).map fun g => g.2.2).map natV)) → (upd H' D (.lst (((((gs.take i).filter (wrongB f pe pw)).map fun g => g.2.2).map natV) ++ [natV g.2.2]))) D = some (.lst ((((gs.take (i + 1)).filter (wrongB f pe pw)).map fun g => g.2.2).map natV))) ∧
          (b = false → H' D = some (.lst ((((gs.take (i + 1)).filter (wrongB f pe pw)).map fun g => g.2.2).map natV))) := fun b hb => by
        rw [take_more hg, List.filter_append, List.map_append, List.map_append]
        constructor
        · rintro rfl _
          rw [upd_same, show [g].filter (wrongB f pe pw) = [g] from by rw [List.filter_cons, if_pos hb]; rfl]
          rfl
        · rintro rfl
          rw [show [g].filter (wrongB f pe pw) = [] from by rw [List.filter_cons, if_neg (by rw [hb]; exact Bool.false_ne_true)]; rfl, hD]
          simp
      have len : ((((gs.take i).filter (wrongB f pe pw)).map fun g => g.2.2).map natV).length < sizeLine := small (by rw [List.length_map, List.length_map]; exact Nat.le_trans (List.length_filter_le _ _) (Nat.le_trans (List.length_take_le' _ _) (by omega)))
      have app : wrongB f pe pw g = true → (tDrop (tBM K "list" rAppend (tVar 1) (tCons (tVar 4) tNil))) { nx := fun σ H' => ∃ v2 v3 v4, σ = [some (.ref a), some (.ref D), v2, v3, v4] ∧ Same H H' ∧ H' D = some (.lst ((((gs.take (i + 1)).filter (wrongB f pe pw)).map fun g => g.2.2).map natV)), rt := Q } [some (.ref a), some (.ref D), some (.str ⟨#[g.1.toNat]⟩), some (.int (g.2.1 : Nat)), some (.int (g.2.2 : Nat))] H' := fun hb =>
        ⟨_, rfl, .inl ⟨rfl, _, SqL.of hD⟩, _, rfl, D, _, _, rfl, rfl, hD, len, _, _, _, rfl, same_put k nD, (fin _ hb).1 rfl hD⟩
      have off : wrongB f pe pw g = false → ∃ v2 v3 v4, [some (V.ref a), some (.ref D), some (.str ⟨#[g.1.toNat]⟩), some (.int (g.2.1 : Nat)), some (.int (g.2.2 : Nat))] = [some (V.ref a), some (.ref D), v2, v3, v4] ∧ Same H H' ∧ H' D = some (.lst ((((gs.take (i + 1)).filter (wrongB f pe pw)).map fun g => g.2.2).map natV)) := fun hb => ⟨_, _, _, rfl, k, (fin _ hb).2 rfl⟩
      have eD := signE (s := ".") g.1 46 (by decide +kernel)
      refine ⟨p, _, rfl, Same.sqT k hp, rfl, _, _, rfl, _, _, rfl, _, _, rfl, rfl, _, rfl, rfl, _, rfl, ?_⟩
      obtain ⟨o, ho1, eo⟩ := Z.de.get ((g.2.1 : Nat) : Int)
      by_cases h46 : (g.1 == 46) = true
      · exact if_f (by rw [eD, h46]; rfl) (off (by unfold wrongB; rw [h46]; rfl))
      · have h46 := Bool.eq_false_iff.mpr h46
        refine if_t (by rw [eD, h46]; rfl) ⟨_, rfl, _, rfl, a, A.c_Rules, dx, _, _, rfl, ho, T.cl_Rules, T.n_Rules_exits, ru_exits _, _, o, rfl, ho1, _, rfl, ?_⟩
        rw [eo]
        by_cases hpe : pe ((g.2.1 : Nat) : Int) = true
        · exact if_t hpe (app (by unfold wrongB; rw [h46, hpe]; rfl))
        · have hpe := Bool.eq_false_iff.mpr hpe
          refine if_f hpe ⟨_, rfl, a, dx, _, rfl, ho, ru_m_may_stand f, _, rfl, _, rfl, a, f, pe, pw, g.2.1, g.1, rfl, Z, _, rfl, ?_⟩
          by_cases hs : standB f.seat pe pw g.1 ((g.2.1 : Nat) : Int) = true
          · exact if_f (by rw [hs]; rfl) (off (by unfold wrongB; rw [h46, hpe, hs]; rfl))
          · have hs := Bool.eq_false_iff.mpr hs
            exact if_t (by rw [hs]; rfl) (app (by unfold wrongB; rw [h46, hpe, hs]; rfl))
    · obtain ⟨v2, v3, v4, rfl, k, hD⟩ := hP
      rw [ht.1, List.take_length] at hD
      exact ⟨_, rfl, q H' D k nD hD⟩
def sp_is_goal_wrong (K : PySem.W.Frag) (A : Adr) : Sp := fun vs H Q _ => ∃ a f pe pw xs gs, vs = [.ref a] ∧ RuAt A H a f pe pw ∧ 1 ≤ f.wide ∧ 1 ≤ f.high ∧ H f.st = some (.lst xs) ∧ TupsAt K rowV H xs gs ∧ gs.length ≤ 169 ∧
  ∀ b H', (b = true ↔ if f.goalX = true then ∀ i, pe i = false else ∃ g, (gs.filter fun g => g.1 == 75)[0]? = some g ∧ edgeB f.wide f.high g.2.1 = true) → Same H H' → Q (.bl b) H'
theorem ok_is_goal_wrong (T : Txt K mg A) : FnOk P w K mg base CX0 2 A.f_is_goal_wrong A.d_is_goal_wrong ["rules"] (sp_is_goal_wrong K A) := by
  refine T.F_is_goal_wrong.ok sc_is_goal_wrong (fun vs H Q E h => ?_) (fun cdv B outer s H vs Q E hr h => ?_)
  · obtain ⟨a, f, pe, pw, xs, gs, rfl, _⟩ := h
    rfl
  · obtain ⟨a, f, pe, pw, xs, gs, rfl, Z, w1, h1, hl, ht, few, q⟩ := h
    obtain ⟨dx, ho⟩ := Z.obj
    refine ⟨_, (pss_cons (ps_if (pt_val (pe_fld (pv 0) rfl)) (pss_one (ps_ret (pe_cmpR (op_eqD0 hr.units0) (pe_fld (pv 0) rfl) pe_dnewK (nomark _)))) pss_nil)
  (pss_cons (ps_setLc (i := 1) (own := [("sign", 2), ("cell", 3), ("place", 4)]) rfl sc_is_goal_wrong.nd rfl rfl (sw_true rfl rfl rfl (by decide +kernel)) (pi_list (pe_fld (pv 0) rfl)) (blkOk_by (N := ["rules", "kings", "sign", "cell", "place"]) (sc := defScope s_is_goal_wrong) (own := [("sign", 2), ("cell", 3), ("place", 4)]) (by decide +kernel)) (fun _ _ _ _ _ => (pg_tupK K (n := 3) rfl (pgs_cons (pg_name (i := 2) sc_is_goal_wrong.nd rfl (by first | exact .inl rfl | exact .inr rfl)) (pgs_cons (pg_name (i := 3) sc_is_goal_wrong.nd rfl (by first | exact .inl rfl | exact .inr rfl)) (pgs_cons (pg_name (i := 4) sc_is_goal_wrong.nd rfl (by first | exact .inl rfl | exact .inr rfl)) pgs_nil))))) (fun _ _ _ _ _ => (pts_one (pt_cmpR op_eq (pv 2) pe_str (nomark _)))) (fun _ _ _ _ _ => (pv 3)))
  (pss_one (ps_ret (pe_and (pe_cmpR (op_neNil hr.units0) (pv 1) (pe_lst pa_nil) (nomark _)) (pe_one (pe_meth (pv 0) T.cl_Rules T.m_Rules_is_edge (ok_Rules_is_edge T) (hr.mono (by decide)) T.b_Rules_is_edge .nil pass0 (pa_cons (pe_ix ix_list (pv 1) pe_int (fun _ _ => rfl)) pa_nil)))))))), ?_⟩
    refine ⟨_, rfl, a, A.c_Rules, dx, _, _, rfl, ho, T.cl_Rules, T.n_Rules_is_goal_exits, ru_is_goal_exits _, _, rfl, ?_⟩
    by_cases hx : f.goalX = true
    · rw [if_pos hx] at q
      refine if_t hx ?_
      obtain ⟨kvs, e, _, hp, hz⟩ := Z.de
      refine ⟨_, rfl, a, A.c_Rules, dx, _, _, rfl, ho, T.cl_Rules, T.n_Rules_exits, ru_exits _, fun p np => ⟨_, _, kvs, rfl, rfl, (same_new np) _ _ e, upd_same, q _ _ ?_ (same_new np)⟩⟩
      constructor
      · intro h i
        rw [← hp i, List.isEmpty_iff.mp h]
        rfl
      · intro h
        rcases hz with hz | ⟨i, hz⟩
        · exact hz
        · rw [h i] at hz; cases hz
    · rw [if_neg hx] at q
      refine if_f (Bool.eq_false_iff.mpr hx) ?_
      refine ⟨_, rfl, a, A.c_Rules, dx, _, _, rfl, ho, T.cl_Rules, T.n_Rules_start, ru_start _, _, rfl, ⟨_, SqL.of hl⟩, fun D nD => lcR (wv_list (xs := xs)) nD (fun H2 s2 => s2.seq (SqL.of hl)) gs ht.1 (fun g => if (g.1 == 75) = true then [natV g.2.1] else []) (fun i x g ys H2 Nx hx hg s2 d2 lt hN hN0 => ?_) ?_ fun H2 s2 d2 => ?_⟩
      · obtain ⟨p, rfl, hp⟩ := ht.2 i x g hx hg
        have eK := signE (s := "K") g.1 75 (by decide +kernel)
        refine ⟨p, _, rfl, Same.sqT s2 hp, rfl, _, _, rfl, _, _, rfl, _, _, rfl, rfl, rfl, _, rfl, rfl, _, rfl, ?_⟩
        by_cases hb : (g.1 == 75) = true
        · exact if_t (eK.trans hb) ⟨_, rfl, ys, d2, lt, hN _ _ (if_pos hb) (same_put s2 nD) upd_same⟩
        · exact if_f (eK.trans (Bool.eq_false_iff.mpr hb)) (hN0 _ (if_neg hb) s2 d2)
      · rw [flat_if]
        exact small (by rw [List.length_map]; exact Nat.le_trans (List.length_filter_le _ _) (by omega))
      · rw [flat_if] at d2
        refine ⟨_, rfl, (by decide), fun p np => ⟨_, _, _, rfl, rfl, SqL.of ((same_new np) _ _ d2), SqL.of upd_same, _, rfl, ?_⟩⟩
        have s3 := s2.trans (same_new (o := .lst []) np)
        cases e : gs.filter (fun g => g.1 == 75) with
        | nil =>
          refine if_f rfl (q _ _ ?_ s3)
          rw [e]
          exact ⟨fun z => (by cases z), fun ⟨g, z, _⟩ => (by cases z)⟩
        | cons g r =>
          rw [e] at d2
          refine if_t rfl ?_
          have ho := s3 _ _ ho
          refine ⟨_, rfl, a, dx, _, rfl, ho, ru_m_is_edge f, _, rfl, D, _, 0, natV g.2.1, rfl, rfl, SqL.of ((same_new np) _ _ d2), atI_nat (j := 0) (List.getElem?_cons_zero ..), a, f, g.2.1, rfl, ⟨dx, ho⟩, w1, h1, fun H4 s4 => q _ _ ?_ (s3.trans s4)⟩
          rw [e]
          exact ⟨fun z => ⟨g, rfl, z⟩, fun ⟨g', z, z2⟩ => by cases z; exact z2⟩
def sp_lacks (K : PySem.W.Frag) (A : Adr) : Sp := fun vs H Q _ => ∃ a f dx xs gs, vs = [.ref a] ∧ H a = some (.ins A.c_Rules dx (ruF f)) ∧ H f.st = some (.lst xs) ∧ TupsAt K rowV H xs gs ∧ gs.length ≤ 169 ∧
  ∀ H', Same H H' → Q (.bl (!(gs.any fun g => g.1 == 75) || !(gs.any fun g => g.1 == 104) || (decide (f.seat < 0) && !(f.passed && (f.se == 0))))) H'
theorem inV_sign (b : UInt8) (gs : List Row3) : inV (.str ⟨#[b.toNat]⟩) (gs.map fun g => V.str ⟨#[g.1.toNat]⟩) = gs.any fun g => g.1 == b := by
  unfold inV
  rw [List.any_map]
  congr 1
  funext g
  show (⟨#[g.1.toNat]⟩ == (⟨#[b.toNat]⟩ : Str)) = _
  rw [Bool.eq_iff_iff, beq_iff_eq, beq_iff_eq]
  constructor
  · intro z
    injection z with z
    have z3 : [g.1.toNat] = [b.toNat] := congrArg (fun q : Array Nat => q.toList) z
    injection z3 with z4
    exact u8_inj z4
  · rintro rfl; rfl
theorem ok_lacks (T : Txt K mg A) : FnOk P w K mg base CX0 1 A.f_lacks A.d_lacks ["rules"] (sp_lacks K A) := by
  refine T.F_lacks.ok sc_lacks (fun vs H Q E h => ?_) (fun cdv B outer s H vs Q E hr h => ?_)
  · obtain ⟨a, f, dx, xs, gs, rfl, _⟩ := h
    rfl
  · obtain ⟨a, f, dx, xs, gs, rfl, ho, hl, ht, few, q⟩ := h
    refine ⟨_, (pss_cons (ps_setLc (i := 1) (own := [("sign", 2), ("cell", 3), ("place", 4)]) rfl sc_lacks.nd rfl rfl (sw_true rfl rfl rfl (by decide +kernel)) (pi_list (pe_fld (pv 0) rfl)) (blkOk_by (N := ["rules", "signs", "sign", "cell", "place"]) (sc := defScope s_lacks) (own := [("sign", 2), ("cell", 3), ("place", 4)]) (by decide +kernel)) (fun _ _ _ _ _ => (pg_tupK K (n := 3) rfl (pgs_cons (pg_name (i := 2) sc_lacks.nd rfl (by first | exact .inl rfl | exact .inr rfl)) (pgs_cons (pg_name (i := 3) sc_lacks.nd rfl (by first | exact .inl rfl | exact .inr rfl)) (pgs_cons (pg_name (i := 4) sc_lacks.nd rfl (by first | exact .inl rfl | exact .inr rfl)) pgs_nil))))) (fun _ _ _ _ _ => pts_nil) (fun _ _ _ _ _ => (pv 2)))
  (pss_cons (ps_if (PW.pt (pw_or (pt_cmpR op_notIn_seq pe_str (pv 1) (by rfl)) (pw_or1 (pt_cmpR op_notIn_seq pe_str (pv 1) (by rfl))))) (pss_one (ps_ret pe_bl)) pss_nil)
  (pss_one (ps_ret (pe_and (pe_cmpR op_lt (pe_fld (pv 0) rfl) pe_int (nomark _)) (pe_one (pe_not (pe_and (pe_fld (pv 0) rfl) (pe_one (pe_cmpR op_eq (pe_fld (pv 0) rfl) pe_int (nomark _))))))))))), ?_⟩
    refine ⟨_, rfl, a, A.c_Rules, dx, _, _, rfl, ho, T.cl_Rules, T.n_Rules_start, ru_start _, _, rfl, ⟨_, SqL.of hl⟩, fun D nD => lcR (wv_list (xs := xs)) nD (fun H2 s2 => s2.seq (SqL.of hl)) gs ht.1 (fun g => [V.str ⟨#[g.1.toNat]⟩]) (fun i x g ys H2 Nx hx hg s2 d2 lt hN hN0 => ?_) ?_ fun H2 s2 d2 => ?_⟩
    · obtain ⟨p, rfl, hp⟩ := ht.2 i x g hx hg
      exact ⟨p, _, rfl, Same.sqT s2 hp, rfl, _, _, rfl, _, _, rfl, _, _, rfl, rfl, rfl, _, rfl, ys, d2, lt, hN _ _ rfl (same_put s2 nD) upd_same⟩
    · rw [flat_map]
      exact small (by rw [List.length_map]; omega)
    · rw [flat_map] at d2
      have eK : V.str (Str.ofString "K") = .str ⟨#[(75 : UInt8).toNat]⟩ := by decide +kernel
      have eH : V.str (Str.ofString "h") = .str ⟨#[(104 : UInt8).toNat]⟩ := by decide +kernel
      have fl : (gs.map fun g => V.str ⟨#[g.1.toNat]⟩).all flatV = true := by
        rw [List.all_map]
        exact List.all_eq_true.mpr fun _ _ => rfl
      rw [eK, eH]
      have q := q _ s2
      refine ⟨_, rfl, D, _, rfl, .inl (SqL.of d2), rfl, fl, _, rfl, ?_⟩
      rw [inV_sign]
      by_cases hk : (gs.any fun g => g.1 == 75) = true
      · rw [hk] at q
        refine if_f (by rw [hk]; rfl) ⟨_, rfl, D, _, rfl, .inl (SqL.of d2), rfl, fl, _, rfl, ?_⟩
        rw [inV_sign]
        by_cases hh : (gs.any fun g => g.1 == 104) = true
        · rw [hh] at q
          refine if_f (by rw [hh]; rfl) ?_
          have ho := s2 _ _ ho
          refine ⟨_, rfl, a, A.c_Rules, dx, _, _, rfl, ho, T.cl_Rules, T.n_Rules_seat, ru_seat _, _, _, rfl, rfl, _, rfl, ?_⟩
          by_cases hs : f.seat < 0
          · rw [decide_eq_true hs] at q
            refine if_t (decide_eq_true hs) ⟨_, rfl, a, A.c_Rules, dx, _, _, rfl, ho, T.cl_Rules, T.n_Rules_passed, ru_passed _, _, rfl, ?_⟩
            by_cases hp : f.passed = true
            · rw [hp] at q
              refine if_t hp ⟨_, rfl, a, A.c_Rules, dx, _, _, rfl, ho, T.cl_Rules, T.n_Rules_seat_enmity, ru_seat_enmity _, rfl, _, rfl, ?_⟩
              have ed : decide (V.int ((f.se : Nat) : Int) = V.int 0) = (f.se == 0) := by
                rw [dec_int, Bool.eq_iff_iff, beq_iff_eq, beq_iff_eq]; omega
              rw [ed]
              exact q
            · have hp := Bool.eq_false_iff.mpr hp
              rw [hp] at q
              exact if_f hp ⟨_, rfl, q⟩
          · rw [decide_eq_false hs] at q
            exact if_f (decide_eq_false hs) q
        · have hh := Bool.eq_false_iff.mpr hh
          rw [hh] at q
          exact if_t (by rw [hh]; rfl) q
      · have hk := Bool.eq_false_iff.mpr hk
        rw [hk] at q
        exact if_t (by rw [hk]; rfl) q
end
end Tf

set_option maxRecDepth 100000
set_option maxHeartbeats 400000
/-! # A text judged, by the lists of signs, cells and places: plain Lean -/
namespace TfP
open Tafl Tf
theorem bind_inv {α β : Type} {x : Except Nat α} {f : α → Except Nat β} {b : β} (h : (x >>= f) = .ok b) : ∃ a, x = .ok a ∧ f a = .ok b := by
  cases x with
  | ok a => exact ⟨a, rfl, h⟩
  | error e => cases h
theorem lit_at : ∀ {b : Bytes} {c d : Cur}, lit b c = .ok d → d.at_ = c.at_ + b.length
  | [], c, d, h => by cases h; rfl
  | x :: r, c, d, h => by
    have h' : (if c.next = some x then lit r c.on else .error c.at_) = .ok d := h
    split at h'
    · have := lit_at h'
      rw [this, List.length_cons]
      show c.at_ + 1 + r.length = _
      omega
    · cases h'
section
variable {α : Type} {sign : UInt8 → Option α} {sb : α → UInt8}
theorem row_inv : ∀ {w : Nat} {c d : Cur} {r : List α}, rowIn sign w c = .ok (r, d) → d.at_ = c.at_ + w + 1 ∧ r.length = w
  | 0, c, d, r, h => by
    rw [rowIn] at h
    cases e : lit [LF] c with
    | ok t =>
      rw [e] at h
      cases h
      exact ⟨by rw [lit_at e]; rfl, rfl⟩
    | error e2 => rw [e] at h; cases h
  | w + 1, c, d, r, h => by
    rw [rowIn] at h
    cases e : c.next.bind sign with
    | none => rw [e] at h; cases h
    | some k =>
      rw [e] at h
      cases e2 : rowIn sign w c.on with
      | error _ =>
        have h' : (rowIn sign w c.on).map (fun (r : List α × Cur) => (k :: r.1, r.2)) = .ok (r, d) := h
        rw [e2] at h'; cases h'
      | ok t =>
        have h' : (rowIn sign w c.on).map (fun (r : List α × Cur) => (k :: r.1, r.2)) = .ok (r, d) := h
        rw [e2] at h'
        have h2 : (k :: t.1, t.2) = (r, d) := Except.ok.inj h'
        obtain ⟨i1, i2⟩ := row_inv (r := t.1) (d := t.2) e2
        cases h2
        refine ⟨?_, by rw [List.length_cons, i2]⟩
        rw [i1]
        show c.at_ + 1 + w + 1 = _
        omega
theorem rows_inv : ∀ {w h : Nat} {c d : Cur} {g : List (List α)} {gp : List Nat}, rowsIn sign w h c = .ok (g, gp, d) → gp = (List.range h).map (fun i => c.at_ + i * (w + 1)) ∧ d.at_ = c.at_ + h * (w + 1) ∧ g.length = h ∧ ∀ r ∈ g, r.length = w
  | w, 0, c, d, g, gp, h => by
    rw [rowsIn] at h
    cases h
    exact ⟨rfl, by omega, rfl, fun r z => by cases z⟩
  | w, n + 1, c, d, g, gp, h => by
    rw [rowsIn] at h
    obtain ⟨⟨r, d1⟩, e1, h⟩ := bind_inv h
    obtain ⟨⟨l, ps, d2⟩, e2, h⟩ := bind_inv h
    cases h
    obtain ⟨a1, a2⟩ := row_inv e1
    obtain ⟨b1, b2, b3, b4⟩ := rows_inv e2
    refine ⟨?_, by rw [b2, a1, Nat.succ_mul]; omega, by rw [List.length_cons, b3], fun r' hr => ?_⟩
    · rw [List.range_succ_eq_map, List.map_cons, List.map_map, b1, a1]
      congr 1
      · omega
      · refine List.map_congr_left fun i _ => ?_
        show c.at_ + w + 1 + i * (w + 1) = c.at_ + (i + 1) * (w + 1)
        rw [Nat.succ_mul]
        omega
    · rcases List.mem_cons.mp hr with rfl | hr
      · exact a2
      · exact b4 _ hr
theorem rowF_map (b p : Nat) (d : α) : ∀ (r : List α) (x : Nat), rowF sb b p x r = (List.range r.length).map fun k => (sb (r.getD k d), b + (x + k), p + (x + k))
  | [], x => rfl
  | k :: r, x => by
    show (sb k, b + x, p + x) :: rowF sb b p (x + 1) r = _
    rw [rowF_map b p d r (x + 1), List.length_cons, List.range_succ_eq_map, List.map_cons, List.map_map]
    congr 1
    refine List.map_congr_left fun i _ => ?_
    show _ = (sb ((k :: r).getD (i + 1) d), b + (x + (i + 1)), p + (x + (i + 1)))
    have e : x + 1 + i = x + (i + 1) := by omega
    rw [e, List.getD_cons_succ]
theorem flatR_map (high : Nat) (d : α) : ∀ (g : List (List α)) (gp : List Nat) (i : Nat), g.length = gp.length → flatR sb high i g gp = (List.range g.length).flatMap fun j => (List.range (g.getD j []).length).map fun k => (sb ((g.getD j []).getD k d), 13 * (high - 1 - (i + j)) + k, gp.getD j 0 + k)
  | [], [], i, _ => rfl
  | [], _ :: _, _, h => by cases h
  | _ :: _, [], _, h => by cases h
  | r :: g, p :: gp, i, h => by
    show rowF sb _ p 0 r ++ flatR sb high (i + 1) g gp = _
    rw [flatR_map high d g gp (i + 1) (by simpa using h), rowF_map _ _ d, List.length_cons, List.range_succ_eq_map, List.flatMap_cons, List.flatMap_map]
    congr 1
    · refine List.map_congr_left fun k _ => ?_
      show _ = (sb (((r :: g).getD 0 []).getD k d), 13 * (high - 1 - (i + 0)) + k, (p :: gp).getD 0 0 + k)
      rw [Nat.zero_add]
      rfl
    · refine congrArg (fun f => List.flatMap f (List.range g.length)) (funext fun j => ?_)
      have e : i + 1 + j = i + (j + 1) := by omega
      show _ = (List.range ((r :: g).getD (j + 1) []).length).map fun k => (sb (((r :: g).getD (j + 1) []).getD k d), 13 * (high - 1 - (i + (j + 1))) + k, (p :: gp).getD (j + 1) 0 + k)
      rw [e, List.getD_cons_succ, List.getD_cons_succ]
end
/-- rows of signs as the rules' cells, as they are written -/
theorem flat_written {α : Type} (sb : α → UInt8) (d : α) (r : Rules) (g : List (List α)) (gp : List Nat) (hg : g.length = r.high) (hgp : gp.length = r.high) (hw : ∀ l ∈ g, l.length = r.wide) :
    flatR sb r.high 0 g gp = r.asWritten.map fun p => (sb (at_ d g r.high p.1 p.2), cellOf p.1 p.2, gp.getD (r.high - 1 - p.2) 0 + p.1) := by
  rw [flatR_map r.high d g gp 0 (hg.trans hgp.symm), hg]
  unfold Rules.asWritten
  rw [List.map_flatMap]
  have cg : ∀ (l : List Nat), (∀ i ∈ l, i < r.high) → (l.flatMap fun j => (List.range (g.getD j []).length).map fun k => (sb ((g.getD j []).getD k d), 13 * (r.high - 1 - (0 + j)) + k, gp.getD j 0 + k)) =
      l.flatMap fun i => ((List.range r.wide).map fun x => (x, r.high - 1 - i)).map fun p => (sb (at_ d g r.high p.1 p.2), cellOf p.1 p.2, gp.getD (r.high - 1 - p.2) 0 + p.1) := by
    intro l
    induction l with
    | nil => intro _; rfl
    | cons i l ih =>
      intro hl
      rw [List.flatMap_cons, List.flatMap_cons, ih fun j hj => hl j (List.mem_cons_of_mem _ hj)]
      congr 1
      have hi := hl i List.mem_cons_self
      have hlen : (g.getD i []).length = r.wide := by
        rw [List.getD_eq_getElem?_getD, List.getElem?_eq_getElem (by omega)]
        exact hw _ (List.getElem_mem _)
      rw [hlen, List.map_map]
      refine List.map_congr_left fun k _ => ?_
      show _ = (sb ((g.getD (r.high - 1 - (r.high - 1 - i)) []).getD k d), 13 * (r.high - 1 - i) + k, gp.getD (r.high - 1 - (r.high - 1 - i)) 0 + k)
      have e : r.high - 1 - (r.high - 1 - i) = i := by omega
      rw [e, Nat.zero_add]
  exact cg _ fun i hi => List.mem_range.mp hi
theorem mem_written (r : Rules) (p : Nat × Nat) : p ∈ r.asWritten ↔ p.1 < r.wide ∧ p.2 < r.high := by
  unfold Rules.asWritten
  rw [List.mem_flatMap]
  constructor
  · rintro ⟨i, hi, hp⟩
    obtain ⟨x, hx, rfl⟩ := List.mem_map.mp hp
    have h1 := List.mem_range.mp hi
    have h2 := List.mem_range.mp hx
    exact ⟨h2, by show r.high - 1 - i < r.high; omega⟩
  · rintro ⟨h1, h2⟩
    refine ⟨r.high - 1 - p.2, List.mem_range.mpr (by omega), List.mem_map.mpr ⟨p.1, List.mem_range.mpr h1, ?_⟩⟩
    show (p.1, r.high - 1 - (r.high - 1 - p.2)) = p
    have e : r.high - 1 - (r.high - 1 - p.2) = p.2 := by omega
    rw [e]
theorem mem_cells (r : Rules) (p : Nat × Nat) : p ∈ r.cells ↔ p.1 < r.wide ∧ p.2 < r.high := by
  unfold Rules.cells cellsOf
  rw [List.mem_flatMap]
  constructor
  · rintro ⟨y, hy, hp⟩
    obtain ⟨x, hx, rfl⟩ := List.mem_map.mp hp
    exact ⟨List.mem_range.mp hx, List.mem_range.mp hy⟩
  · rintro ⟨h1, h2⟩
    exact ⟨p.2, List.mem_range.mpr h2, List.mem_map.mpr ⟨p.1, List.mem_range.mpr h1, rfl⟩⟩
/-! ### the first fault -/
theorem sooner_iff (a b : Nat × Nat) : sooner a b = true ↔ a.2 < b.2 ∨ (a.2 = b.2 ∧ a.1 ≤ b.1) := by
  unfold sooner
  rw [Bool.or_eq_true, Bool.and_eq_true, decide_eq_true_iff, beq_iff_eq, decide_eq_true_iff]
def firstStep (m : Option (Nat × Nat)) (x : Nat × Nat) : Option (Nat × Nat) := match m with
  | some y => if sooner y x = true then some y else some x
  | none => some x
theorem first_some : ∀ (l : List (Nat × Nat)) (y : Nat × Nat), ∃ m, l.foldl firstStep (some y) = some m ∧ (m = y ∨ m ∈ l) ∧ sooner m y = true ∧ ∀ x ∈ l, sooner m x = true
  | [], y => ⟨y, rfl, .inl rfl, (sooner_iff _ _).mpr (by omega), fun x h => by cases h⟩
  | a :: l, y => by
    rw [List.foldl_cons]
    show ∃ m, l.foldl firstStep (if sooner y a = true then some y else some a) = some m ∧ _
    by_cases h : sooner y a = true
    · rw [if_pos h]
      obtain ⟨m, h1, h2, h3, h4⟩ := first_some l y
      refine ⟨m, h1, h2.imp id (List.mem_cons_of_mem _), h3, fun x hx => ?_⟩
      rcases List.mem_cons.mp hx with rfl | hx
      · rw [sooner_iff] at h h3 ⊢; omega
      · exact h4 x hx
    · rw [if_neg h]
      obtain ⟨m, h1, h2, h3, h4⟩ := first_some l a
      refine ⟨m, h1, .inr (h2.elim (fun e => e ▸ List.mem_cons_self) (List.mem_cons_of_mem _)), ?_, fun x hx => ?_⟩
      · rw [sooner_iff] at h h3 ⊢; omega
      · rcases List.mem_cons.mp hx with rfl | hx
        · exact h3
        · exact h4 x hx
theorem first_of (l : List (Nat × Nat)) (m : Nat × Nat) (hm : m ∈ l) (hs : ∀ x ∈ l, sooner m x = true) : firstOf l = some m := by
  cases l with
  | nil => cases hm
  | cons a r =>
    obtain ⟨m', h1, h2, h3, h4⟩ := first_some r a
    have e : firstOf (a :: r) = some m' := h1
    rw [e]
    have i1 : sooner m' m = true := by
      rcases List.mem_cons.mp hm with rfl | hm
      · exact h3
      · exact h4 _ hm
    have i2 : sooner m m' = true := hs _ (by
      rcases h2 with rfl | h2
      · exact List.mem_cons_self
      · exact List.mem_cons_of_mem _ h2)
    rw [sooner_iff] at i1 i2
    congr 1
    exact Prod.ext (by omega) (by omega)
theorem first_none : firstOf [] = none := rfl
end TfP

set_option maxRecDepth 100000
set_option maxHeartbeats 400000
/-! # The faults that the program sees against the spec's: plain Lean -/
namespace TfP
open Tafl Tf
theorem gH_inv {c : Cur} {G : GH} (h : gH c .ok = .ok G) : ∃ m m', G.gp = (List.range G.high).map (fun i => m + i * (G.wide + 1)) ∧ G.sp = (List.range G.high).map (fun i => m' + i * (G.wide + 1)) ∧ m + G.high * (G.wide + 1) ≤ m' := by
  unfold gH at h
  obtain ⟨c1, e1, h⟩ := bind_inv h
  obtain ⟨⟨n, c2⟩, e2, h⟩ := bind_inv h
  obtain ⟨c3, e3, h⟩ := bind_inv h
  obtain ⟨⟨w, c4⟩, e4, h⟩ := bind_inv h
  obtain ⟨c5, e5, h⟩ := bind_inv h
  obtain ⟨⟨hh, c6⟩, e6, h⟩ := bind_inv h
  obtain ⟨c7, e7, h⟩ := bind_inv h
  obtain ⟨c8, e8, h⟩ := bind_inv h
  obtain ⟨c9, e9, h⟩ := bind_inv h
  obtain ⟨⟨g, gp, c10⟩, e10, h⟩ := bind_inv h
  obtain ⟨c11, e11, h⟩ := bind_inv h
  obtain ⟨c12, e12, h⟩ := bind_inv h
  obtain ⟨⟨s, sp, c13⟩, e13, h⟩ := bind_inv h
  have h' : (⟨n, w, hh, g, gp, s, sp, c13⟩ : GH) = G := Except.ok.inj h
  subst h'
  obtain ⟨a1, a2, _, _⟩ := rows_inv e10
  obtain ⟨b1, _, _, _⟩ := rows_inv e13
  refine ⟨c9.at_, c12.at_, a1, b1, ?_⟩
  have f1 := lit_at e11
  have f2 := lit_at e12
  show c9.at_ + hh * (w + 1) ≤ c12.at_
  omega
theorem gR_inv {c : Cur} {r : Nat × Nat × Nat × Nat × Nat × Nat × Nat} (h : gR c .ok = .ok r) : r.2.2.2.2.1 < 2 := by
  unfold gR at h
  obtain ⟨c1, e1, h⟩ := bind_inv h
  obtain ⟨⟨s1, c2⟩, e2, h⟩ := bind_inv h
  obtain ⟨c3, e3, h⟩ := bind_inv h
  obtain ⟨⟨s2, c4⟩, e4, h⟩ := bind_inv h
  obtain ⟨c5, e5, h⟩ := bind_inv h
  obtain ⟨c6, e6, h⟩ := bind_inv h
  obtain ⟨⟨x, c7⟩, e7, h⟩ := bind_inv h
  obtain ⟨c8, e8, h⟩ := bind_inv h
  obtain ⟨c9, e9, h⟩ := bind_inv h
  obtain ⟨⟨o, c10⟩, e10, h⟩ := bind_inv h
  obtain ⟨c11, e11, h⟩ := bind_inv h
  obtain ⟨c12, e12, h⟩ := bind_inv h
  obtain ⟨⟨t, c13⟩, e13, h⟩ := bind_inv h
  obtain ⟨c14, e14, h⟩ := bind_inv h
  obtain ⟨c15, e15, h⟩ := bind_inv h
  obtain ⟨⟨l, c16⟩, e16, h⟩ := bind_inv h
  obtain ⟨c17, e17, h⟩ := bind_inv h
  have h' : (if c17.rest = [] then (Except.ok (s1, s2, x, c9.at_, o, t, l) : Except Nat _) else Except.error c17.at_) = .ok r := h
  split at h'
  · have := Except.ok.inj h'
    subst this
    show o < 2
    rw [word2] at e10
    exact oneOf_label 2 16 _ _ _ _ (fun v hv => by
      have hv' : v ∈ [(0, ascii "edge"), (1, ascii "exits")] := hv
      rcases List.mem_cons.mp hv' with rfl | hv'
      · decide
      · rcases List.mem_cons.mp hv' with rfl | hv'
        · decide
        · cases hv') e10
  · cases h'
structure RulesWf (r : Rules) : Prop where
  w5 : 5 ≤ r.wide
  w13 : r.wide ≤ 13
  h5 : 5 ≤ r.high
  h13 : r.high ≤ 13
  gl : r.ground.length = r.high
  gw : ∀ l ∈ r.ground, l.length = r.wide
  sl : r.start.length = r.high
  sw : ∀ l ∈ r.start, l.length = r.wide
  at_ : ∃ m m', r.groundAt = (List.range r.high).map (fun i => m + i * (r.wide + 1)) ∧ r.startAt = (List.range r.high).map (fun i => m' + i * (r.wide + 1)) ∧ m + r.high * (r.wide + 1) ≤ m'
  goal : r.goal < 2
def gsOf (r : Rules) : List Row3 := r.asWritten.map fun p => (kindB (r.kind p.1 p.2), cellOf p.1 p.2, r.groundPlace p)
def ssOf (r : Rules) : List Row3 := r.asWritten.map fun p => (pieceByte (r.piece p.1 p.2), cellOf p.1 p.2, r.startPlace p)
theorem gs_flat {r : Rules} (W : RulesWf r) : flatR kindB r.high 0 r.ground r.groundAt = gsOf r := by
  obtain ⟨m, m', e, _⟩ := W.at_
  exact flat_written kindB .wall r r.ground r.groundAt W.gl (by rw [e, List.length_map, List.length_range]) W.gw
theorem ss_flat {r : Rules} (W : RulesWf r) : flatR pieceByte r.high 0 r.start r.startAt = ssOf r := by
  obtain ⟨m, m', _, e, _⟩ := W.at_
  exact flat_written pieceByte .none r r.start r.startAt W.sl (by rw [e, List.length_map, List.length_range]) W.sw
theorem kindB_inj {a b : Kind} (h : kindB a = kindB b) : a = b := by cases a <;> cases b <;> first | rfl | (exact absurd h (by decide))
theorem pieceB_inj {a b : Piece} (h : pieceByte a = pieceByte b) : a = b := by cases a <;> cases b <;> first | rfl | (exact absurd h (by decide))
theorem kindB_beq (a b : Kind) : (kindB a == kindB b) = (a == b) := by
  rw [Bool.eq_iff_iff, beq_iff_eq, beq_iff_eq]
  exact ⟨kindB_inj, fun h => h ▸ rfl⟩
theorem pieceB_beq (a b : Piece) : (pieceByte a == pieceByte b) = (a == b) := by
  rw [Bool.eq_iff_iff, beq_iff_eq, beq_iff_eq]
  exact ⟨pieceB_inj, fun h => h ▸ rfl⟩
theorem filter_gs (r : Rules) (k : Kind) : ((gsOf r).filter fun g => g.1 == kindB k) = (r.asWritten.filter fun p => r.kind p.1 p.2 == k).map fun p => (kindB (r.kind p.1 p.2), cellOf p.1 p.2, r.groundPlace p) := by
  unfold gsOf
  rw [List.filter_map]
  congr 1
  refine List.filter_congr fun p _ => ?_
  show (kindB (r.kind p.1 p.2) == kindB k) = _
  exact kindB_beq _ _
theorem filter_ss (r : Rules) (k : Piece) : ((ssOf r).filter fun g => g.1 == pieceByte k) = (r.asWritten.filter fun p => r.piece p.1 p.2 == k).map fun p => (pieceByte (r.piece p.1 p.2), cellOf p.1 p.2, r.startPlace p) := by
  unfold ssOf
  rw [List.filter_map]
  congr 1
  refine List.filter_congr fun p _ => ?_
  show (pieceByte (r.piece p.1 p.2) == pieceByte k) = _
  exact pieceB_beq _ _
theorem seats_places (r : Rules) : (((gsOf r).filter fun g => g.1 == 83).map fun g => g.2.2) = r.seats.map r.groundPlace := by
  have := filter_gs r .seat
  have e : ((gsOf r).filter fun g => g.1 == 83) = (gsOf r).filter fun g => g.1 == kindB .seat := rfl
  rw [e, this, List.map_map]
  rfl
theorem kings_places (r : Rules) : (((ssOf r).filter fun g => g.1 == 75).map fun g => g.2.2) = r.kings.map r.startPlace := by
  have e : ((ssOf r).filter fun g => g.1 == 75) = (ssOf r).filter fun g => g.1 == pieceByte .king := rfl
  rw [e, filter_ss r .king, List.map_map]
  rfl
theorem cellOf_inj {x y x' y' : Nat} (h : x < 13) (h' : x' < 13) (e : cellOf x y = cellOf x' y') : x = x' ∧ y = y' := by
  have e2 : 13 * y + x = 13 * y' + x' := e
  omega
theorem cellOf_mod {x y : Nat} (h : x < 13) : cellOf x y % 13 = x := by show (13 * y + x) % 13 = x; omega
theorem cellOf_div {x y : Nat} (h : x < 13) : cellOf x y / 13 = y := by show (13 * y + x) / 13 = y; omega
theorem inRows_gs (r : Rules) (b : UInt8) (i : Int) : inRows b (gsOf r) i = true ↔ ∃ p : Nat × Nat, p.1 < r.wide ∧ p.2 < r.high ∧ kindB (r.kind p.1 p.2) = b ∧ ((cellOf p.1 p.2 : Nat) : Int) = i := by
  unfold inRows gsOf
  rw [List.any_map, List.any_eq_true]
  constructor
  · rintro ⟨p, hp, h⟩
    have h' : (kindB (r.kind p.1 p.2) == b && decide (((cellOf p.1 p.2 : Nat) : Int) = i)) = true := h
    rw [Bool.and_eq_true, beq_iff_eq, decide_eq_true_iff] at h'
    obtain ⟨h1, h2⟩ := (mem_written r p).mp hp
    exact ⟨p, h1, h2, h'.1, h'.2⟩
  · rintro ⟨p, h1, h2, h3, h4⟩
    refine ⟨p, (mem_written r p).mpr ⟨h1, h2⟩, ?_⟩
    show (kindB (r.kind p.1 p.2) == b && decide (((cellOf p.1 p.2 : Nat) : Int) = i)) = true
    rw [Bool.and_eq_true, beq_iff_eq, decide_eq_true_iff]
    exact ⟨h3, h4⟩
theorem inRows_at {r : Rules} (W : RulesWf r) (k : Kind) {p : Nat × Nat} (h1 : p.1 < r.wide) (h2 : p.2 < r.high) : inRows (kindB k) (gsOf r) ((cellOf p.1 p.2 : Nat) : Int) = (r.kind p.1 p.2 == k) := by
  rw [Bool.eq_iff_iff, inRows_gs, beq_iff_eq]
  have := W.w13
  constructor
  · rintro ⟨q, q1, q2, q3, q4⟩
    obtain ⟨e1, e2⟩ := cellOf_inj (by omega) (by omega) (Int.ofNat_inj.mp q4)
    rw [e1, e2] at q3
    exact kindB_inj q3
  · intro e
    exact ⟨p, h1, h2, congrArg _ e, rfl⟩
theorem seatOf_gs (r : Rules) : seatOf (gsOf r) = match r.seats with
    | p :: _ => ((cellOf p.1 p.2 : Nat) : Int)
    | [] => -1 := by
  unfold seatOf
  have e : (gsOf r).find? (fun g => g.1 == 83) = ((gsOf r).filter fun g => g.1 == 83).head? := by rw [List.head?_filter]
  have e2 : ((gsOf r).filter fun g => g.1 == 83) = r.seats.map fun p => (kindB (r.kind p.1 p.2), cellOf p.1 p.2, r.groundPlace p) := filter_gs r .seat
  rw [e, e2]
  cases r.seats with
  | nil => rfl
  | cons p l => rfl
theorem mem_seats (r : Rules) (p : Nat × Nat) : p ∈ r.seats ↔ p.1 < r.wide ∧ p.2 < r.high ∧ r.kind p.1 p.2 = .seat := by
  unfold Rules.seats
  rw [List.mem_filter, mem_written, beq_iff_eq, and_assoc]
theorem place_at {m w x i high : Nat} {l : List Nat} (h : l = (List.range high).map (fun i => m + i * (w + 1))) (hi : i < high) : l.getD i 0 + x = m + i * (w + 1) + x := by
  rw [h, List.getD_eq_getElem?_getD, List.getElem?_map, List.getElem?_range hi]
  rfl
theorem written_pw {r : Rules} {m : Nat} {l : List Nat} (h : l = (List.range r.high).map (fun i => m + i * (r.wide + 1))) : r.asWritten.Pairwise fun p q => l.getD (r.high - 1 - p.2) 0 + p.1 < l.getD (r.high - 1 - q.2) 0 + q.1 := by
  unfold Rules.asWritten
  rw [List.pairwise_flatMap]
  constructor
  · intro i hi
    rw [List.pairwise_map]
    refine List.pairwise_lt_range.imp fun {a b} hab => ?_
    show l.getD (r.high - 1 - (r.high - 1 - i)) 0 + a < l.getD (r.high - 1 - (r.high - 1 - i)) 0 + b
    omega
  · refine (List.pairwise_iff_forall_sublist.mpr ?_ : List.Pairwise _ _)
    intro i j hs
    have hij : i < j := by
      have := List.pairwise_lt_range.sublist hs
      exact (List.pairwise_cons.mp this).1 j (List.mem_singleton.mpr rfl)
    have hj : j < r.high := List.mem_range.mp (hs.subset (by simp))
    intro p hp q hq
    obtain ⟨x, hx, rfl⟩ := List.mem_map.mp hp
    obtain ⟨y, hy, rfl⟩ := List.mem_map.mp hq
    have hx := List.mem_range.mp hx
    show l.getD (r.high - 1 - (r.high - 1 - i)) 0 + x < l.getD (r.high - 1 - (r.high - 1 - j)) 0 + y
    have e1 : r.high - 1 - (r.high - 1 - i) = i := by omega
    have e2 : r.high - 1 - (r.high - 1 - j) = j := by omega
    rw [e1, e2, place_at h (by omega), place_at h hj]
    have := Nat.mul_le_mul_right (r.wide + 1) hij
    have e3 : (i + 1) * (r.wide + 1) = i * (r.wide + 1) + (r.wide + 1) := Nat.succ_mul _ _
    have e4 : i.succ * (r.wide + 1) = (i + 1) * (r.wide + 1) := rfl
    omega
theorem ground_before {r : Rules} (W : RulesWf r) {p q : Nat × Nat} (p1 : p.1 < r.wide) (p2 : p.2 < r.high) (q2 : q.2 < r.high) : r.groundPlace p < r.startPlace q := by
  obtain ⟨m, m', e1, e2, e3⟩ := W.at_
  unfold Rules.groundPlace Rules.startPlace
  rw [place_at e1 (by omega), place_at e2 (by omega)]
  have := Nat.mul_le_mul_right (r.wide + 1) (show r.high - 1 - p.2 + 1 ≤ r.high by omega)
  have e4 : (r.high - 1 - p.2 + 1) * (r.wide + 1) = (r.high - 1 - p.2) * (r.wide + 1) + (r.wide + 1) := Nat.succ_mul _ _
  omega
end TfP

set_option maxRecDepth 100000
set_option maxHeartbeats 400000
/-! # What is judged -/
namespace TfP
open Tafl Tf
/-- the faults that the program sees: (kind, place) -/
def progFaults (len : Nat) (r : Rules) (wrong : Row3 → Bool) (gw lk : Bool) : List (Nat × Nat) :=
  ((((gsOf r).filter fun g => g.1 == 83).map fun g => g.2.2).drop 1 |>.take 1).map (fun p => (2, p)) ++ ((((ssOf r).filter wrong).map fun g => g.2.2).map (fun p => (3, p)) ++ (((((ssOf r).filter fun g => g.1 == 75).map fun g => g.2.2).drop 1 |>.take 1).map (fun p => (4, p)) ++
  ((if gw = true then [(5, r.goalAt)] else []) ++ (if lk = true then [(6, len)] else []))))
structure Seen (r : Rules) (f : RF) (gw lk : Bool) : Prop where
  seat : f.seat = seatOf (gsOf r)
  gw : gw = true ↔ if (r.goal == 1) = true then ∀ i, inRows 88 (gsOf r) i = false else ∃ g, ((ssOf r).filter fun g => g.1 == 75)[0]? = some g ∧ edgeB r.wide r.high g.2.1 = true
  lk : lk = (!((ssOf r).any fun g => g.1 == 75) || !((ssOf r).any fun g => g.1 == 104) || (decide (seatOf (gsOf r) < 0) && !(r.passed && (r.seat == 0))))
def wrongR (r : Rules) (f : RF) : Row3 → Bool := wrongB f (inRows 88 (gsOf r)) (inRows 35 (gsOf r))
def rowS (r : Rules) (p : Nat × Nat) : Row3 := (pieceByte (r.piece p.1 p.2), cellOf p.1 p.2, r.startPlace p)
theorem wrong_eq {r : Rules} (W : RulesWf r) {f : RF} {gw lk : Bool} (S : Seen r f gw lk) {p : Nat × Nat} (h1 : p.1 < r.wide) (h2 : p.2 < r.high) :
    (wrongR r f (rowS r p) = true → r.misplaced p = true) ∧ (r.misplaced p = true → wrongR r f (rowS r p) = true ∨ (r.kind p.1 p.2 = .seat ∧ ((cellOf p.1 p.2 : Nat) : Int) ≠ seatOf (gsOf r))) := by
  have e1 : inRows 88 (gsOf r) ((cellOf p.1 p.2 : Nat) : Int) = (r.kind p.1 p.2 == .exit) := inRows_at W .exit h1 h2
  have e2 : inRows 35 (gsOf r) ((cellOf p.1 p.2 : Nat) : Int) = (r.kind p.1 p.2 == .wall) := inRows_at W .wall h1 h2
  have e3 : ((cellOf p.1 p.2 : Nat) : Int) = seatOf (gsOf r) → r.kind p.1 p.2 = .seat := fun e => by
    rw [seatOf_gs] at e
    cases hs : r.seats with
    | nil => rw [hs] at e; have e' : ((cellOf p.1 p.2 : Nat) : Int) = -1 := e; omega
    | cons q l =>
      rw [hs] at e
      have hq := (mem_seats r q).mp (by rw [hs]; exact List.mem_cons_self)
      have := W.w13
      obtain ⟨a, b⟩ := cellOf_inj (by omega) (by omega) (Int.ofNat_inj.mp e)
      rw [a, b]
      exact hq.2.2
  unfold wrongR wrongB rowS standB Rules.misplaced
  rw [S.seat]
  simp only [e1, e2]
  cases hp : r.piece p.1 p.2 <;> cases hk : r.kind p.1 p.2 <;> simp [pieceByte] <;> (try (intro z; have := e3 z; rw [hk] at this; cases this)) <;> (try (by_cases z : ((cellOf p.1 p.2 : Nat) : Int) = seatOf (gsOf r) <;> simp [z]))
theorem mem_take1 {α : Type} {x : α} {l : List α} (h : x ∈ l.take 1) : x ∈ l := List.mem_of_mem_take h
theorem any_exit (r : Rules) : (r.cells.any fun p => r.kind p.1 p.2 == .exit) = false ↔ ∀ i, inRows 88 (gsOf r) i = false := by
  constructor
  · intro h i
    rw [Bool.eq_false_iff]
    intro z
    obtain ⟨p, h1, h2, h3, _⟩ := (inRows_gs r 88 i).mp z
    have : (r.cells.any fun p => r.kind p.1 p.2 == .exit) = true := List.any_eq_true.mpr ⟨p, (mem_cells r p).mpr ⟨h1, h2⟩, beq_iff_eq.mpr (kindB_inj (b := .exit) h3)⟩
    rw [h] at this
    cases this
  · intro h
    rw [Bool.eq_false_iff]
    intro z
    obtain ⟨p, hp, hk⟩ := List.any_eq_true.mp z
    obtain ⟨h1, h2⟩ := (mem_cells r p).mp hp
    have := (inRows_gs r 88 ((cellOf p.1 p.2 : Nat) : Int)).mpr ⟨p, h1, h2, by rw [beq_iff_eq.mp hk]; rfl, rfl⟩
    rw [h] at this
    cases this
theorem edge_on {r : Rules} (W : RulesWf r) {p : Nat × Nat} (h1 : p.1 < r.wide) : edgeB r.wide r.high (cellOf p.1 p.2) = r.onEdge p := by
  have := W.w13
  unfold edgeB Rules.onEdge
  rw [cellOf_mod (by omega), cellOf_div (by omega)]
theorem any_ss (r : Rules) (k : Piece) : ((ssOf r).any fun g => g.1 == pieceByte k) = true ↔ ∃ p : Nat × Nat, p.1 < r.wide ∧ p.2 < r.high ∧ r.piece p.1 p.2 = k := by
  unfold ssOf
  rw [List.any_map, List.any_eq_true]
  constructor
  · rintro ⟨p, hp, h⟩
    obtain ⟨h1, h2⟩ := (mem_written r p).mp hp
    exact ⟨p, h1, h2, pieceB_inj (beq_iff_eq.mp h)⟩
  · rintro ⟨p, h1, h2, h3⟩
    exact ⟨p, (mem_written r p).mpr ⟨h1, h2⟩, beq_iff_eq.mpr (congrArg pieceByte h3)⟩
theorem mem_kings (r : Rules) (p : Nat × Nat) : p ∈ r.kings ↔ p.1 < r.wide ∧ p.2 < r.high ∧ r.piece p.1 p.2 = .king := by
  unfold Rules.kings
  rw [List.mem_filter, mem_written, beq_iff_eq, and_assoc]
theorem kings_ss (r : Rules) : ((ssOf r).filter fun g => g.1 == 75) = r.kings.map (rowS r) := filter_ss r .king
def goalBad (r : Rules) : Prop := (r.goal = 1 ∧ (r.cells.any fun (p : Nat × Nat) => r.kind p.1 p.2 == .exit) = false) ∨ (r.goal = 0 ∧ (r.kings.take 1).any r.onEdge = true)
def lacking (r : Rules) : Prop := r.kings = [] ∨ (r.cells.any fun (p : Nat × Nat) => r.piece p.1 p.2 == .hunter) = false ∨ (r.seats = [] ∧ ¬ (r.passed = true ∧ r.seat = 0))
theorem gw_iff {r : Rules} (W : RulesWf r) {f : RF} {gw lk : Bool} (S : Seen r f gw lk) : gw = true ↔ goalBad r := by
  rw [S.gw]
  unfold goalBad
  by_cases h : r.goal = 1
  · rw [if_pos (beq_iff_eq.mpr h), any_exit]
    constructor
    · exact fun z => .inl ⟨h, z⟩
    · rintro (⟨_, z⟩ | ⟨z, _⟩)
      · exact z
      · omega
  · have h0 : r.goal = 0 := by have := W.goal; omega
    rw [if_neg (fun z => h (beq_iff_eq.mp z)), kings_ss]
    cases hk : r.kings with
    | nil =>
      constructor
      · rintro ⟨g, z, _⟩; cases z
      · rintro (⟨z, _⟩ | ⟨_, z⟩)
        · omega
        · cases z
    | cons p l =>
      have hp := (mem_kings r p).mp (by rw [hk]; exact List.mem_cons_self)
      constructor
      · rintro ⟨g, z, z2⟩
        cases z
        refine .inr ⟨h0, ?_⟩
        show (r.onEdge p || false) = true
        rw [Bool.or_false, ← edge_on W hp.1]
        exact z2
      · rintro (⟨z, _⟩ | ⟨_, z⟩)
        · omega
        · refine ⟨_, rfl, ?_⟩
          have z' : (r.onEdge p || false) = true := z
          rw [Bool.or_false, ← edge_on W hp.1] at z'
          exact z'
theorem seat_neg (r : Rules) : seatOf (gsOf r) < 0 ↔ r.seats = [] := by
  rw [seatOf_gs]
  cases r.seats with
  | nil => exact ⟨fun _ => rfl, fun _ => by show (-1 : Int) < 0; decide⟩
  | cons p l =>
    constructor
    · intro h
      have h' : ((cellOf p.1 p.2 : Nat) : Int) < 0 := h
      omega
    · intro h; cases h
theorem lk_iff {r : Rules} {f : RF} {gw lk : Bool} (S : Seen r f gw lk) : lk = true ↔ lacking r := by
  have k1 : ((ssOf r).any fun g => g.1 == 75) = true ↔ r.kings ≠ [] := by
    have := any_ss r .king
    refine this.trans ⟨fun ⟨p, h1, h2, h3⟩ z => ?_, fun h => ?_⟩
    · have := (mem_kings r p).mpr ⟨h1, h2, h3⟩
      rw [z] at this
      cases this
    · obtain ⟨p, hp⟩ := List.exists_mem_of_ne_nil _ h
      exact ⟨p, (mem_kings r p).mp hp⟩
  have k2 : ((ssOf r).any fun g => g.1 == 104) = true ↔ (r.cells.any fun (p : Nat × Nat) => r.piece p.1 p.2 == .hunter) = true := by
    refine (any_ss r .hunter).trans ?_
    rw [List.any_eq_true]
    exact ⟨fun ⟨p, h1, h2, h3⟩ => ⟨p, (mem_cells r p).mpr ⟨h1, h2⟩, beq_iff_eq.mpr h3⟩, fun ⟨p, hp, h⟩ => ⟨p, ((mem_cells r p).mp hp).1, ((mem_cells r p).mp hp).2, beq_iff_eq.mp h⟩⟩
  rw [S.lk]
  unfold lacking
  rw [← seat_neg]
  simp only [Bool.or_eq_true, Bool.not_eq_true', Bool.and_eq_true, decide_eq_true_iff, or_assoc]
  refine or_congr ?_ (or_congr ?_ (and_congr Iff.rfl ?_))
  · rw [← Bool.not_eq_true, k1]
    exact Classical.not_not
  · rw [← Bool.not_eq_true, k2, Bool.not_eq_true]
  · rw [← Bool.not_eq_true, Bool.and_eq_true, beq_iff_eq]
theorem wrongs_eq (len : Nat) (r : Rules) [Decidable (goalBad r)] [Decidable (lacking r)] : wrongs len r = (r.seats.drop 1).map (fun (p : Nat × Nat) => (2, r.groundPlace p)) ++ ((r.asWritten.filter r.misplaced).map (fun (p : Nat × Nat) => (3, r.startPlace p)) ++ ((r.kings.drop 1).map (fun (p : Nat × Nat) => (4, r.startPlace p)) ++
  ((if goalBad r then [(5, r.goalAt)] else []) ++ (if lacking r then [(6, len)] else [])))) := by
  unfold wrongs goalBad lacking
  congr
open Classical in
theorem prog_sub {len : Nat} {r : Rules} (W : RulesWf r) {f : RF} {gw lk : Bool} (S : Seen r f gw lk) : ∀ x ∈ progFaults len r (wrongR r f) gw lk, x ∈ wrongs len r := by
  intro x hx
  unfold progFaults at hx
  rw [seats_places, kings_places] at hx
  rw [wrongs_eq]
  simp only [List.mem_append] at hx ⊢
  rcases hx with hx | hx | hx | hx | hx
  · refine .inl ?_
    obtain ⟨q, hq, rfl⟩ := List.mem_map.mp hx
    have hq := mem_take1 hq
    rw [← List.map_drop] at hq
    obtain ⟨p, hp, rfl⟩ := List.mem_map.mp hq
    exact List.mem_map.mpr ⟨p, hp, rfl⟩
  · refine .inr (.inl ?_)
    obtain ⟨q, hq, rfl⟩ := List.mem_map.mp hx
    obtain ⟨g, hg, rfl⟩ := List.mem_map.mp hq
    obtain ⟨hg1, hg2⟩ := List.mem_filter.mp hg
    obtain ⟨p, hp, rfl⟩ := List.mem_map.mp hg1
    obtain ⟨h1, h2⟩ := (mem_written r p).mp hp
    exact List.mem_map.mpr ⟨p, List.mem_filter.mpr ⟨hp, (wrong_eq W S h1 h2).1 hg2⟩, rfl⟩
  · refine .inr (.inr (.inl ?_))
    obtain ⟨q, hq, rfl⟩ := List.mem_map.mp hx
    have hq := mem_take1 hq
    rw [← List.map_drop] at hq
    obtain ⟨p, hp, rfl⟩ := List.mem_map.mp hq
    exact List.mem_map.mpr ⟨p, hp, rfl⟩
  · refine .inr (.inr (.inr (.inl ?_)))
    by_cases h : gw = true
    · rw [if_pos h] at hx
      rw [if_pos ((gw_iff W S).mp h)]
      exact hx
    · rw [if_neg h] at hx; cases hx
  · refine .inr (.inr (.inr (.inr ?_)))
    by_cases h : lk = true
    · rw [if_pos h] at hx
      rw [if_pos ((lk_iff S).mp h)]
      exact hx
    · rw [if_neg h] at hx; cases hx
theorem sooner_refl (x : Nat × Nat) : sooner x x = true := (sooner_iff _ _).mpr (by omega)
/-- of a list whose places rise: the second is sooner than the later ones -/
theorem second_sooner {k : Nat} {r : Rules} {pl : Nat × Nat → Nat} {l : List (Nat × Nat)} (hp : l.Pairwise fun p q => pl p < pl q) {p : Nat × Nat} (h : p ∈ l.drop 1) : ∃ q, q ∈ ((l.map pl).drop 1).take 1 ∧ q ≤ pl p := by
  match l, h, hp with
  | a :: b :: r, h, hp =>
    refine ⟨pl b, by simp, ?_⟩
    have h' : p ∈ b :: r := h
    rcases List.mem_cons.mp h' with rfl | h'
    · exact Nat.le_refl _
    · have := (List.pairwise_cons.mp (List.pairwise_cons.mp hp).2).1 p h'
      omega
open Classical in
theorem spec_sub {len : Nat} {r : Rules} (W : RulesWf r) {f : RF} {gw lk : Bool} (S : Seen r f gw lk) : ∀ x ∈ wrongs len r, ∃ y ∈ progFaults len r (wrongR r f) gw lk, sooner y x = true := by
  intro x hx
  obtain ⟨m, m', a1, a2, a3⟩ := W.at_
  have seatsP : r.seats.Pairwise fun p q => r.groundPlace p < r.groundPlace q := (written_pw a1).filter _
  have kingsP : r.kings.Pairwise fun p q => r.startPlace p < r.startPlace q := (written_pw a2).filter _
  unfold progFaults
  rw [seats_places, kings_places]
  rw [wrongs_eq] at hx
  simp only [List.mem_append] at hx ⊢
  rcases hx with hx | hx | hx | hx | hx
  · obtain ⟨p, hp, rfl⟩ := List.mem_map.mp hx
    obtain ⟨q, hq, hle⟩ := second_sooner (k := 2) (r := r) seatsP hp
    exact ⟨(2, q), .inl (List.mem_map.mpr ⟨q, hq, rfl⟩), (sooner_iff _ _).mpr (by show q < _ ∨ (q = _ ∧ 2 ≤ 2); omega)⟩
  · obtain ⟨p, hp, rfl⟩ := List.mem_map.mp hx
    obtain ⟨hp1, hp2⟩ := List.mem_filter.mp hp
    obtain ⟨h1, h2⟩ := (mem_written r p).mp hp1
    rcases (wrong_eq W S h1 h2).2 hp2 with h | ⟨h, hne⟩
    · exact ⟨(3, r.startPlace p), .inr (.inl (List.mem_map.mpr ⟨r.startPlace p, List.mem_map.mpr ⟨rowS r p, List.mem_filter.mpr ⟨List.mem_map.mpr ⟨p, hp1, rfl⟩, h⟩, rfl⟩, rfl⟩)), sooner_refl _⟩
    · have hs := (mem_seats r p).mpr ⟨h1, h2, h⟩
      have hd : p ∈ r.seats.drop 1 := by
        rw [seatOf_gs] at hne
        cases e : r.seats with
        | nil => rw [e] at hs; cases hs
        | cons q l =>
          rw [e] at hs hne
          rcases List.mem_cons.mp hs with rfl | hs
          · exact absurd rfl hne
          · exact hs
      obtain ⟨q, hq, hle⟩ := second_sooner (k := 2) (r := r) seatsP hd
      have := ground_before W h1 h2 (q := p) h2
      exact ⟨(2, q), .inl (List.mem_map.mpr ⟨q, hq, rfl⟩), (sooner_iff _ _).mpr (by show q < r.startPlace p ∨ _; omega)⟩
  · obtain ⟨p, hp, rfl⟩ := List.mem_map.mp hx
    obtain ⟨q, hq, hle⟩ := second_sooner (k := 4) (r := r) kingsP hp
    exact ⟨(4, q), .inr (.inr (.inl (List.mem_map.mpr ⟨q, hq, rfl⟩))), (sooner_iff _ _).mpr (by show q < _ ∨ (q = _ ∧ 4 ≤ 4); omega)⟩
  · by_cases h : goalBad r
    · rw [if_pos h] at hx
      refine ⟨x, .inr (.inr (.inr (.inl ?_))), sooner_refl _⟩
      rw [if_pos ((gw_iff W S).mpr h)]
      exact hx
    · rw [if_neg h] at hx; cases hx
  · by_cases h : lacking r
    · rw [if_pos h] at hx
      refine ⟨x, .inr (.inr (.inr (.inr ?_))), sooner_refl _⟩
      rw [if_pos ((lk_iff S).mpr h)]
      exact hx
    · rw [if_neg h] at hx; cases hx
theorem judge_ok {b : Bytes} {r : Rules} (W : RulesWf r) {f : RF} {gw lk : Bool} (S : Seen r f gw lk) (hg : grammar b = .ok r) (h : progFaults b.length r (wrongR r f) gw lk = []) : judge b = .ok r := by
  have e : wrongs b.length r = [] := by
    cases e : wrongs b.length r with
    | nil => rfl
    | cons x l =>
      obtain ⟨y, hy, _⟩ := spec_sub W S x (by rw [e]; exact List.mem_cons_self)
      rw [h] at hy
      cases hy
  unfold judge
  rw [hg]
  show (match firstOf (wrongs b.length r) with | some f => Except.error f | none => .ok r) = _
  rw [e]
  rfl
theorem judge_bad {b : Bytes} {r : Rules} (W : RulesWf r) {f : RF} {gw lk : Bool} (S : Seen r f gw lk) (hg : grammar b = .ok r) {m : Nat × Nat} (hm : m ∈ progFaults b.length r (wrongR r f) gw lk) (hs : ∀ x ∈ progFaults b.length r (wrongR r f) gw lk, sooner m x = true) : judge b = .error m := by
  have e := first_of (wrongs b.length r) m (prog_sub W S m hm) fun x hx => by
    obtain ⟨y, hy, hyx⟩ := spec_sub W S x hx
    have h1 := hs y hy
    rw [sooner_iff] at h1 hyx ⊢
    omega
  unfold judge
  rw [hg]
  show (match firstOf (wrongs b.length r) with | some f => Except.error f | none => .ok r) = _
  rw [e]
theorem judge_err {b : Bytes} {p : Nat} (hg : grammar b = .error p) : judge b = .error (1, p) := by
  unfold judge
  rw [hg]
/-! ### the rules as the program has them -/
structure RuR (f : RF) (pe pw : Int → Bool) (r : Rules) : Prop where
  wf : RulesWf r
  wide : f.wide = r.wide
  high : f.high = r.high
  first : f.first = (r.first == 1)
  slides : f.slides = r.slides
  armed : f.armed = r.armed
  four : f.four = r.four
  passed : f.passed = r.passed
  se : f.se = r.seat
  xe : f.xe = r.exits
  goalX : f.goalX = (r.goal == 1)
  seat : ∀ c : Nat, f.seat = (c : Int) ↔ r.kindAt c = .seat
  pe : ∀ i : Int, pe i = true ↔ ∃ c : Nat, i = c ∧ r.kindAt c = .exit
  pw : ∀ c : Nat, r.isCell c = true → (pw (c : Int) = true ↔ r.kindAt c = .wall)
theorem kindAt_of {r : Rules} (W : RulesWf r) {p : Nat × Nat} (h1 : p.1 < r.wide) (h2 : p.2 < r.high) : r.kindAt (cellOf p.1 p.2) = r.kind p.1 p.2 := by
  have := W.w13
  unfold Rules.kindAt Rules.isCell
  rw [show STRIDE = 13 from rfl, cellOf_mod (by omega), cellOf_div (by omega), if_pos (by rw [decide_eq_true h1, decide_eq_true h2]; rfl)]
theorem cell_at {r : Rules} {c : Nat} (h : r.isCell c = true) : c % 13 < r.wide ∧ c / 13 < r.high ∧ cellOf (c % 13) (c / 13) = c := by
  unfold Rules.isCell at h
  rw [Bool.and_eq_true, decide_eq_true_iff, decide_eq_true_iff] at h
  exact ⟨h.1, h.2, by show 13 * (c / 13) + c % 13 = c; omega⟩
theorem kindAt_kind {r : Rules} {c : Nat} (h : r.isCell c = true) : r.kindAt c = r.kind (c % 13) (c / 13) := by
  unfold Rules.kindAt
  rw [if_pos h]
  rfl
theorem isCell_of {r : Rules} {c : Nat} (h : r.kindAt c ≠ .wall) : r.isCell c = true := by
  cases e : r.isCell c with
  | true => rfl
  | false => exact absurd (by unfold Rules.kindAt; rw [e]; rfl) h
theorem inRows_kindAt {r : Rules} (W : RulesWf r) (k : Kind) (i : Int) : inRows (kindB k) (gsOf r) i = true ↔ ∃ c : Nat, i = c ∧ r.isCell c = true ∧ r.kindAt c = k := by
  rw [inRows_gs]
  have := W.w13
  constructor
  · rintro ⟨p, h1, h2, h3, rfl⟩
    refine ⟨_, rfl, ?_, ?_⟩
    · unfold Rules.isCell
      rw [show STRIDE = 13 from rfl, cellOf_mod (by omega), cellOf_div (by omega), decide_eq_true h1, decide_eq_true h2]
      rfl
    · rw [kindAt_of W h1 h2]
      exact kindB_inj h3
  · rintro ⟨c, rfl, h1, h2⟩
    obtain ⟨a, b, e⟩ := cell_at h1
    rw [kindAt_kind h1] at h2
    exact ⟨(c % 13, c / 13), a, b, by rw [h2], by rw [e]⟩
theorem ruR {r : Rules} (W : RulesWf r) {f : RF} (h : r.seats.drop 1 = []) (hs : f.seat = seatOf (gsOf r)) (e1 : f.wide = r.wide) (e2 : f.high = r.high) (e3 : f.first = (r.first == 1)) (e4 : f.slides = r.slides) (e5 : f.armed = r.armed) (e6 : f.four = r.four) (e7 : f.passed = r.passed) (e8 : f.se = r.seat)
    (e9 : f.xe = r.exits) (e10 : f.goalX = (r.goal == 1)) : RuR f (inRows 88 (gsOf r)) (inRows 35 (gsOf r)) r := by
  refine ⟨W, e1, e2, e3, e4, e5, e6, e7, e8, e9, e10, fun c => ?_, fun i => ?_, fun c hc => ?_⟩
  · rw [hs, seatOf_gs]
    constructor
    · intro z
      cases e : r.seats with
      | nil => rw [e] at z; have z' : (-1 : Int) = (c : Int) := z; omega
      | cons q l =>
        rw [e] at z
        have hq := (mem_seats r q).mp (by rw [e]; exact List.mem_cons_self)
        have z' : ((cellOf q.1 q.2 : Nat) : Int) = (c : Int) := z
        rw [← Int.ofNat_inj.mp z', kindAt_of W hq.1 hq.2.1]
        exact hq.2.2
    · intro z
      have hc := isCell_of (r := r) (c := c) (by rw [z]; intro q; cases q)
      obtain ⟨a, b, ee⟩ := cell_at hc
      rw [kindAt_kind hc] at z
      have hm := (mem_seats r (c % 13, c / 13)).mpr ⟨a, b, z⟩
      cases e : r.seats with
      | nil => rw [e] at hm; cases hm
      | cons q l =>
        rw [e] at hm h
        have hl : l = [] := h
        subst hl
        have := List.mem_singleton.mp hm
        show ((cellOf q.1 q.2 : Nat) : Int) = c
        rw [← this, ee]
  · rw [show (88 : UInt8) = kindB .exit from rfl, inRows_kindAt W]
    exact ⟨fun ⟨c, a, _, b⟩ => ⟨c, a, b⟩, fun ⟨c, a, b⟩ => ⟨c, a, isCell_of (by rw [b]; intro q; cases q), b⟩⟩
  · rw [show (35 : UInt8) = kindB .wall from rfl, inRows_kindAt W]
    exact ⟨fun ⟨d, a, _, b⟩ => by rw [Int.ofNat_inj.mp a]; exact b, fun b => ⟨c, rfl, hc, b⟩⟩
theorem no_second {len : Nat} {r : Rules} {wrong : Row3 → Bool} {gw lk : Bool} (h : progFaults len r wrong gw lk = []) : r.seats.drop 1 = [] := by
  unfold progFaults at h
  rw [seats_places] at h
  have h1 := (List.append_eq_nil_iff.mp h).1
  cases e : r.seats with
  | nil => rfl
  | cons a l =>
    cases l with
    | nil => rfl
    | cons b l => rw [e] at h1; cases h1
end TfP

set_option maxRecDepth 100000
set_option maxHeartbeats 1000000
/-! # The rules of a text -/
namespace Tf
open PySem PySem.Spec PyProof.Rows L2 TfP
def prV (n : Pr) : List V := [.int n.1, .int n.2]
theorem TupsAt.refs {α : Type} {K : PySem.W.Frag} {tv : α → List V} {H : Hp} {xs : List V} {rs : List α} (h : TupsAt K tv H xs rs) : ∃ ps : List Addr, xs = ps.map V.ref ∧ Paired (fun p r => SqT K H p (tv r)) ps rs := by
  induction rs generalizing xs with
  | nil =>
    have := h.1
    cases xs with
    | nil => exact ⟨[], rfl, .nil⟩
    | cons => cases this
  | cons r rs ih =>
    cases xs with
    | nil => have := h.1; cases this
    | cons x xs =>
      obtain ⟨p, e, q⟩ := h.2 0 x r rfl rfl
      obtain ⟨ps, e2, q2⟩ := ih (xs := xs) ⟨by have := h.1; simpa using this, fun i y s h1 h2 => h.2 (i + 1) y s h1 h2⟩
      exact ⟨p :: ps, by rw [e, e2]; rfl, .cons q q2⟩
theorem TupsAt.append {α : Type} {K : PySem.W.Frag} {tv : α → List V} {H : Hp} {xs ys : List V} {rs ss : List α} (h : TupsAt K tv H xs rs) (g : TupsAt K tv H ys ss) : TupsAt K tv H (xs ++ ys) (rs ++ ss) := by
  refine ⟨by rw [List.length_append, List.length_append, h.1, g.1], fun i x r h1 h2 => ?_⟩
  by_cases hi : i < rs.length
  · rw [List.getElem?_append_left (by rw [h.1]; exact hi)] at h1
    rw [List.getElem?_append_left hi] at h2
    exact h.2 i x r h1 h2
  · rw [List.getElem?_append_right (by omega)] at h2
    rw [List.getElem?_append_right (by rw [h.1]; omega), h.1] at h1
    exact g.2 _ x r h1 h2
def rfOf (r : Tafl.Rules) (ex wl gr st : Addr) (seat : Int) : RF := ⟨r.wide, r.high, r.first == 1, r.slides, r.armed, r.four, r.passed, r.seat, r.exits, r.goal == 1, r.goalAt, seat, ex, wl, gr, st⟩
theorem nt_lst {H : Hp} {a : Addr} {xs : List V} (h : H a = some (.lst xs)) : NoTup (· = a) H := fun b o hb e => by rw [hb, h] at e; cases e; rfl
theorem Kp.noneSame {p : Addr → Prop} {H H' : Hp} (k : Kp p H H') (n : ∀ b, p b → H b = none) : Same H H' := fun b o e => k.keep b o e fun z => by rw [n b z] at e; cases e
theorem EF.new {A : Adr} {q : Addr → Prop} {H0 H : Hp} {E : XK} {k n : Nat} (h : EF A (fun _ => False) H0 E k n) (s : Same H0 H) (hq : ∀ b, q b → H0 b = none) : EF A q H E k n := fun d H' k2 n2 e => h d H' ⟨fun b o e _ => k2.keep b o (s _ _ e) (fun z => by rw [hq b z] at e; cases e), fun b e => s.free (k2.dom b e)⟩ (s.free n2) e
/-- a list comprehension: what holds ahead of each item -/
theorem lcV {J : It} {xs : List V} {G : Hp → Prop} {g : TG} {tt : TT} {te : TE} {vs : List Nat} {σ : L2.St} {H1 : Hp} {D : Addr} {Qd : Hp → Prop} (w : WalkV J xs G) (Pv : Nat → Hp → Prop) (h0 : Pv 0 (upd H1 D (.lst []))) (hG : ∀ i H, Pv i H → G H)
    (hs : ∀ i x H, xs[i]? = some x → Pv i H → g x (wipe σ vs) H fun σ2 H2 => wipe σ2 vs = wipe σ vs ∧ tt σ2 H2 fun b H3 => if b = true then te σ2 H3 fun y H4 => ∃ acc, H4 D = some (.lst acc) ∧ acc.length < sizeLine ∧ Pv (i + 1) (upd H4 D (.lst (acc ++ [y]))) else Pv (i + 1) H3)
    (hd : ∀ H, Pv xs.length H → Qd H) :
    ∃ W : Nat → Nat → Hp → Prop, (∃ m, W 0 m (upd H1 D (.lst []))) ∧ ∀ i m H, W i m H →
      (J.stop i H ∧ Qd H) ∨ (J.go i H ∧ ∃ Nx : Hp → Prop, (∀ H', Nx H' → ∃ m', m' < m ∧ W (i + 1) m' H') ∧ ∀ x H', J.yld i H x H' → g x (wipe σ vs) H' fun σ2 H2 => wipe σ2 vs = wipe σ vs ∧ tt σ2 H2 fun b H3 =>
        if b = true then te σ2 H3 fun y H4 => ∃ acc, H4 D = some (.lst acc) ∧ acc.length < sizeLine ∧ Nx (upd H4 D (.lst (acc ++ [y]))) else Nx H3) := by
  refine ⟨fun i m H => i + m = xs.length ∧ Pv i H, ⟨xs.length, by omega, h0⟩, fun i m H ⟨hm, hP⟩ => ?_⟩
  by_cases hi : i < xs.length
  · refine .inr ⟨w.goes i H hi (hG i H hP), Pv (i + 1), fun H' p => ⟨m - 1, by omega, by omega, p⟩, fun x H' hy => ?_⟩
    obtain ⟨rfl, hx⟩ := w.yields i H x H' hi (hG i H hP) hy
    exact hs i x _ hx hP
  · have e : i = xs.length := by omega
    subst e
    exact .inl ⟨w.stops H (hG _ H hP), hd H hP⟩
/-- [(place, c) for place in places] -/
theorem lcFault {K : PySem.W.Frag} {s0 s1 s2 s3 s4 s5 : Option V} {H1 : Hp} {D q : Addr} {Qd : Hp → Prop} {ps : List Nat} {c : Int} (hq : H1 q = some (.lst (ps.map natV))) (nD : H1 D = none) (few : ps.length ≤ 1000)
    (hd : ∀ H ys, Same H1 H → H D = some (.lst ys) → TupsAt K prV H ys (ps.map fun p => (((p : Nat) : Int), c)) → Qd H) :
    ∃ W : Nat → Nat → Hp → Prop, (∃ m, W 0 m (upd H1 D (.lst []))) ∧ ∀ i m H, W i m H →
      ((Itl K q).stop i H ∧ Qd H) ∨ ((Itl K q).go i H ∧ ∃ Nx : Hp → Prop, (∀ H', Nx H' → ∃ m', m' < m ∧ W (i + 1) m' H') ∧ ∀ x H', (Itl K q).yld i H x H' → (gName 4) x (wipe [s0, s1, s2, s3, s4, s5] [4]) H' fun σ2 H2 => wipe σ2 [4] = wipe [s0, s1, s2, s3, s4, s5] [4] ∧ tYes σ2 H2 fun b H3 =>
        if b = true then (tTup (tCons (tVar 4) (tCons (tC (.int c)) tNil))) σ2 H3 fun y H4 => ∃ acc, H4 D = some (.lst acc) ∧ acc.length < sizeLine ∧ Nx (upd H4 D (.lst (acc ++ [y]))) else Nx H3) := by
  refine lcV (wv_list (xs := ps.map natV)) (fun i H => Same H1 H ∧ ∃ ys, H D = some (.lst ys) ∧ TupsAt K prV H ys ((ps.take i).map fun p => (((p : Nat) : Int), c))) ⟨same_new nD, [], upd_same, TupsAt.nil⟩ (fun i H hP => SqL.of (hP.1 _ _ hq)) (fun i x H hx hP => ?_) (fun H hP => ?_)
  · obtain ⟨s, ys, hD, ht⟩ := hP
    obtain ⟨p, hp, rfl⟩ : ∃ p, ps[i]? = some p ∧ x = natV p := by
      rw [List.getElem?_map] at hx
      cases e : ps[i]? with
      | none => rw [e] at hx; cases hx
      | some p => rw [e] at hx; exact ⟨p, rfl, (Option.some.inj hx).symm⟩
    refine ⟨rfl, ?_⟩
    refine ⟨_, rfl, (by show 2 ≤ sizeLine; exact smallE (by omega)), fun a na => ?_⟩
    have hD' := (same_new (o := .tup [natV p, .int c]) na) _ _ hD
    refine ⟨ys, hD', small (by rw [ht.1, List.length_map]; exact Nat.le_trans (List.length_take_le' _ _) (by omega)), same_put (s.trans (same_new na)) nD, _, upd_same, ?_⟩
    rw [take_more hp, List.map_append]
    exact ((ht.same (same_new na)).snoc (p := a) (.inl (.inl upd_same))).keep (p := (· = D)) (Kp.upd rfl) (nt_lst hD')
  · obtain ⟨s, ys, hD, ht⟩ := hP
    rw [List.length_map, List.take_length] at ht
    exact hd H ys s hD ht
section
variable {P : Program} {w : World} {K : PySem.W.Frag} {mg : Str → Option Value} {base : Heap} {A : Adr}
def sp_read_rules (K : PySem.W.Frag) (A : Adr) : Sp := fun vs H Q E => ∃ t bs, vs = [.ref t] ∧ SqL K H t (bV bs) ∧ bs.length ≤ 30000 ∧
  (∀ r, Tafl.judge bs = .ok r → ∀ ra f pe pw H', RuAt A H' ra f pe pw → TfP.RuR f pe pw r → Same H H' → Q (.ref ra) H') ∧ (∀ k p, Tafl.judge bs = .error (k, p) → EF A (fun _ => False) H E k p)
theorem ok_read_rules (T : Txt K mg A) : FnOk P w K mg base (L2N.CX P w) 8 A.f_read_rules A.d_read_rules ["text"] (sp_read_rules K A) := by
  refine okG T.F_read_rules sc_read_rules (fun vs H Q E h => ?_) (fun cdv B outer s H vs Q E hr h => ?_)
  · obtain ⟨t, bs, rfl, _⟩ := h
    rfl
  · obtain ⟨t, bs, rfl, ht, few, qT, qF⟩ := h
    have R := T.rd_Bytes
    refine ⟨_, (pss_cons (ps_set (i := 1) sc_read_rules.nd rfl (by first | exact .inl rfl | exact .inr rfl) (pe_make0 T.mk_Rules (ok_Rules___init__ T) (hr.mono (by decide)) rfl T.g_Rules T.b_Rules___init__ .nil pass0))
  (pss_cons (ps_set (i := 2) sc_read_rules.nd rfl (by first | exact .inl rfl | exact .inr rfl) (pe_make T.mk_Bytes (ok_Bytes___init__ T) (hr.mono (by decide)) rfl T.g_Bytes T.b_Bytes___init__ .nil pass0 (pa_cons (pv 0) pa_nil)))
  (pss_cons (ps_expr (pe_call (ok_head_read T) (hr.mono (by decide)) rfl T.g_head_read T.F_head_read.kp T.b_head_read .nil (pxN (L2N.takes_of rfl rfl rfl rfl)) (pa_cons (pv 2) (pa_cons (pv 1) pa_nil))))
  (pss_cons (ps_expr (pe_call (ok_king_read T) (hr.mono (by decide)) rfl T.g_king_read T.F_king_read.kp T.b_king_read .nil (pxN (L2N.takes_of rfl rfl rfl rfl)) (pa_cons (pv 2) (pa_cons (pv 1) pa_nil))))
  (pss_cons (ps_expr (pe_call (ok_rest_read T) (hr.mono (by decide)) rfl T.g_rest_read T.F_rest_read.kp T.b_rest_read .nil (pxN (L2N.takes_of rfl rfl rfl rfl)) (pa_cons (pv 2) (pa_cons (pv 1) pa_nil))))
  (pss_cons (ps_expr (pe_meth0 (pv 1) T.cl_Rules T.m_Rules_settle (ok_Rules_settle T) (hr.mono (by decide)) T.b_Rules_settle .nil pass0))
  (pss_cons (ps_setLc (i := 3) (own := [("place", 4)]) rfl sc_read_rules.nd rfl rfl (sw_true rfl rfl rfl (by decide +kernel)) (pi_list (pe_call (ok_second_seats T) (hr.mono (by decide)) rfl T.g_second_seats T.F_second_seats.kp T.b_second_seats .nil pass0 (pa_cons (pv 1) pa_nil))) (blkOk_by (N := ["text", "rules", "reader", "faults", "place", "kind"]) (sc := defScope s_read_rules) (own := [("place", 4)]) (by decide +kernel)) (fun _ _ _ _ _ => (pg_name (i := 4) sc_read_rules.nd rfl (by first | exact .inl rfl | exact .inr rfl))) (fun _ _ _ _ _ => pts_nil) (fun _ _ _ _ _ => (pe_tup (pa_cons (pv 4) (pa_cons (pe_gi T.g_SECOND_SEAT) pa_nil)))))
  (pss_cons (ps_set (i := 3) sc_read_rules.nd rfl (by first | exact .inl rfl | exact .inr rfl) (pe_op op_cat (pv 3) (pe_lc (own := [("place", 4)]) rfl sc_read_rules.nd (pi_list (pe_call (ok_wrong_pieces T) (hr.mono (by decide)) rfl T.g_wrong_pieces T.F_wrong_pieces.kp T.b_wrong_pieces .nil pass0 (pa_cons (pv 1) pa_nil))) (blkOk_by (N := ["text", "rules", "reader", "faults", "place", "kind"]) (sc := defScope s_read_rules) (own := [("place", 4)]) (by decide +kernel)) (fun _ _ _ _ _ => (pg_name (i := 4) sc_read_rules.nd rfl (by first | exact .inl rfl | exact .inr rfl))) (fun _ _ _ _ _ => pts_nil) (fun _ _ _ _ _ => (pe_tup (pa_cons (pv 4) (pa_cons (pe_gi T.g_WRONG_PIECE_rules) pa_nil)))))))
  (pss_cons (ps_set (i := 3) sc_read_rules.nd rfl (by first | exact .inl rfl | exact .inr rfl) (pe_op op_cat (pv 3) (pe_lc (own := [("place", 4)]) rfl sc_read_rules.nd (pi_list (pe_call (ok_second_of T) (hr.mono (by decide)) rfl T.g_second_of T.F_second_of.kp T.b_second_of .nil pass0 (pa_cons (pe_fld (pv 1) rfl) (pa_cons pe_str pa_nil)))) (blkOk_by (N := ["text", "rules", "reader", "faults", "place", "kind"]) (sc := defScope s_read_rules) (own := [("place", 4)]) (by decide +kernel)) (fun _ _ _ _ _ => (pg_name (i := 4) sc_read_rules.nd rfl (by first | exact .inl rfl | exact .inr rfl))) (fun _ _ _ _ _ => pts_nil) (fun _ _ _ _ _ => (pe_tup (pa_cons (pv 4) (pa_cons (pe_gi T.g_SECOND_KING) pa_nil)))))))
  (pss_cons (ps_set (i := 3) sc_read_rules.nd rfl (by first | exact .inl rfl | exact .inr rfl) (pe_op op_cat (pv 3) (pe_op op_rep (pe_lst (pa_cons (pe_tup (pa_cons (pe_fld (pv 1) rfl) (pa_cons (pe_gi T.g_NO_GOAL) pa_nil))) pa_nil)) (pe_callTy call_int1 (by rfl) T.n_int (by decide +kernel) (pa_cons (pe_call (ok_is_goal_wrong T) (hr.mono (by decide)) rfl T.g_is_goal_wrong T.F_is_goal_wrong.kp T.b_is_goal_wrong .nil pass0 (pa_cons (pv 1) pa_nil)) pa_nil)))))
  (pss_cons (ps_set (i := 3) sc_read_rules.nd rfl (by first | exact .inl rfl | exact .inr rfl) (pe_op op_cat (pv 3) (pe_op op_rep (pe_lst (pa_cons (pe_tup (pa_cons (pe_callB call_len (by rfl) T.n_len PySem.boot_len (pa_cons (pv 0) pa_nil)) (pa_cons (pe_gi T.g_NOT_THERE) pa_nil))) pa_nil)) (pe_callTy call_int1 (by rfl) T.n_int (by decide +kernel) (pa_cons (pe_call (ok_lacks T) (hr.mono (by decide)) rfl T.g_lacks T.F_lacks.kp T.b_lacks .nil pass0 (pa_cons (pv 1) pa_nil)) pa_nil)))))
  (pss_cons (ps_if (pt_cmpR (op_neNil hr.units0) (pv 3) (pe_lst pa_nil) (nomark _)) (pss_cons (ps_asg (pe_callB (cr_minP rfl hr.units) (by rfl) T.n_min (by decide +kernel) (pa_cons (pv 3) pa_nil)) (pg_tup rfl (pgs_cons (pg_name (i := 4) sc_read_rules.nd rfl (by first | exact .inl rfl | exact .inr rfl)) (pgs_cons (pg_name (i := 5) sc_read_rules.nd rfl (by first | exact .inl rfl | exact .inr rfl)) pgs_nil))))
  (pss_one (L2N.ps_raise rfl (L2N.takes_of rfl rfl rfl rfl) (pmkN T.ox_Fault T.i_Fault T.ti_Fault (ok_Fault___init__ T) (hr.mono (by decide)) T.b_Fault___init__ passF (by rfl) T.g_Fault (pa_cons (pv 5) (pa_cons (pv 4) pa_nil)))))) pss_nil)
  (pss_one (ps_ret (pv 1))))))))))))))), ?_⟩
    -- rules = Rules(); reader = Bytes(text)
    refine fun ra dr nra ndr nrd => ⟨ra, dr, rfl, upd_same, fun ex wl gr st H1 o1 x1 w1 g1 t1 nxw k1 nex nwl => ⟨rfl, ?_⟩⟩
    have S1 : Same H H1 := Kp.noneSame (p := (· = ra)) (((Kp.new ndr).trans (Kp.new (by rw [upd_ne (Ne.symm nrd)]; exact nra))).trans k1) fun b hb => by rw [hb]; exact nra
    have nex : H ex = none := by
      have := (Kp.new (p := (· = ra)) (o := .own ra) ndr).dom ex ((Kp.upd (p := (· = ra)) rfl).dom ex nex)
      exact this
    have nwl : H wl = none := by
      have := (Kp.new (p := (· = ra)) (o := .own ra) ndr).dom wl ((Kp.upd (p := (· = ra)) rfl).dom wl nwl)
      exact this
    refine ⟨_, rfl, fun a da na nda nad => ⟨a, A.c_Bytes, da, t, rfl, upd_same, R, rfl, ?_⟩⟩
    rw [upd_upd]
    have S2 : Same H1 (upd (upd H1 da (.own a)) a (.ins A.c_Bytes da (rdF t 0 []))) := (same_new nda).trans (same_new (by rw [upd_ne (Ne.symm nad)]; exact na))
    have ho2 : (upd (upd H1 da (.own a)) a (.ins A.c_Bytes da (rdF t 0 []))) a = some (.ins A.c_Bytes da (rdF t 0 [])) := upd_same
    generalize upd (upd H1 da (.own a)) a (.ins A.c_Bytes da (rdF t 0 [])) = H2 at S2 ho2
    have Z2 : RdAt K A H2 a ⟨A.c_Bytes, t, bs, []⟩ 0 := ⟨⟨da, ho2⟩, R, S2.seq (S1.seq ht), .inl rfl, few, Nat.zero_le _⟩
    have o2 := S2 _ _ o1
    have nra' : ra ≠ a := ne_of_none o1 na
    have na0 : H a = none := S1.free na
    have hq : ∀ b, (b = a ∨ b = ra) → H b = none := fun b hb => by rcases hb with rfl | rfl <;> assumption
    have S12 := S1.trans S2
    refine ⟨_, rfl, _, rfl, a, _, ra, dr, _, rfl, Z2, o2, nra', fun G n3 H3 gl xs sl ys eG ec w5 w13 h5 h13 gL gpL gW sL spL sW k3 Z3 o3 hgl tgl fgl hsl tsl fsl => ?_, fun p e => (qF 1 p (TfP.judge_err ((TfP.grammar_eq bs).trans (e _ _)))).new S12 hq⟩
    have S13 : Same H H3 := (show Kp (fun b => b = a ∨ b = ra) H H3 from (Kp.of S12).trans k3).noneSame hq
    refine ⟨_, rfl, _, rfl, a, _, n3, ra, dr, _, rfl, Z3, o3, nra', fun b n4 H4 eK ec4 k4 Z4 o4 => ?_, fun p e => (qF 1 p (TfP.judge_err ((TfP.grammar_eq bs).trans ((eG _ _).trans (by rw [ec]; exact e _ _))))).new S13 hq⟩
    have S14 : Same H H4 := (show Kp (fun b => b = a ∨ b = ra) H H4 from (Kp.of S13).trans k4).noneSame hq
    refine ⟨_, rfl, _, rfl, a, _, n4, ra, dr, _, rfl, Z4, o4, nra', fun r7 n5 H5 eR k5 Z5 o5 => ?_, fun p e => (qF 1 p (TfP.judge_err ((TfP.grammar_eq bs).trans ((eG _ _).trans (by rw [ec]; refine (eK _ _).trans ?_; rw [ec4]; exact e _ _))))).new S14 hq⟩
    have S15 : Same H H5 := (show Kp (fun b => b = a ∨ b = ra) H H5 from (Kp.of S14).trans k5).noneSame hq
    have hgram : Tafl.grammar bs = .ok (TfP.rulesOf G b r7) := (TfP.grammar_eq bs).trans ((eG _ _).trans (by rw [ec]; refine (eK _ _).trans ?_; rw [ec4]; exact eR _ _))
    have W : TfP.RulesWf (TfP.rulesOf G b r7) := ⟨w5, w13, h5, h13, gL, gW, sL, sW, TfP.gH_inv (eG _ _), TfP.gR_inv (eR _ _)⟩
    have k35 : Kp (fun b => b = a ∨ b = ra) H3 H5 := k4.trans k5
    obtain ⟨dz3, ho3⟩ := Z3.obj
    have notar : ∀ {b : Addr} {o : HO}, H3 b = some o → (∀ C d fs, o ≠ .ins C d fs) → ¬ (b = a ∨ b = ra) := fun e hn z => by
      rcases z with rfl | rfl
      · rw [ho3] at e; cases e; exact hn _ _ _ rfl
      · rw [o3] at e; cases e; exact hn _ _ _ rfl
    have nt3 : NoTup (fun b => b = a ∨ b = ra) H3 := fun b o hb e => by
      rcases hb with rfl | rfl
      · rw [ho3] at e; cases e; rfl
      · rw [o3] at e; cases e; rfl
    have x3 : H3 ex = some (.dK []) := k3.keep _ _ (S2 _ _ x1) fun z => by
      rcases z with rfl | rfl
      · have := S2 _ _ x1; rw [ho2] at this; cases this
      · rw [o1] at x1; cases x1
    have w3 : H3 wl = some (.dK []) := k3.keep _ _ (S2 _ _ w1) fun z => by
      rcases z with rfl | rfl
      · have := S2 _ _ w1; rw [ho2] at this; cases this
      · rw [o1] at w1; cases w1
    have x5 := k35.keep _ _ x3 (notar x3 fun _ _ _ z => by cases z)
    have w5' := k35.keep _ _ w3 (notar w3 fun _ _ _ z => by cases z)
    have hgl5 := k35.keep _ _ hgl (notar hgl fun _ _ _ z => by cases z)
    have hsl5 := k35.keep _ _ hsl (notar hsl fun _ _ _ z => by cases z)
    have tgl5 := tgl.keep k35 nt3
    have tsl5 := tsl.keep k35 nt3
    have egs : TfP.flatR kindB G.high 0 G.g G.gp = TfP.gsOf (TfP.rulesOf G b r7) := TfP.gs_flat W
    have ess : TfP.flatR Tafl.pieceByte G.high 0 G.s G.sp = TfP.ssOf (TfP.rulesOf G b r7) := TfP.ss_flat W
    rw [egs] at tgl5
    rw [ess] at tsl5
    have o5 : H5 ra = some (.ins A.c_Rules dr (ruF (rfOf (TfP.rulesOf G b r7) ex wl gl sl (-1)))) := o5
    obtain ⟨r, hr7⟩ : ∃ r, TfP.rulesOf G b r7 = r := ⟨_, rfl⟩
    rw [hr7] at hgram W o5 tgl5 tsl5
    have fgs : (TfP.gsOf r).length ≤ 169 := by rw [← tgl5.1]; exact fgl
    have fss : (TfP.ssOf r).length ≤ 169 := by rw [← tsl5.1]; exact fsl
    refine ⟨_, rfl, ra, dr, _, rfl, o5, ru_m_settle _, ra, _, TfP.gsOf r, xs, dr, rfl, o5, hgl5, tgl5, rfl, x5, w5', nxw, fgs, fun H6 o6 d6 v6 k6 => ?_⟩
    have o6 : H6 ra = some (.ins A.c_Rules dr (ruF (rfOf r ex wl gl sl (seatOf (TfP.gsOf r))))) := o6
    have d6 : DkAt H6 ex 169 (inRows 88 (TfP.gsOf r)) := d6
    have v6 : DkAt H6 wl 169 (inRows 35 (TfP.gsOf r)) := v6
    have k6 : Kp (fun b => b = ra ∨ b = ex ∨ b = wl) H5 H6 := k6
    have hq6 : ∀ b, (b = ra ∨ b = ex ∨ b = wl) → H b = none := fun b hb => by rcases hb with rfl | rfl | rfl <;> assumption
    have S16 : Same H H6 := (show Kp (fun b => b = ra ∨ b = ex ∨ b = wl) H H6 from (Kp.of S15).trans k6).noneSame hq6
    have not6 : ∀ {b : Addr} {ys : List V}, H5 b = some (.lst ys) → ¬ (b = ra ∨ b = ex ∨ b = wl) := fun e z => by
      rcases z with rfl | rfl | rfl
      · rw [o5] at e; cases e
      · rw [x5] at e; cases e
      · rw [w5'] at e; cases e
    have nt6 : NoTup (fun b => b = ra ∨ b = ex ∨ b = wl) H5 := fun b o hb e => by
      rcases hb with rfl | rfl | rfl
      · rw [o5] at e; cases e; rfl
      · rw [x5] at e; cases e; rfl
      · rw [w5'] at e; cases e; rfl
    have hgl6 := k6.keep _ _ hgl5 (not6 hgl5)
    have hsl6 := k6.keep _ _ hsl5 (not6 hsl5)
    have tgl6 := tgl5.keep k6 nt6
    have tsl6 := tsl5.keep k6 nt6
    have Z6 : RuAt A H6 ra (rfOf r ex wl gl sl (seatOf (TfP.gsOf r))) (inRows 88 (TfP.gsOf r)) (inRows 35 (TfP.gsOf r)) := ⟨⟨dr, o6⟩, d6.mono (by decide), v6.mono (by decide)⟩
    obtain ⟨f, hf⟩ : ∃ f, rfOf r ex wl gl sl (seatOf (TfP.gsOf r)) = f := ⟨_, rfl⟩
    have hsl6 : H6 f.st = some (.lst ys) := by rw [← hf]; exact hsl6
    have hgl6 : H6 f.gr = some (.lst xs) := by rw [← hf]; exact hgl6
    rw [hf] at Z6 o6
    clear o5 x5 w5' hgl5 hsl5 tgl5 tsl5 x3 w3 notar nt3 k35 S15 S14 S13 k6 k5 k4 k3 o4 o3 o2 Z4 Z3 Z2 hgl hsl tgl tsl
    -- the seats
    refine ⟨_, rfl, ra, f, dr, xs, TfP.gsOf r, rfl, o6, hgl6, tgl6, fgs, fun H7 q7 s7 nq7 e7 => ⟨q7, rfl, ⟨_, SqL.of e7⟩, fun D7 nD7 => lcFault e7 nD7 (by rw [List.length_take]; omega) fun H8 y8 s8 hD8 t8 => ?_⟩⟩
    have s68 := s7.trans s8
    -- wrong pieces
    refine ⟨_, rfl, _, rfl, ra, f, _, _, ys, TfP.ssOf r, rfl, Z6.same s68, s68 _ _ hsl6, tsl6.same s68, fss, fun H9 q9 s9 nq9 e9 => ⟨q9, rfl, ⟨_, SqL.of e9⟩, fun D9 nD9 => lcFault e9 nD9 (by rw [List.length_map]; exact Nat.le_trans (List.length_filter_le _ _) (by omega)) fun H10 y10 s10 hD10 t10 => ?_⟩⟩
    have s6a := s68.trans (s9.trans s10)
    have hD8' := s10 _ _ (s9 _ _ hD8)
    have t8' := (t8.same s9).same s10
    refine ⟨D7, D9, y8, y10, rfl, rfl, hD8', hD10, smallE (by have h1 := t8.1; have h2 := t10.1; rw [List.length_map, List.length_take] at h1; rw [List.length_map, List.length_map] at h2; have := List.length_filter_le (wrongB f (inRows 88 (TfP.gsOf r)) (inRows 35 (TfP.gsOf r))) (TfP.ssOf r); omega), fun p11 n11 => ?_⟩
    have t11 := (t8'.append t10).same (same_new (o := .lst (y8 ++ y10)) n11)
    have l11 : (y8 ++ y10).length ≤ 400 := by have h1 := t8.1; have h2 := t10.1; rw [List.length_map, List.length_take] at h1; rw [List.length_map, List.length_map] at h2; have := List.length_filter_le (wrongB f (inRows 88 (TfP.gsOf r)) (inRows 35 (TfP.gsOf r))) (TfP.ssOf r); rw [List.length_append]; omega
    have s6b := s6a.trans (same_new (o := .lst (y8 ++ y10)) n11)
    -- second kings
    have o11 := s6b _ _ o6
    have eK : V.str (Str.ofString "K") = .str ⟨#[(75 : UInt8).toNat]⟩ := by decide +kernel
    refine ⟨_, rfl, _, rfl, ra, A.c_Rules, dr, _, _, rfl, o11, T.cl_Rules, T.n_Rules_start, ru_start _, f.st, ys, TfP.ssOf r, 75, congrArg (fun z => [V.ref f.st, z]) eK, s6b _ _ hsl6, tsl6.same s6b, fss, fun H12 q12 s12 nq12 e12 => ⟨q12, rfl, ⟨_, SqL.of e12⟩, fun D12 nD12 => lcFault e12 nD12 (by rw [List.length_take]; omega) fun H13 y13 s13 hD13 t13 => ?_⟩⟩
    have s6c := s6b.trans (s12.trans s13)
    have h11 : H13 p11 = some (.lst (y8 ++ y10)) := s13 _ _ (s12 _ _ upd_same)
    have l13 : y13.length ≤ 1 := by have h1 := t13.1; rw [List.length_map, List.length_take] at h1; omega
    refine ⟨p11, D12, _, y13, rfl, rfl, h11, hD13, smallE (by omega), fun p14 n14 => ?_⟩
    have t14 := (((t11.same s12).same s13).append t13).same (same_new (o := .lst (y8 ++ y10 ++ y13)) n14)
    have s6d := s6c.trans (same_new (o := .lst (y8 ++ y10 ++ y13)) n14)
    have h14 : (upd H13 p14 (.lst (y8 ++ y10 ++ y13))) p14 = some (.lst (y8 ++ y10 ++ y13)) := upd_same
    have l14 : (y8 ++ y10 ++ y13).length ≤ 401 := by rw [List.length_append]; omega
    generalize upd H13 p14 (.lst (y8 ++ y10 ++ y13)) = H14 at t14 s6d h14
    generalize y8 ++ y10 ++ y13 = z14 at t14 h14 l14
    -- the goal
    have o14 := s6d _ _ o6
    refine ⟨_, rfl, _, rfl, ra, A.c_Rules, dr, _, _, rfl, o14, T.cl_Rules, T.n_Rules_goal_place, ru_goal_place _, (by show 2 ≤ sizeLine; exact smallE (by decide)), fun p15 n15 => ⟨(by show 1 ≤ sizeLine; exact smallE (by decide)), fun p16 n16 => ?_⟩⟩
    have n14' : p16 ≠ p15 := fun z => by rw [z, upd_same] at n16; cases n16
    have s1416 : Same H14 (upd (upd H14 p15 (.tup [.int ((f.goalP : Nat) : Int), .int 5])) p16 (.lst [.ref p15])) := (same_new n15).trans (same_new n16)
    have h15 : (upd (upd H14 p15 (.tup [.int ((f.goalP : Nat) : Int), .int 5])) p16 (.lst [.ref p15])) p15 = some (.tup [.int ((f.goalP : Nat) : Int), .int 5]) := (upd_ne (Ne.symm n14')).trans upd_same
    have h16 : (upd (upd H14 p15 (.tup [.int ((f.goalP : Nat) : Int), .int 5])) p16 (.lst [.ref p15])) p16 = some (.lst [.ref p15]) := upd_same
    generalize upd (upd H14 p15 (.tup [.int ((f.goalP : Nat) : Int), .int 5])) p16 (.lst [.ref p15]) = H16 at s1416 h15 h16
    have s6e := s6d.trans s1416
    have fw : f.wide = r.wide := by rw [← hf]; rfl
    have fh : f.high = r.high := by rw [← hf]; rfl
    have fx : f.goalX = (r.goal == 1) := by rw [← hf]; rfl
    have W5 := W.w5
    have H5' := W.h5
    refine ⟨_, rfl, ra, f, _, _, ys, TfP.ssOf r, rfl, Z6.same s6e, by omega, by omega, s6e _ _ hsl6, tsl6.same s6e, fss, fun gw H17 hgw s17 => .inr ⟨gw, rfl, p16, _, [.ref p15], rfl, rfl, s17 _ _ h16, by cases gw <;> decide, by cases gw <;> decide, smallE (by cases gw <;> (show 1 * _ ≤ _; decide)), fun p18 n18 => ?_⟩⟩
    have h14' : (upd H17 p18 (.lst (List.replicate (if gw = true then (1 : Int) else 0).toNat [V.ref p15]).flatten)) p14 = some (.lst z14) := same_new n18 _ _ (s17 _ _ (s1416 _ _ h14))
    refine ⟨p14, p18, z14, _, rfl, rfl, h14', upd_same, smallE (by cases gw <;> (simp <;> omega)), fun p19 n19 => ?_⟩
    have e19 : (List.replicate (if gw = true then (1 : Int) else 0).toNat [V.ref p15]).flatten = if gw = true then [V.ref p15] else [] := by cases gw <;> rfl
    rw [e19] at h14' n19 ⊢
    have sg : Same H17 (upd (upd H17 p18 (.lst (if gw = true then [V.ref p15] else []))) p19 (.lst (z14 ++ if gw = true then [V.ref p15] else []))) := (same_new n18).trans (same_new n19)
    have h19 : (upd (upd H17 p18 (.lst (if gw = true then [V.ref p15] else []))) p19 (.lst (z14 ++ if gw = true then [V.ref p15] else []))) p19 = some (.lst (z14 ++ if gw = true then [V.ref p15] else [])) := upd_same
    generalize upd (upd H17 p18 (.lst (if gw = true then [V.ref p15] else []))) p19 (.lst (z14 ++ if gw = true then [V.ref p15] else [])) = H19 at sg h19
    have s1419 := s1416.trans (s17.trans sg)
    have s6f := s6e.trans (s17.trans sg)
    have tg : TupsAt K prV H19 (if gw = true then [V.ref p15] else []) (if gw = true then [(((f.goalP : Nat) : Int), (5 : Int))] else []) := by
      cases gw with
      | false => exact TupsAt.nil
      | true => exact TupsAt.snoc (xs := []) (rs := []) TupsAt.nil (.inl (.inl (sg _ _ (s17 _ _ h15))))
    have t19 := (t14.same s1419).append tg
    have l19 : (z14 ++ if gw = true then [V.ref p15] else []).length ≤ 402 := by cases gw <;> (simp <;> omega)
    generalize (z14 ++ if gw = true then [V.ref p15] else []) = z19 at h19 t19 l19
    -- what is lacking
    refine ⟨_, rfl, _, rfl, .ref t, _, rfl, .inl ⟨bV bs, s6f.seq (S16.seq ht), rfl⟩, (by show 2 ≤ sizeLine; exact smallE (by decide)), fun p20 n20 => ⟨(by show 1 ≤ sizeLine; exact smallE (by decide)), fun p21 n21 => ?_⟩⟩
    have n21' : p21 ≠ p20 := fun z => by rw [z, upd_same] at n21; cases n21
    rw [bV_len] at n21 ⊢
    have s1921 : Same H19 (upd (upd H19 p20 (.tup [.int ((bs.length : Nat) : Int), .int 6])) p21 (.lst [.ref p20])) := (same_new n20).trans (same_new n21)
    have h20 : (upd (upd H19 p20 (.tup [.int ((bs.length : Nat) : Int), .int 6])) p21 (.lst [.ref p20])) p20 = some (.tup [.int ((bs.length : Nat) : Int), .int 6]) := (upd_ne (Ne.symm n21')).trans upd_same
    have h21 : (upd (upd H19 p20 (.tup [.int ((bs.length : Nat) : Int), .int 6])) p21 (.lst [.ref p20])) p21 = some (.lst [.ref p20]) := upd_same
    generalize upd (upd H19 p20 (.tup [.int ((bs.length : Nat) : Int), .int 6])) p21 (.lst [.ref p20]) = H21 at s1921 h20 h21
    have s6g := s6f.trans s1921
    refine ⟨_, rfl, ra, f, dr, ys, TfP.ssOf r, rfl, s6g _ _ o6, s6g _ _ hsl6, tsl6.same s6g, fss, fun H22 s22 => ?_⟩
    have fs : f.seat = seatOf (TfP.gsOf r) := by rw [← hf]; rfl
    have fp : f.passed = r.passed := by rw [← hf]; rfl
    have fe : f.se = r.seat := by rw [← hf]; rfl
    rw [fs, fp, fe]
    obtain ⟨lk, hlk⟩ : ∃ lk : Bool, (!((TfP.ssOf r).any fun g => g.1 == 75) || !((TfP.ssOf r).any fun g => g.1 == 104) || (decide (seatOf (TfP.gsOf r) < 0) && !(r.passed && (r.seat == 0)))) = lk := ⟨_, rfl⟩
    rw [hlk]
    refine .inr ⟨lk, rfl, p21, _, [.ref p20], rfl, rfl, s22 _ _ h21, by cases lk <;> decide, by cases lk <;> decide, smallE (by cases lk <;> (show 1 * _ ≤ _; decide)), fun p23 n23 => ?_⟩
    have h19' : (upd H22 p23 (.lst (List.replicate (if lk = true then (1 : Int) else 0).toNat [V.ref p20]).flatten)) p19 = some (.lst z19) := same_new n23 _ _ (s22 _ _ (s1921 _ _ h19))
    refine ⟨p19, p23, z19, _, rfl, rfl, h19', upd_same, smallE (by cases lk <;> (simp <;> omega)), fun p24 n24 => ?_⟩
    have e24 : (List.replicate (if lk = true then (1 : Int) else 0).toNat [V.ref p20]).flatten = if lk = true then [V.ref p20] else [] := by cases lk <;> rfl
    rw [e24] at h19' n24 ⊢
    have sg2 : Same H22 (upd (upd H22 p23 (.lst (if lk = true then [V.ref p20] else []))) p24 (.lst (z19 ++ if lk = true then [V.ref p20] else []))) := (same_new n23).trans (same_new n24)
    have h24 : (upd (upd H22 p23 (.lst (if lk = true then [V.ref p20] else []))) p24 (.lst (z19 ++ if lk = true then [V.ref p20] else []))) p24 = some (.lst (z19 ++ if lk = true then [V.ref p20] else [])) := upd_same
    generalize upd (upd H22 p23 (.lst (if lk = true then [V.ref p20] else []))) p24 (.lst (z19 ++ if lk = true then [V.ref p20] else [])) = H24 at sg2 h24
    have s6h := s6g.trans (s22.trans sg2)
    have tl : TupsAt K prV H24 (if lk = true then [V.ref p20] else []) (if lk = true then [(((bs.length : Nat) : Int), (6 : Int))] else []) := by
      cases lk with
      | false => exact TupsAt.nil
      | true => exact TupsAt.snoc (xs := []) (rs := []) TupsAt.nil (.inl (.inl (sg2 _ _ (s22 _ _ h20))))
    have t24 := (t19.same (s1921.trans (s22.trans sg2))).append tl
    generalize (z19 ++ if lk = true then [V.ref p20] else []) = z24 at h24 t24
    -- what the list tells
    have S : TfP.Seen r f gw lk := ⟨fs, by rw [hgw, fx, fw, fh], hlk.symm⟩
    have fg : f.goalP = r.goalAt := by rw [← hf]; rfl
    obtain ⟨ns, hns⟩ : ∃ ns : List Pr, (TfP.progFaults bs.length r (TfP.wrongR r f) gw lk).map (fun x => (((x.2 : Nat) : Int), ((x.1 : Nat) : Int))) = ns := ⟨_, rfl⟩
    have t24 : TupsAt K prV H24 z24 ns := by
      rw [← hns]
      refine cast (congrArg (TupsAt K prV H24 z24) ?_) t24
      unfold TfP.progFaults TfP.wrongR
      rw [fg]
      simp only [List.map_append, List.map_map, List.append_assoc]
      cases gw <;> cases lk <;> rfl
    refine ⟨_, rfl, (by show 0 ≤ sizeLine; exact Nat.zero_le _), fun p25 n25 => ⟨_, _, z24, rfl, rfl, SqL.of (same_new n25 _ _ h24), SqL.of upd_same, _, rfl, ?_⟩⟩
    have s25 := same_new (o := .lst []) n25
    have h25 := s25 _ _ h24
    have t25 := t24.same s25
    have s6i := s6h.trans s25
    have SS := S16.trans s6i
    cases hz : z24 with
    | nil =>
      refine if_f rfl ⟨_, rfl, ?_⟩
      have hn : TfP.progFaults bs.length r (TfP.wrongR r f) gw lk = [] := by
        have := t24.1
        rw [hz] at this
        have e0 : ns = [] := List.length_eq_zero_iff.mp this.symm
        rw [e0] at hns
        exact List.map_eq_nil_iff.mp hns
      exact qT r (TfP.judge_ok W S hgram hn) ra f _ _ _ (Z6.same s6i) (TfP.ruR W (TfP.no_second hn) fs fw fh (by rw [← hf]; rfl) (by rw [← hf]; rfl) (by rw [← hf]; rfl) (by rw [← hf]; rfl) fp fe (by rw [← hf]; rfl) fx) SS
    | cons x0 r0 =>
      refine if_t rfl ?_
      obtain ⟨ps, eps, hps⟩ := t25.refs
      refine ⟨_, rfl, p24, ps, ns, rfl, by rw [← eps]; exact SqL.of h25, hps, by rw [← t24.1, hz]; exact Nat.succ_pos _, fun pm n hn hp hmin => ?_⟩
      rw [← hns] at hn hmin
      obtain ⟨m, hm, rfl⟩ := List.mem_map.mp hn
      refine ⟨pm, _, rfl, hp, rfl, _, _, rfl, _, _, rfl, rfl, ?_⟩
      refine ⟨_, rfl, _, rfl, ?_⟩
      refine fault_up ((qF m.1 m.2 (TfP.judge_bad W S hgram hm fun x hx => ?_)).new (q := fun _ => False) SS (fun _ z => z.elim)).fault
      have hm2 := hmin _ (List.mem_map.mpr ⟨x, hx, rfl⟩)
      have hm3 : ¬ prLt (((x.2 : Nat) : Int), ((x.1 : Nat) : Int)) (((m.2 : Nat) : Int), ((m.1 : Nat) : Int)) = true := by rw [hm2]; exact Bool.false_ne_true
      rw [prLt_iff] at hm3
      rw [TfP.sooner_iff]
      have hm4 : ¬ (((x.2 : Nat) : Int) < ((m.2 : Nat) : Int) ∨ (((x.2 : Nat) : Int) = ((m.2 : Nat) : Int) ∧ ((x.1 : Nat) : Int) < ((m.1 : Nat) : Int))) := hm3
      omega
end
end Tf

set_option maxRecDepth 100000
set_option maxHeartbeats 1000000
/-! # The reader of a position's line -/
namespace TfP
open Tafl Tf
theorem run_no {left n : Nat} {bs : Bytes} (h : ∀ x, bs[n]? = some x → ¬ (49 ≤ x.toNat ∧ x.toNat ≤ 57 ∧ x.toNat - 48 ≤ left)) : runIn left (cur bs n) = .error n := by
  unfold runIn
  cases e : bs[n]? with
  | none => rw [show (cur bs n).next = none from (cur_next _ _).trans e]; rfl
  | some x =>
    rw [show (cur bs n).next = some x from (cur_next _ _).trans e]
    have hx := h x e
    show (if isDigit x = true ∧ 1 ≤ x.toNat - 48 ∧ x.toNat - 48 ≤ left then _ else _) = _
    rw [if_neg]
    · rfl
    · rintro ⟨h1, h2, h3⟩
      have := (isDigit_iff x).mp h1
      omega
theorem run_ok {left n : Nat} {bs : Bytes} {x : UInt8} (h : bs[n]? = some x) (hx : 49 ≤ x.toNat ∧ x.toNat ≤ 57 ∧ x.toNat - 48 ≤ left) : runIn left (cur bs n) = (match bs[n + 1]? with
    | some y => if isDigit y = true ∧ x.toNat - 48 = 1 ∧ 10 + (y.toNat - 48) ≤ left then .ok (10 + (y.toNat - 48), cur bs (n + 2)) else .ok (x.toNat - 48, cur bs (n + 1))
    | none => .ok (x.toNat - 48, cur bs (n + 1))) := by
  unfold runIn
  rw [show (cur bs n).next = some x from (cur_next _ _).trans h]
  show (if isDigit x = true ∧ 1 ≤ x.toNat - 48 ∧ x.toNat - 48 ≤ left then _ else _) = _
  rw [if_pos ⟨(isDigit_iff x).mpr (by omega), by omega, hx.2.2⟩, cur_on, cur_next]
  cases bs[n + 1]? with
  | none => rfl
  | some y => rw [cur_on]
end TfP
namespace Tf
open PySem PySem.Spec PyProof.Rows L2 TfP
def digs (k : Nat) : List Nat := [49, 50, 51, 52, 53, 54, 55, 56, 57].take k
theorem cutS_digs (k : Nat) (h1 : 1 ≤ k) : cutS (Str.ofString "123456789") none (some (k : Int)) = ⟨(digs k).toArray⟩ := by
  have e : Str.ofString "123456789" = strOf [49, 50, 51, 52, 53, 54, 55, 56, 57] := by decide +kernel
  rw [e, cut_take]
  unfold strOf digs
  rw [List.map_take]
  rfl
theorem cutS_0123 (k : Nat) : cutS (Str.ofString "0123") none (some (k : Int)) = ⟨([48, 49, 50, 51].take k).toArray⟩ := by
  have e : Str.ofString "0123" = strOf [48, 49, 50, 51] := by decide +kernel
  rw [e, cut_take]
  unfold strOf
  rw [List.map_take]
  rfl
theorem digs_has {k x : Nat} : (digs k).contains x = true ↔ 49 ≤ x ∧ x ≤ 57 ∧ x - 48 ≤ k := by
  unfold digs
  rw [List.contains_iff_mem]
  match k with
  | 0 => simp; omega
  | 1 => simp; omega
  | 2 => simp; omega
  | 3 => simp; omega
  | 4 => simp; omega
  | 5 => simp; omega
  | 6 => simp; omega
  | 7 => simp; omega
  | 8 => simp; omega
  | k + 9 =>
    rw [List.take_of_length_le (by simp)]
    simp
    omega
theorem d03_has {k x : Nat} : ([48, 49, 50, 51].take k).contains x = true ↔ 48 ≤ x ∧ x ≤ 51 ∧ x - 48 < k := by
  rw [List.contains_iff_mem]
  match k with
  | 0 => simp
  | 1 => simp; omega
  | 2 => simp; omega
  | 3 => simp; omega
  | k + 4 =>
    rw [List.take_of_length_le (by simp)]
    simp
    omega
section
variable {P : Program} {w : World} {K : PySem.W.Frag} {mg : Str → Option Value} {base : Heap} {A : Adr}
def sp_Line_init (K : PySem.W.Frag) (A : Adr) : Sp := fun vs H Q _ => ∃ (p dx t : Addr), vs = [.ref p, .ref t] ∧ H p = some (.ins A.c_LineReader dx []) ∧ ∀ l H', H l = none → H' l = some (.lst []) → H' p = some (.ins A.c_LineReader dx (rdF t 0 [("stood", .ref l)])) → Kp (· = p) H H' → Q .non H'
theorem ok_LineReader___init__ (T : Txt K mg A) : FnOk P w K mg base CX0 2 A.f_LineReader___init__ A.d_LineReader___init__ ["self", "text"] (sp_Line_init K A) := by
  refine T.F_LineReader___init__.ok sc_LineReader___init__ (fun vs H Q E h => ?_) (fun cdv B outer s H vs Q E hr h => ?_)
  · obtain ⟨p, dx, t, rfl, _⟩ := h
    rfl
  · obtain ⟨p, dx, t, rfl, hp, q⟩ := h
    have R := T.rd_LineReader
    refine ⟨_, (pss_cons (ps_expr (pe_clsfn (by rfl) T.g_Bytes T.cr_Bytes T.cv_Bytes___init__ T.F_Bytes___init__.kp (ok_Bytes___init__ T) (hr.mono (by decide)) T.b_Bytes___init__ pass0 (pa_cons (pv 0) (pa_cons (pv 1) pa_nil))))
  (pss_one (ps_fld (pv 0) (pe_lst pa_nil) rfl))), ?_⟩
    refine ⟨_, rfl, _, rfl, p, A.c_LineReader, dx, t, rfl, hp, R, (by decide), fun l nl => ?_⟩
    have o1 : (upd H p (.ins A.c_LineReader dx (rdF t 0 []))) p = some (.ins A.c_LineReader dx (rdF t 0 [])) := upd_same
    have e : putF "stood" (.ref l) (rdF t 0 []) = rdF t 0 [("stood", .ref l)] := by kernel_rfl
    refine ⟨_, rfl, p, A.c_LineReader, dx, _, rfl, (upd_ne (ne_of_none o1 nl)).trans o1, R.cl, T.n_LineReader_stood, (by show 2 < 1000; decide), ?_⟩
    rw [e]
    have np : l ≠ p := Ne.symm (ne_of_none o1 nl)
    rw [upd_ne np] at nl
    exact q l _ nl ((upd_ne np).trans upd_same) upd_same (((Kp.upd (p := (· = p)) rfl).trans (Kp.new (by rw [upd_ne np]; exact nl))).trans (Kp.upd rfl))
def sp_gap (K : PySem.W.Frag) (A : Adr) : Sp := fun vs H Q E => ∃ a S n left, vs = [.ref a, .int ((left : Nat) : Int)] ∧ RdAt K A H a S n ∧ 1 ≤ left ∧ left ≤ 13 ∧
  (∀ v n' H', Tafl.runIn left (cur S.bs n) = .ok (v, cur S.bs n') → 1 ≤ v → v ≤ left → Kp (· = a) H H' → RdAt K A H' a S n' → Q (.int ((v : Nat) : Int)) H') ∧ (∀ p, Tafl.runIn left (cur S.bs n) = .error p → EF A (· = a) H E 1 p)
theorem ok_LineReader_gap (T : Txt K mg A) : FnOk P w K mg base (L2N.CX P w) 5 A.f_LineReader_gap A.d_LineReader_gap ["self", "left"] (sp_gap K A) := by
  refine okG T.F_LineReader_gap sc_LineReader_gap (fun vs H Q E h => ?_) (fun cdv B outer s H vs Q E hr h => ?_)
  · obtain ⟨a, S, n, left, rfl, _⟩ := h
    rfl
  · obtain ⟨a, S, n, left, rfl, Z, l1, l13, qT, qF⟩ := h
    have R := Z.rd
    obtain ⟨dx, ho⟩ := Z.obj
    refine ⟨_, (pss_cons (ps_set (i := 2) sc_LineReader_gap.nd rfl (by first | exact .inl rfl | exact .inr rfl) (pe_slice sl_str pe_str po_none (po_some (pv 1))))
  (pss_cons (ps_set (i := 3) sc_LineReader_gap.nd rfl (by first | exact .inl rfl | exact .inr rfl) (pe_callTy call_int_str (by rfl) T.n_int (by decide +kernel) (pa_cons (pe_meth (pv 0) R.cl R.m_take (ok_Bytes_take T) (hr.mono (by decide)) T.b_Bytes_take .nil (pxN (L2N.takes_of rfl rfl rfl rfl)) (pa_cons (pv 2) pa_nil)) pa_nil)))
  (pss_cons (ps_if (PW.pt (pw_and (pt_cmpR op_eq (pv 3) pe_int (nomark _)) (pw_and1 (pt_val (pe_meth (pv 0) R.cl R.m_is_one_of (ok_Bytes_is_one_of T) (hr.mono (by decide)) T.b_Bytes_is_one_of .nil pass0 (pa_cons (pe_slice sl_str pe_str po_none (po_some (pe_callB (call_max2 rfl) (by rfl) T.n_max (by decide +kernel) (pa_cons pe_int (pa_cons (pe_op op_sub (pv 1) pe_int) pa_nil))))) pa_nil)))))) (pss_one (ps_set (i := 3) sc_LineReader_gap.nd rfl (by first | exact .inl rfl | exact .inr rfl) (pe_op op_add pe_int (pe_callTy call_int_str (by rfl) T.n_int (by decide +kernel) (pa_cons (pe_meth (pv 0) R.cl R.m_take (ok_Bytes_take T) (hr.mono (by decide)) T.b_Bytes_take .nil (pxN (L2N.takes_of rfl rfl rfl rfl)) (pa_cons pe_str pa_nil)) pa_nil))))) pss_nil)
  (pss_one (ps_ret (pv 3)))))), ?_⟩
    refine ⟨_, rfl, _, rfl, _, rfl, (by show 9 ≤ sizeLine; exact smallE (by decide)), ?_⟩
    rw [cutS_digs _ l1]
    refine ⟨_, rfl, a, dx, _, rfl, ho, rdF_none Z.ex, _, rfl, a, S, n, _, digs left, rfl, Z, .inl rfl, (by unfold digs; rw [List.length_take]; exact Nat.le_trans (Nat.min_le_right _ _) (by decide)), fun x H1 hx hc k1 Z1 => ?_, fun hF => ?_⟩
    · have hx' := digs_has.mp hc
      have er := run_ok hx hx'
      refine ⟨_, _, rfl, digit_text _ (by omega) (by omega), (by show 1 ≤ 640; decide), ?_⟩
      refine ⟨_, rfl, rfl, _, rfl, ?_⟩
      by_cases h1 : x.toNat = 49
      · refine if_t (by rw [dec_int, beq_iff_eq]; omega) ?_
        obtain ⟨dx, ho⟩ := Z1.obj
        refine ⟨_, rfl, a, dx, _, rfl, ho, rdF_none Z1.ex, _, rfl, _, _, rfl, rfl, _, _, rfl, _, rfl, _, rfl, (by show 4 ≤ sizeLine; exact smallE (by decide)), ?_⟩
        have em : (if ((left : Int) - 9) > 0 then (left : Int) - 9 else 0) = ((left - 9 : Nat) : Int) := by split <;> omega
        rw [em, cutS_0123]
        refine ⟨a, S, n + 1, _, _, rfl, Z1, .inl rfl, (by rw [List.length_take]; exact Nat.le_trans (Nat.min_le_right _ _) (by decide)), fun H2 s2 => ⟨_, rfl, ?_⟩⟩
        by_cases h2 : oneIn S.bs (n + 1) ([48, 49, 50, 51].take (left - 9)) = true
        · refine if_t h2 ?_
          obtain ⟨y, hy, hyc⟩ := oneIn_yes h2
          have hy' := d03_has.mp hyc
          have e03 : Str.ofString "0123" = ⟨[48, 49, 50, 51].toArray⟩ := by decide +kernel
          rw [e03]
          have ho2 := s2 _ _ ho
          refine ⟨_, rfl, a, dx, _, rfl, ho2, rdF_none Z1.ex, a, S, n + 1, _, [48, 49, 50, 51], rfl, Z1.same s2, .inl rfl, (by decide), fun z H3 hz hzc k3 Z3 => ?_, fun hF => ?_⟩
          · rw [hy] at hz
            cases hz
            refine ⟨_, _, rfl, digit_text _ (by omega) (by omega), (by show 1 ≤ 640; decide), _, _, rfl, rfl, _, rfl, ?_⟩
            rw [hy] at er
            have er' := er.trans (if_pos ⟨(isDigit_iff y).mpr (by omega), by omega, by omega⟩)
            have q := qT _ _ H3 er' (by omega) (by omega) ((k1.trans (Kp.of s2)).trans k3) Z3
            have e : ((10 + (y.toNat - 48) : Nat) : Int) = (10 : Int) + ((y.toNat - 48 : Nat) : Int) := by omega
            rw [e] at q
            exact q
          · rw [oneIn_of hy ((d03_mem _).mpr (by omega))] at hF
            cases hF
        · refine if_f (Bool.eq_false_iff.mpr h2) ⟨_, rfl, ?_⟩
          refine qT _ _ H2 (er.trans ?_) (by omega) (by omega) (k1.trans (Kp.of s2)) (Z1.same s2)
          cases e : S.bs[n + 1]? with
          | none => rfl
          | some y =>
            refine if_neg fun z => h2 (oneIn_of e (d03_has.mpr ?_))
            have := (isDigit_iff y).mp z.1
            omega
      · refine if_f (by rw [dec_int, beq_eq_false_iff_ne]; omega) ⟨_, rfl, ?_⟩
        refine qT _ _ H1 (er.trans ?_) (by omega) (by omega) k1 Z1
        cases e : S.bs[n + 1]? with
        | none => rfl
        | some y => exact if_neg fun z => by omega
    · refine (qF n (run_no fun x hx hh => ?_)).up Kp.refl fun _ z => z
      rw [oneIn_of hx (digs_has.mpr hh)] at hF
      cases hF
end
end Tf

set_option maxRecDepth 100000
set_option maxHeartbeats 1000000
/-! # The reader of a position's line: pieces, rows -/
namespace TfP
open Tafl Tf
abbrev LE := List (Piece × Nat × Nat)
def kingIn (l : LE) : Bool := l.any fun t => t.1 == .king
def leV (t : Piece × Nat × Nat) : Row3 := (pieceByte t.1, t.2.1, t.2.2)
def okSign (king : Bool) (x : UInt8) : Option Piece := if x = 104 then some .hunter else if x = 109 then some .man else if x = 75 ∧ king = false then some .king else none
theorem okSign_byte {king : Bool} {x : UInt8} {k : Piece} (h : okSign king x = some k) : pieceByte k = x := by
  unfold okSign at h
  split at h
  · next e => cases h; exact e.symm
  · split at h
    · next e => cases h; exact e.symm
    · split at h
      · next e => cases h; exact e.1.symm
      · cases h
theorem kingIn_snoc (l : LE) (t : Piece × Nat × Nat) : kingIn (l ++ [t]) = (kingIn l || t.1 == .king) := by
  unfold kingIn
  rw [List.any_append]
  show (_ || (_ || false)) = _
  rw [Bool.or_false]
theorem rd_piece {wide f left rows n : Nat} {was : Bool} {l : LE} {bs : Bytes} {x : UInt8} {k : Piece} (h0 : left ≠ 0) (h : bs[n]? = some x) (hk : okSign (kingIn l) x = some k) :
    readRows wide (f + 1) left rows was (kingIn l) l (cur bs n) = readRows wide f (left - 1) rows false (kingIn (l ++ [(k, cellOf (wide - left) rows, n)])) (l ++ [(k, cellOf (wide - left) rows, n)]) (cur bs (n + 1)) := by
  rw [readRows, if_neg h0, show (cur bs n).next = some x from (cur_next _ _).trans h, cur_on, kingIn_snoc]
  unfold okSign at hk
  show (if x = 104 then _ else if x = 109 then _ else if x = 75 ∧ kingIn l = false then _ else _) = _
  by_cases h1 : x = 104
  · rw [if_pos h1] at hk ⊢
    cases hk
    rw [show (((Piece.hunter, cellOf (wide - left) rows, n) : Piece × Nat × Nat).1 == Piece.king) = false from rfl, Bool.or_false]
    rfl
  · rw [if_neg h1] at hk ⊢
    by_cases h2 : x = 109
    · rw [if_pos h2] at hk ⊢
      cases hk
      rw [show (((Piece.man, cellOf (wide - left) rows, n) : Piece × Nat × Nat).1 == Piece.king) = false from rfl, Bool.or_false]
      rfl
    · rw [if_neg h2] at hk ⊢
      by_cases h3 : x = 75 ∧ kingIn l = false
      · rw [if_pos h3] at hk ⊢
        cases hk
        rw [show (((Piece.king, cellOf (wide - left) rows, n) : Piece × Nat × Nat).1 == Piece.king) = true from rfl, Bool.or_true]
        rfl
      · rw [if_neg h3] at hk; cases hk
theorem rd_other {wide f left rows n : Nat} {l : LE} {bs : Bytes} {x : UInt8} (h0 : left ≠ 0) (h : bs[n]? = some x) (hk : okSign (kingIn l) x = none) :
    readRows wide (f + 1) left rows false (kingIn l) l (cur bs n) = match runIn left (cur bs n) with
      | .error e => .error e
      | .ok (m, d) => readRows wide f (left - m) rows true (kingIn l) l d := by
  rw [readRows, if_neg h0, show (cur bs n).next = some x from (cur_next _ _).trans h]
  unfold okSign at hk
  show (if x = 104 then _ else if x = 109 then _ else if x = 75 ∧ kingIn l = false then _ else _) = _
  split at hk
  · cases hk
  · next h1 =>
    split at hk
    · cases hk
    · next h2 =>
      split at hk
      · cases hk
      · next h3 =>
        rw [if_neg h1, if_neg h2, if_neg h3, if_neg (by decide)]
        rfl
theorem rd_was {wide f left rows n : Nat} {l : LE} {bs : Bytes} (h0 : left ≠ 0) (h : ∀ x, bs[n]? = some x → okSign (kingIn l) x = none) : readRows wide (f + 1) left rows true (kingIn l) l (cur bs n) = .error n := by
  rw [readRows, if_neg h0]
  cases e : bs[n]? with
  | none => rw [show (cur bs n).next = none from (cur_next _ _).trans e]; rfl
  | some x =>
    rw [show (cur bs n).next = some x from (cur_next _ _).trans e]
    have hk := h x e
    unfold okSign at hk
    show (if x = 104 then _ else if x = 109 then _ else if x = 75 ∧ kingIn l = false then _ else _) = _
    split at hk
    · cases hk
    · next h1 =>
      split at hk
      · cases hk
      · next h2 =>
        split at hk
        · cases hk
        · next h3 =>
          rw [if_neg h1, if_neg h2, if_neg h3, if_pos rfl]
          rfl
theorem rd_end {wide f left rows n : Nat} {was : Bool} {l : LE} {bs : Bytes} (h0 : left ≠ 0) (h : bs[n]? = none) : readRows wide (f + 1) left rows was (kingIn l) l (cur bs n) = .error n := by
  rw [readRows, if_neg h0, show (cur bs n).next = none from (cur_next _ _).trans h]
  rfl
end TfP
namespace Tf
open PySem PySem.Spec PyProof.Rows L2 TfP
theorem rdF_stood (t n) (sl : Addr) : (rdF t n [("stood", .ref sl)]).lookup ("stood" : Str) = some (.ref sl) := by kernel_rfl
section
variable (K : PySem.W.Frag) (A : Adr)
structure LnAt (H : Hp) (a t : Addr) (bs : Tafl.Bytes) (sl : Addr) (n : Nat) (l : LE) : Prop where
  rd : RdAt K A H a ⟨A.c_LineReader, t, bs, [("stood", .ref sl)]⟩ n
  xs : ∃ xs, H sl = some (.lst xs) ∧ TupsAt K rowV H xs (l.map leV)
  nt : t ≠ sl ∨ ∀ H, SqL K H t (bV bs)
end
section
variable {P : Program} {w : World} {K : PySem.W.Frag} {mg : Str → Option Value} {base : Heap} {A : Adr}
theorem LnAt.same {H H' : Hp} {a t sl : Addr} {bs : Tafl.Bytes} {n : Nat} {l : LE} (L : LnAt K A H a t bs sl n l) (s : Same H H') : LnAt K A H' a t bs sl n l := by
  obtain ⟨h1, ⟨xs, h2, h3⟩, h4⟩ := L
  exact ⟨h1.same s, ⟨xs, s _ _ h2, h3.same s⟩, h4⟩
theorem LnAt.step {H H' : Hp} {a t sl : Addr} {bs : Tafl.Bytes} {n n' : Nat} {l : LE} (L : LnAt K A H a t bs sl n l) (k : Kp (· = a) H H') (Z : RdAt K A H' a ⟨A.c_LineReader, t, bs, [("stood", .ref sl)]⟩ n') : LnAt K A H' a t bs sl n' l := by
  obtain ⟨h1, ⟨xs, h2, h3⟩, h4⟩ := L
  obtain ⟨dx, ho⟩ := h1.obj
  exact ⟨Z, ⟨xs, k.keep _ _ h2 (ne_of h2 ho (by intro z; cases z)), h3.keep k (nt_of ho)⟩, h4⟩
def sp_piece (K : PySem.W.Frag) (A : Adr) : Sp := fun vs H Q E => ∃ a t bs sl n l, ∃ c : Nat, vs = [.ref a, .int (c : Int)] ∧ LnAt K A H a t bs sl n l ∧ l.length ≤ 1000 ∧
  (∀ x k H', bs[n]? = some x → TfP.okSign (TfP.kingIn l) x = some k → Kp (fun b => b = a ∨ b = sl) H H' → LnAt K A H' a t bs sl (n + 1) (l ++ [(k, c, n)]) → Q .non H') ∧
  ((∀ x, bs[n]? = some x → TfP.okSign (TfP.kingIn l) x = none) → EF A (fun b => b = a ∨ b = sl) H E 1 n)
theorem ok_LineReader_piece (T : Txt K mg A) : FnOk P w K mg base (L2N.CX P w) 5 A.f_LineReader_piece A.d_LineReader_piece ["self", "cell"] (sp_piece K A) := by
  refine okG T.F_LineReader_piece sc_LineReader_piece (fun vs H Q E h => ?_) (fun cdv B outer s H vs Q E hr h => ?_)
  · obtain ⟨a, t, bs, sl, n, l, c, rfl, _⟩ := h
    rfl
  · obtain ⟨a, t, bs, sl, n, l, c, rfl, L, few, qT, qF⟩ := h
    have R := T.rd_LineReader
    obtain ⟨dx, ho⟩ := L.rd.obj
    obtain ⟨xs, hl, ht⟩ := L.xs
    refine ⟨_, (pss_cons (ps_set (i := 2) sc_LineReader_piece.nd rfl (by first | exact .inl rfl | exact .inr rfl) (pe_fld (pv 0) rfl))
  (pss_cons (ps_set (i := 3) sc_LineReader_piece.nd rfl (by first | exact .inl rfl | exact .inr rfl) pe_str)
  (pss_cons (ps_if (pt_cmpR op_in_seq pe_str (pe_lc (own := [("sign", 4), ("own", 5), ("there", 6)]) rfl sc_LineReader_piece.nd (pi_list (pe_fld (pv 0) rfl)) (blkOk_by (N := ["self", "cell", "place", "signs", "sign", "own", "there"]) (sc := defScope s_LineReader_piece) (own := [("sign", 4), ("own", 5), ("there", 6)]) (by decide +kernel)) (fun _ _ _ _ _ => (pg_tupK K (n := 3) rfl (pgs_cons (pg_name (i := 4) sc_LineReader_piece.nd rfl (by first | exact .inl rfl | exact .inr rfl)) (pgs_cons (pg_name (i := 5) sc_LineReader_piece.nd rfl (by first | exact .inl rfl | exact .inr rfl)) (pgs_cons (pg_name (i := 6) sc_LineReader_piece.nd rfl (by first | exact .inl rfl | exact .inr rfl)) pgs_nil))))) (fun _ _ _ _ _ => pts_nil) (fun _ _ _ _ _ => (pv 4))) (by rfl)) (pss_one (ps_set (i := 3) sc_LineReader_piece.nd rfl (by first | exact .inl rfl | exact .inr rfl) pe_str)) pss_nil)
  (pss_one (ps_expr (pe_bm PySem.F.plainAttrs_list PySem.F.slot_list_append PySem.F.type_list_append mt_append (pe_fld (pv 0) rfl) (pa_cons (pe_tup (pa_cons (pe_meth (pv 0) R.cl R.m_take (ok_Bytes_take T) (hr.mono (by decide)) T.b_Bytes_take .nil (pxN (L2N.takes_of rfl rfl rfl rfl)) (pa_cons (pv 3) pa_nil)) (pa_cons (pv 1) (pa_cons (pv 2) pa_nil)))) pa_nil))))))), ?_⟩
    refine ⟨_, rfl, a, A.c_LineReader, dx, _, _, rfl, ho, R.cl, R.n_at, rdF_at _ _ _, ?_⟩
    refine ⟨_, rfl, a, A.c_LineReader, dx, _, _, rfl, ho, R.cl, T.n_LineReader_stood, rdF_stood _ _ _, sl, rfl, ⟨_, SqL.of hl⟩, fun D nD => lcR (wv_list (xs := xs)) nD (fun H2 s2 => s2.seq (SqL.of hl)) (l.map leV) ht.1 (fun g => [V.str ⟨#[g.1.toNat]⟩]) (fun i x g ys H2 Nx hx hg s2 d2 lt hN hN0 => ?_) ?_ fun H2 s2 d2 => ?_⟩
    · obtain ⟨p, rfl, hp⟩ := ht.2 i x g hx hg
      exact ⟨p, _, rfl, Same.sqT s2 hp, rfl, _, _, rfl, _, _, rfl, _, _, rfl, rfl, rfl, _, rfl, ys, d2, lt, hN _ _ rfl (same_put s2 nD) upd_same⟩
    · rw [flat_map]
      exact small (by rw [List.length_map, List.length_map]; omega)
    · rw [flat_map] at d2
      have eK : V.str (Str.ofString "K") = .str ⟨#[(75 : UInt8).toNat]⟩ := by decide +kernel
      have e2 : Str.ofString "hm" = ⟨[104, 109].toArray⟩ := by decide +kernel
      have e3 : Str.ofString "hmK" = ⟨[104, 109, 75].toArray⟩ := by decide +kernel
      have fl : ((l.map leV).map fun g => V.str ⟨#[g.1.toNat]⟩).all flatV = true := by
        rw [List.all_map]
        exact List.all_eq_true.mpr fun _ _ => rfl
      have hkin : ((l.map leV).any fun g => g.1 == 75) = kingIn l := by
        unfold kingIn
        rw [List.any_map]
        congr 1
        funext u
        show (Tafl.pieceByte u.1 == Tafl.pieceByte .king) = _
        exact pieceB_beq _ _
      -- what is done with the signs
      have L2' := L.same s2
      have ho2 := s2 _ _ ho
      have fin : ∀ (cs : List Nat) v4 v5 v6, (∀ x : UInt8, cs.contains x.toNat = true ↔ ∃ k, okSign (kingIn l) x = some k) → cs.length ≤ 1000 →
          (tDrop (tBM K "list" rAppend (tFld K (tVar 0) "stood") (tCons (tTup (tCons (tMeth A.c_LineReader "take" (sp_take K A) [] E (tVar 0) (tCons (tVar 3) tNil)) (tCons (tVar 1) (tCons (tVar 2) tNil)))) tNil)))
            { nx := fun _ H' => Q .non H', rt := Q } [some (.ref a), some (.int (c : Int)), some (.int (n : Nat)), some (.str ⟨cs.toArray⟩), v4, v5, v6] H2 := fun cs v4 v5 v6 hcs hfew => by
        have ho := ho2
        obtain ⟨ys, hl2, ht2⟩ := L2'.xs
        refine ⟨_, rfl, a, A.c_LineReader, dx, _, _, rfl, ho, R.cl, T.n_LineReader_stood, rdF_stood _ _ _, .inl ⟨rfl, _, SqL.of hl2⟩, _, rfl, a, dx, _, rfl, ho, rdF_none (.inr ⟨_, rfl⟩), _, rfl, a, _, n, _, cs, rfl, L2'.rd, .inl rfl, hfew, fun x H3 hx hc k3 Z3 => ?_, fun hF => ?_⟩
        · obtain ⟨k, hk⟩ := (hcs x).mp hc
          have L3 := L2'.step k3 Z3
          obtain ⟨zs, hl3, ht3⟩ := L3.xs
          refine ⟨_, rfl, _, rfl, (by show 3 ≤ sizeLine; exact smallE (by decide)), fun p np => ?_⟩
          have s3 := same_new (o := .tup [.str ⟨#[x.toNat]⟩, .int (c : Int), .int (n : Nat)]) np
          have hl4 := s3 _ _ hl3
          refine ⟨sl, zs, _, rfl, rfl, hl4, small (by rw [ht3.1, List.length_map]; omega), ?_⟩
          have ev : rowV (leV (k, c, n)) = [.str ⟨#[x.toNat]⟩, .int (c : Int), .int (n : Nat)] := by
            show [V.str ⟨#[(Tafl.pieceByte k).toNat]⟩, .int (c : Int), .int (n : Nat)] = _
            rw [okSign_byte hk]
          have L4 := L3.same s3
          refine qT x k _ hx hk ((((Kp.of s2).trans (k3.mono fun _ z => .inl z)).trans (Kp.of s3)).trans (Kp.upd (.inr rfl))) ⟨L4.rd.list hl4 L.nt, ⟨_, upd_same, ?_⟩, L.nt⟩
          rw [List.map_append]
          exact ((ht3.same s3).snoc (p := p) (r := leV (k, c, n)) (.inl (.inl (by rw [ev]; exact upd_same)))).keep (p := (· = sl)) (Kp.upd rfl) (nt_lst hl4)
        · refine (qF fun x hx => ?_).up (Kp.of s2) fun _ z => .inl z
          cases e : okSign (kingIn l) x with
          | none => rfl
          | some k =>
            rw [oneIn_of hx ((hcs x).mpr ⟨k, e⟩)] at hF
            cases hF
      have m3 : ∀ x : UInt8, [104, 109, 75].contains x.toNat = true ↔ (x = 104 ∨ x = 109 ∨ x = 75) := fun x => by
        rw [List.contains_iff_mem]
        simp only [List.mem_cons, List.not_mem_nil, or_false]
        exact or_congr ⟨fun h => u8_inj h, fun h => by rw [h]; rfl⟩ (or_congr ⟨fun h => u8_inj h, fun h => by rw [h]; rfl⟩ ⟨fun h => u8_inj h, fun h => by rw [h]; rfl⟩)
      have m2 : ∀ x : UInt8, [104, 109].contains x.toNat = true ↔ (x = 104 ∨ x = 109) := fun x => by
        rw [List.contains_iff_mem]
        simp only [List.mem_cons, List.not_mem_nil, or_false]
        exact or_congr ⟨fun h => u8_inj h, fun h => by rw [h]; rfl⟩ ⟨fun h => u8_inj h, fun h => by rw [h]; rfl⟩
      rw [eK]
      refine ⟨D, _, rfl, .inl (SqL.of d2), rfl, fl, _, rfl, ?_⟩
      rw [inV_sign, hkin, e2, e3]
      by_cases hk : kingIn l = true
      · refine if_t hk (fin _ _ _ _ (fun x => ?_) (by decide))
        rw [m2, hk]
        unfold okSign
        constructor
        · rintro (h | h)
          · exact ⟨_, if_pos h⟩
          · exact ⟨.man, by rw [if_neg (by rw [h]; decide), if_pos h]⟩
        · rintro ⟨k, h⟩
          split at h
          · next e => exact .inl e
          · split at h
            · next e => exact .inr e
            · rw [if_neg (fun z => by cases z.2)] at h; cases h
      · have hk := Bool.eq_false_iff.mpr hk
        refine if_f hk (fin _ _ _ _ (fun x => ?_) (by decide))
        rw [m3, hk]
        unfold okSign
        constructor
        · rintro (h | h | h)
          · exact ⟨_, if_pos h⟩
          · exact ⟨.man, by rw [if_neg (by rw [h]; decide), if_pos h]⟩
          · exact ⟨.king, by rw [if_neg (by rw [h]; decide), if_neg (by rw [h]; decide), if_pos ⟨h, rfl⟩]⟩
        · rintro ⟨k, h⟩
          split at h
          · next e => exact .inl e
          · split at h
            · next e => exact .inr (.inl e)
            · split at h
              · next e => exact .inr (.inr e.1)
              · cases h
end
end Tf

set_option maxRecDepth 100000
set_option maxHeartbeats 1000000
/-! # The reader of a position's line: rows, the line -/
namespace TfP
open Tafl Tf
def rrow (bs : Bytes) (wide y f left : Nat) (was : Bool) (l : LE) (n : Nat) := readRows wide f left y was (kingIn l) l (cur bs n)
theorem rd_slash {wide f rows n : Nat} {was k : Bool} {l : LE} {bs : Bytes} (h0 : rows ≠ 0) : readRows wide (f + 1) 0 rows was k l (cur bs n) = (lit [47] (cur bs n) >>= fun c => readRows wide f wide (rows - 1) false k l c) := by
  rw [readRows, if_pos rfl, if_neg h0]
theorem rd_close {wide f n : Nat} {was k : Bool} {l : LE} {bs : Bytes} : readRows wide (f + 1) 0 0 was k l (cur bs n) = (lit [32] (cur bs n) >>= fun c => if c.next = some 104 then .ok (l, 0, c.on) else if c.next = some 107 then .ok (l, 1, c.on) else .error c.at_) := by
  rw [readRows, if_pos rfl, if_pos rfl]
  rfl
def readAll (wide high : Nat) (b : Bytes) : Except Nat (LE × Nat) := match readRows wide 1024 wide (high - 1) false false [] ⟨b, 0⟩ with
  | .error p => .error p
  | .ok (l, side, c) => if c.rest ≠ [] then .error c.at_ else .ok (l, side)
end TfP
namespace Tf
open PySem PySem.Spec PyProof.Rows L2 TfP
section
variable {P : Program} {w : World} {K : PySem.W.Frag} {mg : Str → Option Value} {base : Heap} {A : Adr}
def sp_row (K : PySem.W.Frag) (A : Adr) : Sp := fun vs H Q E => ∃ a t bs sl n l, ∃ y wide F : Nat, vs = [.ref a, .int (y : Int), .int (wide : Int)] ∧ LnAt K A H a t bs sl n l ∧ l.length ≤ 500 ∧ wide ≤ 13 ∧ 14 ≤ F ∧
  (∀ n' H' l' was f', TfP.rrow bs wide y F wide false l n = TfP.rrow bs wide y f' 0 was l' n' → F ≤ f' + 13 → l'.length ≤ l.length + 13 → Kp (fun b => b = a ∨ b = sl) H H' → LnAt K A H' a t bs sl n' l' → Q .non H') ∧
  (∀ p, TfP.rrow bs wide y F wide false l n = .error p → EF A (fun b => b = a ∨ b = sl) H E 1 p)
def rowInv (K : PySem.W.Frag) (A : Adr) (H : Hp) (a t : Addr) (bs : Tafl.Bytes) (sl : Addr) (n : Nat) (l : LE) (y wide F : Nat) : Nat → L2.St → Hp → Prop := fun m σ H' => ∃ (x : Nat) (was : Bool) (n' : Nat) (l' : LE) (f' : Nat), m + x = wide ∧ σ = [some (.ref a), some (.int (y : Int)), some (.int (wide : Int)), some (.int (x : Int)), some (.bl was)] ∧
  Kp (fun b => b = a ∨ b = sl) H H' ∧ LnAt K A H' a t bs sl n' l' ∧ l'.length ≤ l.length + x ∧ F ≤ f' + x ∧ TfP.rrow bs wide y F wide false l n = TfP.rrow bs wide y f' (wide - x) was l' n'
theorem ok_LineReader_row (T : Txt K mg A) : FnOk P w K mg base (L2N.CX P w) 6 A.f_LineReader_row A.d_LineReader_row ["self", "y", "wide"] (sp_row K A) := by
  refine okG T.F_LineReader_row sc_LineReader_row (fun vs H Q E h => ?_) (fun cdv B outer s H vs Q E hr h => ?_)
  · obtain ⟨a, t, bs, sl, n, l, y, wide, F, rfl, _⟩ := h
    rfl
  · obtain ⟨a, t, bs, sl, n, l, y, wide, F, rfl, L, few, w13, F14, qT, qF⟩ := h
    have R := T.rd_LineReader
    refine ⟨_, (pss_cons (ps_set (i := 3) sc_LineReader_row.nd rfl (by first | exact .inl rfl | exact .inr rfl) pe_int)
  (pss_cons (ps_set (i := 4) sc_LineReader_row.nd rfl (by first | exact .inl rfl | exact .inr rfl) pe_bl)
  (pss_one (ps_while (L2.passes_of rfl) (pt_cmpR op_lt (pv 3) (pv 2) (nomark _))
  (pss_one (ps_if (PW.pt (pw_and (pt_not (pt_val (pv 4))) (pw_and1 (pt_val (pe_meth (pv 0) R.cl R.m_is_one_of (ok_Bytes_is_one_of T) (hr.mono (by decide)) T.b_Bytes_is_one_of .nil pass0 (pa_cons pe_str pa_nil)))))) (pss_cons (ps_set (i := 3) sc_LineReader_row.nd rfl (by first | exact .inl rfl | exact .inr rfl) (pe_op op_add (pv 3) (pe_meth (pv 0) T.cl_LineReader T.m_LineReader_gap (ok_LineReader_gap T) (hr.mono (by decide)) T.b_LineReader_gap .nil (pxN (L2N.takes_of rfl rfl rfl rfl)) (pa_cons (pe_op op_sub (pv 2) (pv 3)) pa_nil))))
  (pss_one (ps_set (i := 4) sc_LineReader_row.nd rfl (by first | exact .inl rfl | exact .inr rfl) pe_bl))) (pss_cons (ps_expr (pe_meth (pv 0) T.cl_LineReader T.m_LineReader_piece (ok_LineReader_piece T) (hr.mono (by decide)) T.b_LineReader_piece .nil (pxN (L2N.takes_of rfl rfl rfl rfl)) (pa_cons (pe_op op_add (pe_op op_mul (pe_gi T.g_FARTHEST) (pv 1)) (pv 3)) pa_nil)))
  (pss_cons (ps_set (i := 3) sc_LineReader_row.nd rfl (by first | exact .inl rfl | exact .inr rfl) (pe_op op_add (pv 3) pe_int))
  (pss_one (ps_set (i := 4) sc_LineReader_row.nd rfl (by first | exact .inl rfl | exact .inr rfl) pe_bl)))))))))), ?_⟩
    refine ⟨rowInv K A H a t bs sl n l y wide F, ⟨wide, 0, false, n, l, F, rfl, rfl, Kp.refl, L, Nat.le_refl _, Nat.le_refl _, rfl⟩, fun m σ H1 hW => ?_⟩
    obtain ⟨x, was, n1, l1, f1, hm, rfl, k1, L1, len1, fu1, el⟩ := hW
    refine ⟨_, rfl, _, rfl, _, _, rfl, rfl, _, rfl, ?_⟩
    by_cases hx : x < wide
    · refine if_t (decide_eq_true (by omega)) ?_
      obtain ⟨m, rfl⟩ : ∃ m', m = m' + 1 := ⟨m - 1, by omega⟩
      obtain ⟨f1, rfl⟩ : ∃ f', f1 = f' + 1 := ⟨f1 - 1, by omega⟩
      refine ⟨fun σ' H' => ∃ m', m' < m + 1 ∧ rowInv K A H a t bs sl n l y wide F m' σ' H', fun _ _ z => z, ?_⟩
      have h0 : wide - x ≠ 0 := by omega
      obtain ⟨dx, ho⟩ := L1.rd.obj
      -- a piece
      have piece : ∀ {H2 : Hp}, Same H1 H2 → ((∀ z, bs[n1]? = some z → okSign (kingIn l1) z = none) → TfP.rrow bs wide y (f1 + 1) (wide - x) was l1 n1 = .error n1) →
          (tSeq (tDrop (tMeth A.c_LineReader "piece" (sp_piece K A) [] E (tVar 0) (tCons (tOp (rI0 fun i j => .int (i + j)) (tOp (rI CMul fun i j => .int (i * j)) (tC (.int 13)) (tVar 1)) (tVar 3)) tNil)))
            (tSeq (tAsg (tOp (rI0 fun i j => .int (i + j)) (tVar 3) (tC (.int 1))) (gName 3)) (tAsg (tC (.bl false)) (gName 4)))) { nx := fun σ' H' => ∃ m', m' < m + 1 ∧ rowInv K A H a t bs sl n l y wide F m' σ' H', rt := Q, ct := fun σ' H' => ∃ m', m' < m + 1 ∧ rowInv K A H a t bs sl n l y wide F m' σ' H', bk := fun _ H' => Q .non H' }
            [some (.ref a), some (.int (y : Int)), some (.int (wide : Int)), some (.int (x : Int)), some (.bl was)] H2 := fun {H2} s2 hno => by
        have ho := s2 _ _ ho
        refine ⟨_, rfl, a, dx, _, rfl, ho, rdF_none (.inr ⟨_, rfl⟩), _, rfl, _, _, rfl, rfl, .inl ⟨by decide, by decide⟩, _, rfl, _, _, rfl, rfl, a, t, bs, sl, n1, l1, 13 * y + x, congrArg (fun z => [V.ref a, V.int z]) (by omega), L1.same s2, by omega, fun z k H3 hz hk k3 L3 => ?_, fun hh => ?_⟩
        · refine ⟨_, rfl, _, _, rfl, rfl, ?_⟩
          have e1 : ((x : Int) + 1) = ((x + 1 : Nat) : Int) := by omega
          refine ⟨m, Nat.lt_succ_self m, x + 1, false, n1 + 1, _, f1, by omega, congrArg (fun z => [some (V.ref a), some (V.int (y : Int)), some (V.int (wide : Int)), some (V.int z), some (V.bl false)]) e1, (k1.trans (Kp.of s2)).trans k3, L3, by rw [List.length_append, List.length_singleton]; omega, by omega, el.trans ?_⟩
          unfold TfP.rrow
          rw [rd_piece h0 hz hk]
          have e2 : wide - (wide - x) = x := by omega
          have e3 : wide - x - 1 = wide - (x + 1) := by omega
          rw [e2, e3]
          rfl
        · exact (qF n1 (el.trans (hno hh))).up (k1.trans (Kp.of s2)) fun _ z => z
      refine ⟨_, rfl, _, rfl, ?_⟩
      cases was with
      | true =>
        refine if_f rfl (piece (Same.refl _) fun hh => ?_)
        exact rd_was h0 hh
      | false =>
        refine if_t rfl ?_
        have e9 : Str.ofString "123456789" = ⟨[49, 50, 51, 52, 53, 54, 55, 56, 57].toArray⟩ := by decide +kernel
        rw [e9]
        refine ⟨_, rfl, a, dx, _, rfl, ho, rdF_none (.inr ⟨_, rfl⟩), a, _, n1, _, [49, 50, 51, 52, 53, 54, 55, 56, 57], rfl, L1.rd, .inl rfl, (by decide), fun H2 s2 => ⟨_, rfl, ?_⟩⟩
        by_cases hd : oneIn bs n1 [49, 50, 51, 52, 53, 54, 55, 56, 57] = true
        · refine if_t hd ?_
          obtain ⟨z, hz, hzc⟩ := oneIn_yes hd
          have hz' := (digs1_mem _).mp hzc
          have ho := s2 _ _ ho
          have nok : okSign (kingIn l1) z = none := by
            have h1 : z ≠ 104 := fun q => by rw [q] at hz'; exact absurd hz'.2 (by decide)
            have h2 : z ≠ 109 := fun q => by rw [q] at hz'; exact absurd hz'.2 (by decide)
            have h3 : z ≠ 75 := fun q => by rw [q] at hz'; exact absurd hz'.2 (by decide)
            unfold okSign
            rw [if_neg h1, if_neg h2, if_neg (fun q => h3 q.1)]
          have st := el
          unfold TfP.rrow at st
          rw [rd_other h0 hz nok] at st
          refine ⟨_, rfl, _, rfl, a, dx, _, rfl, ho, rdF_none (.inr ⟨_, rfl⟩), _, rfl, _, rfl, _, _, rfl, rfl, a, _, n1, wide - x, congrArg (fun z => [V.ref a, V.int z]) (by omega), L1.rd.same s2, by omega, by omega, fun v n3 H3 ev v1 vle k3 Z3 => ?_, fun p ep => ?_⟩
          · refine ⟨_, _, rfl, rfl, ?_⟩
            have ev' : Tafl.runIn (wide - x) (cur bs n1) = .ok (v, cur bs n3) := ev
            rw [ev'] at st
            have e1 : ((x : Int) + (v : Int)) = ((x + v : Nat) : Int) := by omega
            refine ⟨m + 1 - v, by omega, x + v, true, n3, l1, f1, by omega, congrArg (fun z => [some (V.ref a), some (V.int (y : Int)), some (V.int (wide : Int)), some (V.int z), some (V.bl true)]) e1, (k1.trans (Kp.of s2)).trans (k3.mono fun _ z => .inl z), (L1.same s2).step k3 Z3, by omega, by omega, st.trans ?_⟩
            have e3 : wide - x - v = wide - (x + v) := by omega
            show Tafl.readRows wide f1 (wide - x - v) y true (kingIn l1) l1 (cur bs n3) = _
            rw [e3]
            rfl
          · have ep' : Tafl.runIn (wide - x) (cur bs n1) = .error p := ep
            rw [ep'] at st
            exact (qF p st).up (k1.trans (Kp.of s2)) fun _ z => .inl z
        · refine if_f (Bool.eq_false_iff.mpr hd) (piece s2 fun hh => ?_)
          unfold TfP.rrow
          cases e : bs[n1]? with
          | none => exact rd_end h0 e
          | some z =>
            rw [rd_other h0 e (hh z e), run_no fun z' hz' hc => hd (oneIn_of hz' ((digs1_mem _).mpr ⟨hc.1, hc.2.1⟩))]
    · refine if_f (decide_eq_false (by omega)) ?_
      have e0 : wide - x = 0 := by omega
      rw [e0] at el
      exact qT n1 H1 l1 was f1 el (by omega) (by omega) k1 L1
def sp_line (K : PySem.W.Frag) (A : Adr) : Sp := fun vs H Q E => ∃ a t bs sl ra dr f, vs = [.ref a, .ref ra] ∧ LnAt K A H a t bs sl 0 [] ∧ H ra = some (.ins A.c_Rules dr (ruF f)) ∧ ra ≠ a ∧ 5 ≤ f.wide ∧ f.wide ≤ 13 ∧ 5 ≤ f.high ∧ f.high ≤ 13 ∧
  (∀ l (side : Nat) H' n', TfP.readAll f.wide f.high bs = .ok (l, side) → side ≤ 1 → l.length ≤ 200 → Kp (fun b => b = a ∨ b = sl) H H' → LnAt K A H' a t bs sl n' l → Q (.int (side : Int)) H') ∧
  (∀ p, TfP.readAll f.wide f.high bs = .error p → EF A (fun b => b = a ∨ b = sl) H E 1 p)
def lineInv (K : PySem.W.Frag) (A : Adr) (H : Hp) (a t : Addr) (bs : Tafl.Bytes) (sl ra : Addr) (wide high : Nat) : Nat → L2.St → Hp → Prop := fun i σ H' => ∃ v2 v3, ∃ (n' : Nat) (l' : LE) (f' : Nat) (was : Bool), σ = [some (.ref a), some (.ref ra), v2, v3] ∧ Kp (fun b => b = a ∨ b = sl) H H' ∧ LnAt K A H' a t bs sl n' l' ∧ l'.length ≤ 13 * i ∧ 1024 ≤ f' + 14 * i ∧
  Tafl.readRows wide 1024 wide (high - 1) false false [] (cur bs 0) = if i = 0 then Tafl.readRows wide f' wide (high - 1) false (kingIn l') l' (cur bs n') else Tafl.readRows wide f' 0 (high - i) was (kingIn l') l' (cur bs n')
theorem ok_LineReader_line (T : Txt K mg A) : FnOk P w K mg base (L2N.CX P w) 7 A.f_LineReader_line A.d_LineReader_line ["self", "rules"] (sp_line K A) := by
  refine okG T.F_LineReader_line sc_LineReader_line (fun vs H Q E h => ?_) (fun cdv B outer s H vs Q E hr h => ?_)
  · obtain ⟨a, t, bs, sl, ra, dr, f, rfl, _⟩ := h
    rfl
  · obtain ⟨a, t, bs, sl, ra, dr, f, rfl, L, hra, nra, w5, w13, h5, h13, qT, qF⟩ := h
    have R := T.rd_LineReader
    refine ⟨_, (pss_cons (ps_for (L2.passes_of rfl) rfl (pi_range1 (by rfl) T.n_range (pa_cons (pe_fld (pv 1) rfl) pa_nil)) (pg_name (i := 2) sc_LineReader_line.nd rfl (by first | exact .inl rfl | exact .inr rfl))
  (pss_cons (ps_if (pt_cmpR op_gt (pv 2) pe_int (nomark _)) (pss_one (ps_expr (pe_meth (pv 0) R.cl R.m_literal (ok_Bytes_literal T) (hr.mono (by decide)) T.b_Bytes_literal .nil (pxN (L2N.takes_of rfl rfl rfl rfl)) (pa_cons pe_str pa_nil)))) pss_nil)
  (pss_one (ps_expr (pe_meth (pv 0) T.cl_LineReader T.m_LineReader_row (ok_LineReader_row T) (hr.mono (by decide)) T.b_LineReader_row .nil (pxN (L2N.takes_of rfl rfl rfl rfl)) (pa_cons (pe_op op_sub (pe_op op_sub (pe_fld (pv 1) rfl) pe_int) (pv 2)) (pa_cons (pe_fld (pv 1) rfl) pa_nil)))))))
  (pss_cons (ps_expr (pe_meth (pv 0) R.cl R.m_literal (ok_Bytes_literal T) (hr.mono (by decide)) T.b_Bytes_literal .nil (pxN (L2N.takes_of rfl rfl rfl rfl)) (pa_cons pe_str pa_nil)))
  (pss_cons (ps_set (i := 3) sc_LineReader_line.nd rfl (by first | exact .inl rfl | exact .inr rfl) (pe_ix ix_list (pe_lst (pa_cons (pe_gi T.g_HUNTERS) (pa_cons (pe_gi T.g_KING) pa_nil))) (pe_callTy call_int1 (by rfl) T.n_int (by decide +kernel) (pa_cons (pe_cmpR op_eq (pe_meth (pv 0) R.cl R.m_take (ok_Bytes_take T) (hr.mono (by decide)) T.b_Bytes_take .nil (pxN (L2N.takes_of rfl rfl rfl rfl)) (pa_cons pe_str pa_nil)) pe_str (nomark _)) pa_nil)) (fun _ _ => rfl)))
  (pss_cons (ps_expr (pe_meth0 (pv 0) R.cl R.m_finish (ok_Bytes_finish T) (hr.mono (by decide)) T.b_Bytes_finish .nil (pxN (L2N.takes_of rfl rfl rfl rfl))))
  (pss_one (ps_ret (pv 3))))))), ?_⟩
    have nsl : ra ≠ sl := by obtain ⟨xs, hl, _⟩ := L.xs; exact ne_of hra hl (by intro z; cases z)
    have rr : ∀ {H' : Hp}, Kp (fun b => b = a ∨ b = sl) H H' → H' ra = some (.ins A.c_Rules dr (ruF f)) := fun k => k.keep _ _ hra fun z => z.elim nra nsl
    refine ⟨_, rfl, ra, A.c_Rules, dr, _, _, rfl, hra, T.cl_Rules, T.n_Rules_high, ru_high _, _, rfl, by omega, by omega, ?_⟩
    rw [show ((f.high : Int)).toNat = f.high from Int.toNat_natCast _]
    have whole : ∀ {c : Except Nat (LE × Nat × Tafl.Cur)}, Tafl.readRows f.wide 1024 f.wide (f.high - 1) false false [] (cur bs 0) = c → readAll f.wide f.high bs = match c with
        | .error p => .error p
        | .ok (l, side, c) => if c.rest ≠ [] then .error c.at_ else .ok (l, side) := fun e => by
      unfold readAll
      rw [← e]
      rfl
    have bad : ∀ {p : Nat}, Tafl.readRows f.wide 1024 f.wide (f.high - 1) false false [] (cur bs 0) = .error p → readAll f.wide f.high bs = .error p := fun e => whole e
    refine forS (wv_range (lo := 0) (n := f.high)) (lineInv K A H a t bs sl ra f.wide f.high)
      ⟨none, none, 0, [], 1024, false, rfl, Kp.refl, L, Nat.zero_le _, Nat.le_refl _, (if_pos rfl).symm⟩ (fun _ _ _ _ => trivial) (fun i y σ H1 hy hP => ?_) (fun σ H1 hP => ?_)
    · obtain ⟨v2, v3, n1, l1, f1, was, rfl, k1, L1, len1, fu1, el⟩ := hP
      have hi : i < f.high := by
        have := (List.getElem?_eq_some_iff.mp hy).1
        rwa [List.length_map, List.length_range] at this
      obtain rfl : y = .int (i : Nat) := by
        rw [List.getElem?_map, List.getElem?_range hi] at hy
        have e : V.int (0 + (i : Int)) = y := Option.some.inj hy
        rw [← e, Int.zero_add]
      -- a row
      have row : ∀ {H2 : Hp} {n2 f2 : Nat}, Kp (fun b => b = a ∨ b = sl) H H2 → LnAt K A H2 a t bs sl n2 l1 → 1024 ≤ f2 + 14 * i + 1 → Tafl.readRows f.wide 1024 f.wide (f.high - 1) false false [] (cur bs 0) = rrow bs f.wide (f.high - 1 - i) f2 f.wide false l1 n2 →
          (tDrop (tMeth A.c_LineReader "row" (sp_row K A) [] E (tVar 0) (tCons (tOp (rI0 fun i j => .int (i - j)) (tOp (rI0 fun i j => .int (i - j)) (tFld K (tVar 1) "high") (tC (.int 1))) (tVar 2)) (tCons (tFld K (tVar 1) "wide") tNil))))
            { nx := lineInv K A H a t bs sl ra f.wide f.high (i + 1), rt := Q, ct := lineInv K A H a t bs sl ra f.wide f.high (i + 1), bk := fun _ _ => False } [some (.ref a), some (.ref ra), some (.int (i : Nat)), v3] H2 := fun {H2 n2 f2} k2 L2 fu2 e2 => by
        obtain ⟨dx, ho⟩ := L2.rd.obj
        have hra := rr k2
        refine ⟨_, rfl, a, dx, _, rfl, ho, rdF_none (.inr ⟨_, rfl⟩), _, rfl, ra, A.c_Rules, dr, _, _, rfl, hra, T.cl_Rules, T.n_Rules_high, ru_high _, _, _, rfl, rfl, _, rfl, _, _, rfl, rfl, _, rfl, ra, A.c_Rules, dr, _, _, rfl, hra, T.cl_Rules, T.n_Rules_wide, ru_wide _, a, t, bs, sl, n2, l1, f.high - 1 - i, f.wide, f2, congrArg (fun z => [V.ref a, V.int z, V.int (f.wide : Int)]) (by omega), L2, by omega, w13, by omega, fun n3 H3 l3 was3 f3 e3 fu3 len3 k3 L3 => ?_, fun p e3 => ?_⟩
        · refine ⟨_, _, n3, l3, f3, was3, rfl, k2.trans k3, L3, by omega, by omega, ?_⟩
          rw [if_neg (by omega), e2, e3]
          have e : f.high - (i + 1) = f.high - 1 - i := by omega
          rw [e]
          rfl
        · exact (qF p (bad (e2.trans e3))).up k2 fun _ z => z
      refine ⟨_, rfl, _, _, rfl, rfl, _, rfl, ?_⟩
      by_cases h0 : i = 0
      · subst h0
        refine if_f (by decide) (row (f2 := f1) k1 L1 (by omega) ?_)
        rw [el, if_pos rfl]
        rfl
      · rw [if_neg h0] at el
        refine if_t (decide_eq_true (by omega)) ?_
        obtain ⟨dx, ho⟩ := L1.rd.obj
        obtain ⟨f1, rfl⟩ : ∃ f', f1 = f' + 1 := ⟨f1 - 1, by omega⟩
        rw [rd_slash (by omega)] at el
        have t1 : V.str (Str.ofString "/") = txV [47] := by decide +kernel
        refine ⟨_, rfl, a, dx, _, rfl, ho, rdF_none (.inr ⟨_, rfl⟩), a, _, n1, _, congrArg (fun z => [V.ref a, z]) t1, L1.rd, fun n2 H2 e2 k2 Z2 => ?_, fun p e2 => (qF p (bad (el.trans ?_))).up k1 fun _ z => .inl z⟩
        · refine row (f2 := f1) (k1.trans (k2.mono fun _ z => .inl z)) (L1.step k2 Z2) (by omega) ?_
          have e2' : Tafl.lit [47] (cur bs n1) = .ok (cur bs n2) := e2
          rw [el, e2']
          have e : f.high - i - 1 = f.high - 1 - i := by omega
          show Tafl.readRows f.wide f1 f.wide (f.high - i - 1) false (kingIn l1) l1 (cur bs n2) = _
          rw [e]
          rfl
        · have e2' : Tafl.lit [47] (cur bs n1) = .error p := e2
          first | (rw [e2']; rfl) | rw [e2']
    · obtain ⟨v2, v3, n1, l1, f1, was, rfl, k1, L1, len1, fu1, el⟩ := hP
      rw [List.length_map, List.length_range] at len1 fu1 el
      rw [if_neg (by omega), Nat.sub_self] at el
      obtain ⟨f1, rfl⟩ : ∃ f', f1 = f' + 1 := ⟨f1 - 1, by omega⟩
      rw [rd_close] at el
      obtain ⟨dx, ho⟩ := L1.rd.obj
      have t1 : V.str (Str.ofString " ") = txV [32] := by decide +kernel
      refine ⟨_, rfl, a, dx, _, rfl, ho, rdF_none (.inr ⟨_, rfl⟩), a, _, n1, _, congrArg (fun z => [V.ref a, z]) t1, L1.rd, fun n2 H2 e2 k2 Z2 => ?_, fun p e2 => (qF p (bad (el.trans ?_))).up k1 fun _ z => .inl z⟩
      · have e2' : Tafl.lit [32] (cur bs n1) = .ok (cur bs n2) := e2
        rw [e2'] at el
        have L2 := L1.step k2 Z2
        have k12 := k1.trans (k2.mono (q := fun b => b = a ∨ b = sl) fun _ z => .inl z)
        have thk : Str.ofString "hk" = ⟨[104, 107].toArray⟩ := by decide +kernel
        rw [thk]
        refine ⟨(by show 2 ≤ sizeLine; exact smallE (by decide)), fun p3 np3 => ?_⟩
        have s3 := same_new (o := .lst [.int 0, .int 1]) np3
        have L3 := L2.same s3
        obtain ⟨dx, ho⟩ := L3.rd.obj
        refine ⟨_, rfl, a, dx, _, rfl, ho, rdF_none (.inr ⟨_, rfl⟩), a, _, n2, _, [104, 107], rfl, L3.rd, .inl rfl, (by decide), fun z H4 hz hc k4 Z4 => ?_, fun hF => ?_⟩
        · have L4 := L3.step k4 Z4
          have hp3 : H4 p3 = some (.lst [.int 0, .int 1]) := k4.keep _ _ upd_same (ne_of (upd_same (a := p3) (o := .lst [.int 0, .int 1])) ho (by intro z; cases z))
          have k14 := (k12.trans (Kp.of s3)).trans (k4.mono (q := fun b => b = a ∨ b = sl) fun _ z => .inl z)
          have hz2 : bs[n2]? = some z := hz
          have hzz : z = 104 ∨ z = 107 := by
            rw [List.contains_iff_mem] at hc
            simp only [List.mem_cons, List.not_mem_nil, or_false] at hc
            exact hc.imp (fun h => u8_inj h) (fun h => u8_inj h)
          have ek := signE (s := "k") z 107 (by decide +kernel)
          obtain ⟨side, hs1, hside, hel⟩ : ∃ side : Nat, side ≤ 1 ∧ side = (if (z == 107) = true then 1 else 0) ∧ Tafl.readRows f.wide 1024 f.wide (f.high - 1) false false [] (cur bs 0) = .ok (l1, side, cur bs (n2 + 1)) := by
            rcases hzz with rfl | rfl
            · exact ⟨0, by omega, rfl, el.trans ((if_pos (by rw [cur_next]; exact hz2)).trans (by rw [cur_on]))⟩
            · exact ⟨1, by omega, rfl, el.trans ((if_neg (by rw [cur_next]; rw [hz2]; decide)).trans ((if_pos (by rw [cur_next]; exact hz2)).trans (by rw [cur_on])))⟩
          refine ⟨rfl, .inr ⟨_, rfl, p3, [.int 0, .int 1], _, .int (side : Int), rfl, rfl, SqL.of hp3, ?_, ?_⟩⟩
          · rw [ek]
            rcases hzz with rfl | rfl <;> rw [hside]
            · exact atI_nat (j := 0) rfl
            · exact atI_nat (j := 1) rfl
          · obtain ⟨dx, ho⟩ := L4.rd.obj
            refine ⟨_, rfl, a, dx, _, rfl, ho, rdF_none (.inr ⟨_, rfl⟩), a, _, n2 + 1, rfl, L4.rd, fun e5 => ?_, fun e5 => ?_⟩
            · refine ⟨_, rfl, qT l1 side H4 (n2 + 1) ((whole hel).trans (if_neg fun h => h ?_)) hs1 (by omega) k14 L4⟩
              exact List.drop_eq_nil_of_le (Nat.le_of_eq e5.symm)
            · refine (qF (n2 + 1) ((whole hel).trans (if_pos fun h => e5 ?_))).up k14 fun _ z => .inl z
              exact Nat.le_antisymm L4.rd.le (List.drop_eq_nil_iff.mp h)
        · refine (qF n2 (bad (el.trans ?_))).up (k12.trans (Kp.of s3)) fun _ z => .inl z
          have hF' : ∀ y : UInt8, [104, 107].contains y.toNat = true → (cur bs n2).next ≠ some y := fun y hy e => by
            rw [cur_next] at e
            have : oneIn bs n2 [104, 107] = true := oneIn_of e hy
            have hF2 : oneIn bs n2 [104, 107] = false := hF
            rw [hF2] at this
            cases this
          exact (if_neg (hF' 104 (by decide))).trans (if_neg (hF' 107 (by decide)))
      · have e2' : Tafl.lit [32] (cur bs n1) = .error p := e2
        rw [e2']
        rfl
end
end Tf

set_option maxRecDepth 100000
set_option maxHeartbeats 400000
/-! # What a line's pieces are: plain Lean -/
namespace TfP
open Tafl Tf
structure LOk (wide high rows left : Nat) (l : LE) : Prop where
  some : ∀ t ∈ l, t.1 ≠ .none ∧ ∃ x y, t.2.1 = cellOf x y ∧ x < wide ∧ y < high ∧ (rows < y ∨ (y = rows ∧ x + left < wide))
  nodup : (l.map fun t => t.2.1).Nodup
  king : (l.filter fun t => t.1 == .king).length ≤ 1
theorem LOk.less {wide high rows left left' : Nat} {l : LE} (h : LOk wide high rows left l) (le : left' ≤ left) : LOk wide high rows left' l := ⟨fun t ht => by
  obtain ⟨h1, x, y, h2, h3, h4, h5⟩ := h.some t ht
  exact ⟨h1, x, y, h2, h3, h4, by omega⟩, h.nodup, h.king⟩
theorem LOk.add {wide high rows left : Nat} {l : LE} (w13 : wide ≤ 13) (h : LOk wide high rows left l) (h0 : left ≠ 0) (lw : left ≤ wide) (hr : rows < high) {k : Piece} {n : Nat} (hk : k ≠ .none) (hK : k = .king → kingIn l = false) : LOk wide high rows (left - 1) (l ++ [(k, cellOf (wide - left) rows, n)]) := by
  refine ⟨fun t ht => ?_, ?_, ?_⟩
  · rcases List.mem_append.mp ht with ht | ht
    · exact (h.less (Nat.sub_le _ _)).some t ht
    · cases List.mem_singleton.mp ht
      exact ⟨hk, wide - left, rows, rfl, by omega, hr, .inr ⟨rfl, by omega⟩⟩
  · rw [List.map_append, List.nodup_append]
    refine ⟨h.nodup, by simp, fun c hc d hd => ?_⟩
    have hd' : d = cellOf (wide - left) rows := List.mem_singleton.mp hd
    subst hd'
    obtain ⟨t, ht, rfl⟩ := List.mem_map.mp hc
    obtain ⟨_, x, y, h2, h3, h4, h5⟩ := h.some t ht
    show t.2.1 ≠ _
    rw [h2]
    intro e
    obtain ⟨e1, e2⟩ := cellOf_inj (by omega) (by omega) e
    omega
  · rw [List.filter_append, List.length_append]
    by_cases hkk : k = .king
    · have := hK hkk
      have e0 : l.filter (fun t => t.1 == .king) = [] := by
        rw [List.filter_eq_nil_iff]
        intro t ht hkt
        have : kingIn l = true := List.any_eq_true.mpr ⟨t, ht, hkt⟩
        rw [hK hkk] at this
        cases this
      rw [e0]
      exact Nat.le_trans (by rw [List.length_nil, Nat.zero_add]; exact List.length_filter_le _ _) (Nat.le_refl 1)
    · have e1 : [(k, cellOf (wide - left) rows, n)].filter (fun (t : Piece × Nat × Nat) => t.1 == .king) = [] := by
        rw [List.filter_eq_nil_iff]
        intro t ht hkt
        cases List.mem_singleton.mp ht
        exact hkk (beq_iff_eq.mp hkt)
      rw [e1]
      exact h.king
theorem LOk.down {wide high rows : Nat} {l : LE} (h : LOk wide high rows 0 l) (h0 : rows ≠ 0) : LOk wide high (rows - 1) wide l := ⟨fun t ht => by
  obtain ⟨h1, x, y, h2, h3, h4, h5⟩ := h.some t ht
  exact ⟨h1, x, y, h2, h3, h4, by omega⟩, h.nodup, h.king⟩
theorem rd_inv {wide high : Nat} (w13 : wide ≤ 13) : ∀ (f left rows : Nat) (was : Bool) (l : LE) (c : Cur) (l' : LE) (side : Nat) (d : Cur), left ≤ wide → rows < high → LOk wide high rows left l → readRows wide f left rows was (kingIn l) l c = .ok (l', side, d) → side ≤ 1 ∧ ∃ rows left, LOk wide high rows left l'
  | 0, _, _, _, _, _, _, _, _, _, _, _, h => by rw [readRows] at h; cases h
  | f + 1, left, rows, was, l, c, l', side, d, lw, hr, ok, h => by
    rw [readRows] at h
    by_cases h0 : left = 0
    · subst h0
      rw [if_pos rfl] at h
      by_cases hr0 : rows = 0
      · rw [if_pos hr0] at h
        obtain ⟨c2, e2, h⟩ := bind_inv h
        have h' : (if c2.next = some 104 then (Except.ok (l, 0, c2.on) : Except Nat _) else if c2.next = some 107 then .ok (l, 1, c2.on) else .error c2.at_) = .ok (l', side, d) := h
        split at h'
        · cases h'; exact ⟨by omega, _, _, ok⟩
        · split at h'
          · cases h'; exact ⟨by omega, _, _, ok⟩
          · cases h'
      · rw [if_neg hr0] at h
        obtain ⟨c2, e2, h⟩ := bind_inv h
        exact rd_inv w13 f wide (rows - 1) false l c2 l' side d (Nat.le_refl _) (by omega) (ok.down hr0) h
    · rw [if_neg h0] at h
      cases e : c.next with
      | none => rw [e] at h; cases h
      | some x =>
        rw [e] at h
        have go : ∀ k, k ≠ Piece.none → (k = .king → kingIn l = false) → ∀ kg : Bool, kg = kingIn (l ++ [(k, cellOf (wide - left) rows, c.at_)]) → readRows wide f (left - 1) rows false kg (l ++ [(k, cellOf (wide - left) rows, c.at_)]) c.on = .ok (l', side, d) → side ≤ 1 ∧ ∃ rows left, LOk wide high rows left l' := fun k hk hK kg hkg hh => by
          rw [hkg] at hh
          exact rd_inv w13 f (left - 1) rows false _ c.on l' side d (by omega) hr (ok.add w13 h0 lw hr hk hK) hh
        have h' : (if x = 104 then readRows wide f (left - 1) rows false (kingIn l) (l ++ [(.hunter, cellOf (wide - left) rows, c.at_)]) c.on
          else if x = 109 then readRows wide f (left - 1) rows false (kingIn l) (l ++ [(.man, cellOf (wide - left) rows, c.at_)]) c.on
          else if x = 75 ∧ kingIn l = false then readRows wide f (left - 1) rows false true (l ++ [(.king, cellOf (wide - left) rows, c.at_)]) c.on
          else if was = true then .error c.at_ else match runIn left c with
            | .error e => .error e
            | .ok (n, d) => readRows wide f (left - n) rows true (kingIn l) l d) = .ok (l', side, d) := h
        split at h'
        · exact go .hunter (by intro z; cases z) (by intro z; cases z) _ (by rw [kingIn_snoc]; exact (Bool.or_false _).symm) h'
        · split at h'
          · exact go .man (by intro z; cases z) (by intro z; cases z) _ (by rw [kingIn_snoc]; exact (Bool.or_false _).symm) h'
          · split at h'
            · next hh => exact go .king (by intro z; cases z) (fun _ => hh.2) _ (by rw [kingIn_snoc]; exact (Bool.or_true _).symm) h'
            · split at h'
              · cases h'
              · cases er : runIn left c with
                | error e2 => rw [er] at h'; cases h'
                | ok v =>
                  rw [er] at h'
                  exact rd_inv w13 f (left - v.1) rows true l v.2 l' side d (by omega) hr (ok.less (Nat.sub_le _ _)) h'
theorem readAll_inv {wide high : Nat} {b : Bytes} {l : LE} {side : Nat} (w13 : wide ≤ 13) (h5 : 1 ≤ high) (h : readAll wide high b = .ok (l, side)) : side ≤ 1 ∧ ∃ rows left, LOk wide high rows left l := by
  unfold readAll at h
  cases e : readRows wide 1024 wide (high - 1) false false [] ⟨b, 0⟩ with
  | error p => rw [e] at h; cases h
  | ok t =>
    obtain ⟨l2, s2, c2⟩ := t
    rw [e] at h
    have h' : (if c2.rest ≠ [] then (Except.error c2.at_ : Except Nat (LE × Nat)) else .ok (l2, s2)) = .ok (l, side) := h
    split at h'
    · cases h'
    · cases h'
      exact rd_inv w13 1024 wide (high - 1) false [] ⟨b, 0⟩ _ _ c2 (Nat.le_refl _) (by omega) ⟨(fun t ht => by cases ht), List.nodup_nil, Nat.zero_le _⟩ e
/-! ### sets of cells as numbers -/
theorem testBit_setFrom (c : Nat) : ∀ (l : List Nat) (n : Nat), (l.foldl (fun (n c : Nat) => n ||| 2 ^ c) n).testBit c = (n.testBit c || decide (c ∈ l))
  | [], n => by simp
  | a :: l, n => by
    rw [List.foldl_cons, testBit_setFrom c l, Nat.testBit_or, Nat.testBit_two_pow, Bool.or_assoc]
    congr 1
    rw [Bool.eq_iff_iff, Bool.or_eq_true, decide_eq_true_iff, decide_eq_true_iff, decide_eq_true_iff, List.mem_cons]
    exact or_congr ⟨fun h => h.symm, fun h => h.symm⟩ Iff.rfl
theorem mem_setFrom (l : List Nat) (c : Nat) : (setFrom l).testBit c = true ↔ c ∈ l := by
  unfold setFrom
  rw [testBit_setFrom, Nat.zero_testBit, Bool.false_or, decide_eq_true_iff]
def cellsBy (k : Piece) (l : LE) : List Nat := (l.filter fun t => t.1 == k).map fun t => t.2.1
def posOf (l : LE) (side : Nat) : Pos := ⟨setFrom (l.filterMap fun x => if x.1 = .hunter then some x.2.1 else none), setFrom (l.filterMap fun x => if x.1 = .man then some x.2.1 else none), ((l.find? fun x => x.1 == .king).map fun x => x.2.1).getD TAKEN, side⟩
theorem cellsBy_eq (k : Piece) (l : LE) : (l.filterMap fun x => if x.1 = k then some x.2.1 else none) = cellsBy k l := by
  unfold cellsBy
  induction l with
  | nil => rfl
  | cons t l ih =>
    rw [List.filterMap_cons, List.filter_cons]
    by_cases h : t.1 = k
    · rw [if_pos h, if_pos (beq_iff_eq.mpr h), List.map_cons, ← ih]
    · rw [if_neg h, if_neg (fun z => h (beq_iff_eq.mp z)), ← ih]
theorem readLine_eq (r : Rules) (b : Bytes) : r.readLine b = match readAll r.wide r.high b with
    | .error p => .error (1, p)
    | .ok (l, side) => match l.find? fun x => !mayStand x.1 (r.kindAt x.2.1) with
      | some x => .error (2, x.2.2)
      | none => .ok (posOf l side) := by
  unfold Rules.readLine readAll posOf
  show (match readRows r.wide 1024 r.wide (r.high - 1) false false [] ⟨b, 0⟩ with | .error p => _ | .ok (l, side, c) => _) = _
  cases readRows r.wide 1024 r.wide (r.high - 1) false false [] ⟨b, 0⟩ with
  | error p => rfl
  | ok t =>
    obtain ⟨l, side, c⟩ := t
    show (if c.rest ≠ [] then _ else _) = (match (if c.rest ≠ [] then (Except.error c.at_ : Except Nat (LE × Nat)) else .ok (l, side)) with | .error p => _ | .ok (l, side) => _)
    by_cases h : c.rest ≠ []
    · rw [if_pos h, if_pos h]
    · rw [if_neg h, if_neg h]
      rfl
/-! ### positions -/
structure PosOk (r : Rules) (p : Pos) : Prop where
  side : p.side ≤ 1
  h : ∀ c, p.hunters.testBit c = true → r.isCell c = true
  m : ∀ c, p.men.testBit c = true → r.isCell c = true
  hm : ∀ c, p.hunters.testBit c = true → p.men.testBit c = false
  k : p.king = TAKEN ∨ (r.isCell p.king = true ∧ p.hunters.testBit p.king = false ∧ p.men.testBit p.king = false)
def kingI (p : Pos) : Int := if p.king = TAKEN then -1 else (p.king : Int)
theorem mem_cellsBy {k : Piece} {l : LE} {c : Nat} : c ∈ cellsBy k l ↔ ∃ t ∈ l, t.1 = k ∧ t.2.1 = c := by
  unfold cellsBy
  rw [List.mem_map]
  constructor
  · rintro ⟨t, ht, rfl⟩
    obtain ⟨h1, h2⟩ := List.mem_filter.mp ht
    exact ⟨t, h1, beq_iff_eq.mp h2, rfl⟩
  · rintro ⟨t, h1, h2, rfl⟩
    exact ⟨t, List.mem_filter.mpr ⟨h1, beq_iff_eq.mpr h2⟩, rfl⟩
theorem LOk.cell {r : Rules} (W : RulesWf r) {rows left : Nat} {l : LE} (h : LOk r.wide r.high rows left l) {t : Piece × Nat × Nat} (ht : t ∈ l) : r.isCell t.2.1 = true := by
  obtain ⟨_, x, y, e, hx, hy, _⟩ := h.some t ht
  have := W.w13
  unfold Rules.isCell
  rw [show STRIDE = 13 from rfl, e, cellOf_mod (by omega), cellOf_div (by omega), decide_eq_true hx, decide_eq_true hy]
  rfl
theorem map_uniq {α β : Type} {f : α → β} : ∀ {l : List α}, (l.map f).Nodup → ∀ {t u : α}, t ∈ l → u ∈ l → f t = f u → t = u
  | [], _, t, _, ht, _, _ => by cases ht
  | a :: l, h, t, u, ht, hu, e => by
    rw [List.map_cons, List.nodup_cons] at h
    rcases List.mem_cons.mp ht with rfl | ht2 <;> rcases List.mem_cons.mp hu with rfl | hu2
    · rfl
    · exact absurd ((List.mem_map (l := l)).mpr ⟨u, hu2, e.symm⟩) h.1
    · exact absurd ((List.mem_map (l := l)).mpr ⟨t, ht2, e⟩) h.1
    · exact map_uniq h.2 ht2 hu2 e
theorem LOk.uniq {wide high rows left : Nat} {l : LE} (h : LOk wide high rows left l) {t u : Piece × Nat × Nat} (ht : t ∈ l) (hu : u ∈ l) (e : t.2.1 = u.2.1) : t = u := map_uniq h.nodup ht hu e
theorem king_find (l : LE) : ((l.find? fun x => x.1 == .king).map fun x => x.2.1) = (cellsBy .king l).head? := by
  unfold cellsBy
  rw [List.head?_map, List.head?_filter]
theorem posOf_ok {r : Rules} (W : RulesWf r) {rows left side : Nat} {l : LE} (h : LOk r.wide r.high rows left l) (hs : side ≤ 1) : PosOk r (posOf l side) := by
  have mh : ∀ c, (posOf l side).hunters.testBit c = true ↔ c ∈ cellsBy .hunter l := fun c => by
    show (setFrom (l.filterMap fun x => if x.1 = .hunter then some x.2.1 else none)).testBit c = true ↔ _
    rw [mem_setFrom, cellsBy_eq]
  have mm : ∀ c, (posOf l side).men.testBit c = true ↔ c ∈ cellsBy .man l := fun c => by
    show (setFrom (l.filterMap fun x => if x.1 = .man then some x.2.1 else none)).testBit c = true ↔ _
    rw [mem_setFrom, cellsBy_eq]
  have apart : ∀ {j k : Piece} {c : Nat}, j ≠ k → c ∈ cellsBy j l → c ∉ cellsBy k l := fun hne h1 h2 => by
    obtain ⟨t, ht, e1, e2⟩ := mem_cellsBy.mp h1
    obtain ⟨u, hu, e3, e4⟩ := mem_cellsBy.mp h2
    have := h.uniq ht hu (e2.trans e4.symm)
    rw [this, e3] at e1
    exact hne e1.symm
  have cell : ∀ {k : Piece} {c : Nat}, c ∈ cellsBy k l → r.isCell c = true := fun h1 => by
    obtain ⟨t, ht, _, e2⟩ := mem_cellsBy.mp h1
    rw [← e2]
    exact h.cell W ht
  refine ⟨hs, fun c hc => cell ((mh c).mp hc), fun c hc => cell ((mm c).mp hc), fun c hc => ?_, ?_⟩
  · rw [Bool.eq_false_iff]
    exact fun z => apart (by intro q; cases q) ((mh c).mp hc) ((mm c).mp z)
  · show ((l.find? fun x => x.1 == .king).map fun x => x.2.1).getD TAKEN = TAKEN ∨ _
    have ek : (posOf l side).king = (cellsBy .king l).head?.getD TAKEN := by
      show ((l.find? fun x => x.1 == .king).map fun x => x.2.1).getD TAKEN = _
      rw [king_find]
    rw [king_find]
    cases hk : cellsBy .king l with
    | nil => exact .inl rfl
    | cons c q =>
      rw [hk] at ek
      have ek' : (posOf l side).king = c := ek
      have hc : c ∈ cellsBy .king l := by rw [hk]; exact List.mem_cons_self
      refine .inr ⟨by rw [ek']; exact cell hc, ?_, ?_⟩
      · rw [ek', Bool.eq_false_iff]
        exact fun z => apart (by intro q; cases q) hc ((mh c).mp z)
      · rw [ek', Bool.eq_false_iff]
        exact fun z => apart (by intro q; cases q) hc ((mm c).mp z)
theorem cellsBy_nodup {wide high rows left : Nat} {l : LE} (h : LOk wide high rows left l) (k : Piece) : (cellsBy k l).Nodup := by
  unfold cellsBy
  exact h.nodup.sublist (List.Sublist.map _ List.filter_sublist)
/-- what may stand, as the program asks it -/
theorem stand_eq {f : RF} {pe pw : Int → Bool} {r : Rules} (R : RuR f pe pw r) {k : Piece} {c : Nat} (hk : k ≠ .none) (hc : r.isCell c = true) : standB f.seat pe pw (pieceByte k) (c : Int) = mayStand k (r.kindAt c) := by
  have e1 : pw (c : Int) = (r.kindAt c == .wall) := by rw [Bool.eq_iff_iff, R.pw c hc, beq_iff_eq]
  have e2 : pe (c : Int) = (r.kindAt c == .exit) := by
    rw [Bool.eq_iff_iff, R.pe, beq_iff_eq]
    exact ⟨fun ⟨d, a, b⟩ => by rw [Int.ofNat_inj.mp a]; exact b, fun b => ⟨c, rfl, b⟩⟩
  have e3 : decide ((c : Int) ≠ f.seat) = !(r.kindAt c == .seat) := by
    have := R.seat c
    rw [Bool.eq_iff_iff, decide_eq_true_iff, Bool.not_eq_true', beq_eq_false_iff_ne]
    exact ⟨fun h z => h (this.mpr z).symm, fun h z => h (this.mp z.symm)⟩
  unfold standB
  rw [e1, e2, e3]
  cases k <;> cases r.kindAt c <;> first | rfl | exact absurd rfl hk
end TfP

set_option maxRecDepth 100000
set_option maxHeartbeats 1000000
/-! # Positions -/
namespace Tf
open PySem PySem.Spec PyProof.Rows L2 TfP
structure PF where
  hl : Addr
  ml : Addr
  pc : Addr
  hs : List Nat
  ms : List Nat
  king : Int
  turn : Nat
def poF (f : PF) : List (Str × V) := [("hunters", .ref f.hl), ("men", .ref f.ml), ("king", .int f.king), ("turn", .int (f.turn : Nat)), ("pieces", .ref f.pc)]
theorem po_hunters (f : PF) : (poF f).lookup ("hunters" : Str) = some (.ref f.hl) := by kernel_rfl
theorem po_men (f : PF) : (poF f).lookup ("men" : Str) = some (.ref f.ml) := by kernel_rfl
theorem po_king (f : PF) : (poF f).lookup ("king" : Str) = some (.int f.king) := by kernel_rfl
theorem po_turn (f : PF) : (poF f).lookup ("turn" : Str) = some (.int (f.turn : Nat)) := by kernel_rfl
theorem po_pieces (f : PF) : (poF f).lookup ("pieces" : Str) = some (.ref f.pc) := by kernel_rfl
theorem po_m_has_piece (f : PF) : (poF f).lookup ("has_piece" : Str) = none := by kernel_rfl
def pieceB (f : PF) (i : Int) : Bool := decide (i = f.king) || (f.hs.any fun c => decide ((c : Int) = i)) || (f.ms.any fun c => decide ((c : Int) = i))
section
variable (A : Adr)
structure PoAt (H : Hp) (a : Addr) (f : PF) : Prop where
  obj : ∃ dx, H a = some (.ins A.c_Position dx (poF f))
  hl : H f.hl = some (.lst (f.hs.map natV))
  ml : H f.ml = some (.lst (f.ms.map natV))
  pc : ∃ kvs, H f.pc = some (.dK kvs) ∧ ∀ i, (valV kvs (.inl i)).isSome = pieceB f i
  hfew : f.hs.length ≤ 200
  mfew : f.ms.length ≤ 200
end
section
variable {P : Program} {w : World} {K : PySem.W.Frag} {mg : Str → Option Value} {base : Heap} {A : Adr}
theorem PoAt.same {H H' : Hp} {a : Addr} {f : PF} (h : PoAt A H a f) (s : Same H H') : PoAt A H' a f := by
  obtain ⟨⟨dx, h1⟩, h2, h3, ⟨kvs, h4, h5⟩, h6, h7⟩ := h
  exact ⟨⟨dx, s _ _ h1⟩, s _ _ h2, s _ _ h3, ⟨kvs, s _ _ h4, h5⟩, h6, h7⟩
def sp_has_piece (A : Adr) : Sp := fun vs H Q _ => ∃ a f, ∃ i : Int, vs = [.ref a, .int i] ∧ PoAt A H a f ∧ Q (.bl (pieceB f i)) H
theorem ok_Position_has_piece (T : Txt K mg A) : FnOk P w K mg base CX0 1 A.f_Position_has_piece A.d_Position_has_piece ["self", "cell"] (sp_has_piece A) := by
  refine T.F_Position_has_piece.ok sc_Position_has_piece (fun vs H Q E h => ?_) (fun cdv B outer s H vs Q E hr h => ?_)
  · obtain ⟨a, f, i, rfl, _⟩ := h
    rfl
  · obtain ⟨a, f, i, rfl, Z, q⟩ := h
    obtain ⟨dx, ho⟩ := Z.obj
    obtain ⟨kvs, hk, hp⟩ := Z.pc
    refine ⟨_, (pss_one (ps_ret (pe_cmp (pc_din (hu_of hr) (pv 1) (pe_fld (pv 0) rfl)) rfl))), ?_⟩
    refine ⟨_, rfl, _, rfl, a, A.c_Position, dx, _, _, rfl, ho, T.cl_Position, T.n_Position_pieces, po_pieces _, _, _, rfl, DGet.k (k := .inl i) hk, ?_⟩
    rw [hp]
    exact q
def cellV (i : Int) : List V := [.int i, .bl true]
theorem merge_isSome (i : Int) : ∀ (l : List Int) (acc : List (Key × V)), (valV (mergeK acc (l.map fun c => ((.inl c : Key), V.bl true))) (.inl i)).isSome = ((valV acc (.inl i)).isSome || decide (i ∈ l))
  | [], acc => by
    show (valV acc (.inl i)).isSome = _
    rw [decide_eq_false (by simp), Bool.or_false]
  | c :: l, acc => by
    show (valV (mergeK (putK acc (.inl c) (.bl true)) (l.map fun c => ((.inl c : Key), V.bl true))) (.inl i)).isSome = _
    rw [merge_isSome i l, valV_put]
    by_cases h : i = c
    · subst h
      rw [if_pos rfl, decide_eq_true (show i ∈ i :: l from List.mem_cons_self)]
      simp
    · rw [if_neg (fun z => h (Sum.inl.inj z))]
      congr 1
      rw [Bool.eq_iff_iff, decide_eq_true_iff, decide_eq_true_iff, List.mem_cons]
      exact ⟨.inr, fun z => z.resolve_left h⟩
theorem paired_map {α β γ : Type} {R : α → β → Prop} {R' : α → γ → Prop} {g : β → γ} (h : ∀ a b, R a b → R' a (g b)) {ps : List α} {cs : List β} (p : Paired R ps cs) : Paired R' ps (cs.map g) := by
  induction p with
  | nil => exact .nil
  | cons c _ ih => exact .cons (h _ _ c) ih
def sp_Position_init (A : Adr) : Sp := fun vs H Q _ => ∃ p dx hl ml hs ms king, ∃ turn : Nat, vs = [.ref p, .ref hl, .ref ml, .int king, .int (turn : Int)] ∧ H p = some (.ins A.c_Position dx []) ∧ H hl = some (.lst (hs.map natV)) ∧ H ml = some (.lst (ms.map natV)) ∧ hs.length ≤ 200 ∧ ms.length ≤ 200 ∧
  ∀ pc H', PoAt A H' p ⟨hl, ml, pc, hs, ms, king, turn⟩ → Kp (· = p) H H' → Q .non H'
theorem ok_Position___init__ (T : Txt K mg A) : FnOk P w K mg base CX0 1 A.f_Position___init__ A.d_Position___init__ ["self", "hunters", "men", "king", "turn"] (sp_Position_init A) := by
  refine T.F_Position___init__.ok sc_Position___init__ (fun vs H Q E h => ?_) (fun cdv B outer s H vs Q E hr h => ?_)
  · obtain ⟨p, dx, hl, ml, hs, ms, king, turn, rfl, _⟩ := h
    rfl
  · obtain ⟨p, dx, hl, ml, hs, ms, king, turn, rfl, hp, hhl, hml, hf, mf, q⟩ := h
    refine ⟨_, (pss_cons (ps_fld (pv 0) (pv 1) rfl)
  (pss_cons (ps_fld (pv 0) (pv 2) rfl)
  (pss_cons (ps_fld (pv 0) (pv 3) rfl)
  (pss_cons (ps_fld (pv 0) (pv 4) rfl)
  (pss_one (ps_fld (pv 0) (pe_callTy (call_dictP rfl) (by rfl) T.n_dict (by decide +kernel) (pa_cons (pe_lc (own := [("cell", 5)]) rfl sc_Position___init__.nd (pi_list (pe_op op_cat (pe_op op_cat (pv 1) (pv 2)) (pe_lst (pa_cons (pv 3) pa_nil)))) (blkOk_by (N := ["self", "hunters", "men", "king", "turn", "cell"]) (sc := defScope s_Position___init__) (own := [("cell", 5)]) (by decide +kernel)) (fun _ _ _ _ _ => (pg_name (i := 5) sc_Position___init__.nd rfl (by first | exact .inl rfl | exact .inr rfl))) (fun _ _ _ _ _ => pts_nil) (fun _ _ _ _ _ => (pe_tup (pa_cons (pv 5) (pa_cons pe_bl pa_nil))))) pa_nil)) rfl)))))), ?_⟩
    have l0 : ([] : List (Str × V)).length < 1 := by decide
    refine ⟨_, rfl, _, rfl, p, _, dx, _, rfl, hp, T.cl_Position, T.n_Position_hunters, pl9 l0, ?_⟩
    have l1 := pl (g := "hunters") (v := .ref hl) l0
    refine ⟨_, rfl, _, rfl, p, _, dx, _, rfl, upd_same, T.cl_Position, T.n_Position_men, pl9 l1, ?_⟩
    rw [upd_upd]
    have l2 := pl (g := "men") (v := .ref ml) l1
    refine ⟨_, rfl, _, rfl, p, _, dx, _, rfl, upd_same, T.cl_Position, T.n_Position_king, pl9 l2, ?_⟩
    rw [upd_upd]
    have l3 := pl (g := "king") (v := .int king) l2
    refine ⟨_, rfl, _, rfl, p, _, dx, _, rfl, upd_same, T.cl_Position, T.n_Position_turn, pl9 l3, ?_⟩
    rw [upd_upd]
    have l4 := pl (g := "turn") (v := .int (turn : Nat)) l3
    generalize hG : putF "turn" (.int (turn : Nat)) (putF "king" (.int king) (putF "men" (.ref ml) (putF "hunters" (.ref hl) []))) = G at l4 ⊢
    have k1 : Kp (· = p) H (upd H p (.ins A.c_Position dx G)) := Kp.upd rfl
    have o1 : (upd H p (.ins A.c_Position dx G)) p = some (.ins A.c_Position dx G) := upd_same
    have nh : hl ≠ p := ne_of hhl hp (by intro z; cases z)
    have nm : ml ≠ p := ne_of hml hp (by intro z; cases z)
    generalize upd H p (.ins A.c_Position dx G) = H1 at k1 o1 ⊢
    have h1 := k1.keep _ _ hhl nh
    have m1 := k1.keep _ _ hml nm
    -- hunters + men + [king]
    refine ⟨_, rfl, _, rfl, hl, ml, _, _, rfl, rfl, h1, m1, smallE (by rw [List.length_map, List.length_map]; omega), fun p2 n2 => ?_⟩
    have s2 := same_new (o := .lst (hs.map natV ++ ms.map natV)) n2
    have l2' : (upd H1 p2 (.lst (hs.map natV ++ ms.map natV))) p2 = some (.lst (hs.map natV ++ ms.map natV)) := upd_same
    generalize upd H1 p2 (.lst (hs.map natV ++ ms.map natV)) = H2 at s2 l2' ⊢
    refine ⟨_, rfl, (by show 1 ≤ sizeLine; exact smallE (by decide)), fun p3 n3 => ?_⟩
    have s3 := same_new (o := .lst [.int king]) n3
    refine ⟨p2, p3, _, _, rfl, rfl, s3 _ _ l2', upd_same, smallE (by rw [List.length_append, List.length_map, List.length_map]; show _ + 1 ≤ _; omega), fun p4 n4 => ?_⟩
    have s4 := s3.trans (same_new (o := .lst (hs.map natV ++ ms.map natV ++ [.int king])) n4)
    obtain ⟨cs, hcs⟩ : ∃ cs : List Int, hs.map (fun (c : Nat) => (c : Int)) ++ ms.map (fun (c : Nat) => (c : Int)) ++ [king] = cs := ⟨_, rfl⟩
    have ecs : hs.map natV ++ ms.map natV ++ [V.int king] = cs.map V.int := by
      rw [← hcs, List.map_append, List.map_append, List.map_map, List.map_map]
      rfl
    have lcs : cs.length ≤ 500 := by
      rw [← hcs, List.length_append, List.length_append, List.length_map, List.length_map]
      show _ + 1 ≤ _
      omega
    have l4' : (upd (upd H2 p3 (.lst [.int king])) p4 (.lst (hs.map natV ++ ms.map natV ++ [.int king]))) p4 = some (.lst (hs.map natV ++ ms.map natV ++ [.int king])) := upd_same
    rw [ecs] at l4' s4 ⊢
    generalize upd (upd H2 p3 (.lst [.int king])) p4 (.lst (cs.map V.int)) = H4 at s4 l4' ⊢
    refine ⟨p4, rfl, ⟨_, SqL.of l4'⟩, fun D nD => lcV (wv_list (xs := cs.map V.int)) (fun i H' => Same H4 H' ∧ ∃ ys, H' D = some (.lst ys) ∧ TupsAt K cellV H' ys (cs.take i)) ⟨same_new nD, [], upd_same, TupsAt.nil⟩ (fun i H' hP => SqL.of (hP.1 _ _ l4')) (fun i x H' hx hP => ?_) (fun H' hP => ?_)⟩
    · obtain ⟨s5, ys, hD, ht⟩ := hP
      obtain ⟨c, hc, rfl⟩ : ∃ c, cs[i]? = some c ∧ x = V.int c := by
        rw [List.getElem?_map] at hx
        cases e : cs[i]? with
        | none => rw [e] at hx; cases hx
        | some c => rw [e] at hx; exact ⟨c, rfl, (Option.some.inj hx).symm⟩
      refine ⟨rfl, ?_⟩
      refine ⟨_, rfl, (by show 2 ≤ sizeLine; exact smallE (by omega)), fun a na => ?_⟩
      have hD' := (same_new (o := .tup [.int c, .bl true]) na) _ _ hD
      refine ⟨ys, hD', small (by rw [ht.1]; exact Nat.le_trans (List.length_take_le' _ _) (by omega)), same_put (s5.trans (same_new na)) nD, _, upd_same, ?_⟩
      rw [take_more hc]
      exact ((ht.same (same_new na)).snoc (p := a) (.inl (.inl upd_same))).keep (p := (· = D)) (Kp.upd rfl) (nt_lst hD')
    · obtain ⟨s5, ys, hD, ht⟩ := hP
      rw [List.length_map, List.take_length] at ht
      obtain ⟨ps, eps, hps⟩ := ht.refs
      refine ⟨D, ps, cs.map fun c => ((.inl c : Key), V.bl true), rfl, by rw [← eps]; exact SqL.of hD, paired_map (g := fun (c : Int) => ((.inl c : Key), V.bl true)) (fun _ _ h => h) hps, fun p5 n5 => ?_⟩
      have s6 := s5.trans (same_new (o := .dK (mergeK [] (cs.map fun c => ((.inl c : Key), V.bl true)))) n5)
      have o6 := s6 _ _ (s4 _ _ (s2 _ _ o1))
      refine ⟨_, rfl, p, _, dx, _, rfl, o6, T.cl_Position, T.n_Position_pieces, pl9 l4, ?_⟩
      have np5 : p5 ≠ p := fun z => by
        rw [z] at n5
        rw [s5 _ _ (s4 _ _ (s2 _ _ o1))] at n5
        cases n5
      have e : putF "pieces" (.ref p5) G = poF ⟨hl, ml, p5, hs, ms, king, turn⟩ := by rw [← hG]; kernel_rfl
      rw [e]
      refine q p5 _ ⟨⟨dx, upd_same⟩, (upd_ne nh).trans (s6 _ _ (s4 _ _ (s2 _ _ h1))), (upd_ne nm).trans (s6 _ _ (s4 _ _ (s2 _ _ m1))), ⟨_, (upd_ne np5).trans upd_same, fun i => ?_⟩, hf, mf⟩ (((k1.trans (Kp.of s2)).trans (Kp.of (s4.trans s6))).trans (Kp.upd rfl))
      rw [merge_isSome]
      show (false || _) = _
      rw [Bool.false_or, ← hcs]
      unfold pieceB
      rw [Bool.eq_iff_iff, Bool.or_eq_true, Bool.or_eq_true, decide_eq_true_iff, decide_eq_true_iff, List.any_eq_true, List.any_eq_true, List.mem_append, List.mem_append, List.mem_singleton, List.mem_map, List.mem_map]
      constructor
      · rintro ((⟨c, hc, rfl⟩ | ⟨c, hc, rfl⟩) | h)
        · exact .inl (.inr ⟨c, hc, decide_eq_true rfl⟩)
        · exact .inr ⟨c, hc, decide_eq_true rfl⟩
        · exact .inl (.inl h)
      · rintro ((h | ⟨c, hc, h⟩) | ⟨c, hc, h⟩)
        · exact .inr h
        · exact .inl (.inl ⟨c, hc, of_decide_eq_true h⟩)
        · exact .inl (.inr ⟨c, hc, of_decide_eq_true h⟩)
end
end Tf

set_option maxRecDepth 100000
set_option maxHeartbeats 1000000
/-! # The position of a line -/
namespace Tf
open PySem PySem.Spec PyProof.Rows L2 TfP
theorem find_first {α : Type} {p : α → Bool} : ∀ {l : List α} {i : Nat} {x : α}, (∀ y ∈ l.take i, p y = false) → l[i]? = some x → p x = true → l.find? p = some x
  | [], i, x, _, h, _ => by cases h
  | a :: l, 0, x, _, h, hp => by cases h; exact List.find?_cons_of_pos hp
  | a :: l, i + 1, x, ha, h, hp => by
    rw [List.find?_cons_of_neg (by rw [ha a (by simp)]; exact Bool.false_ne_true)]
    exact find_first (fun y hy => ha y (by rw [List.take_succ_cons]; exact List.mem_cons_of_mem _ hy)) h hp
def sgnV (u : UInt8 × Addr) : List V := [.str ⟨#[u.1.toNat]⟩, .ref u.2]
def byteCells (b : UInt8) (l : LE) : List Nat := ((l.map leV).filter fun g => g.1 == b).map fun g => g.2.1
structure PoR (f : PF) (p : Tafl.Pos) (r : Tafl.Rules) : Prop where
  hN : f.hs.Nodup
  mN : f.ms.Nodup
  h : ∀ c, c ∈ f.hs ↔ p.hunters.testBit c = true
  m : ∀ c, c ∈ f.ms ↔ p.men.testBit c = true
  king : f.king = kingI p
  turn : f.turn = p.side
  ok : PosOk r p
section
variable {P : Program} {w : World} {K : PySem.W.Frag} {mg : Str → Option Value} {base : Heap} {A : Adr}
def sp_read_position (K : PySem.W.Frag) (A : Adr) : Sp := fun vs H Q E => ∃ ra f pe pw r t bs, vs = [.ref ra, .ref t] ∧ RuAt A H ra f pe pw ∧ TfP.RuR f pe pw r ∧ SqL K H t (bV bs) ∧ bs.length ≤ 30000 ∧
  (∀ p, r.readLine bs = .ok p → ∀ a po H', PoAt A H' a po → PoR po p r → Same H H' → Q (.ref a) H') ∧ (∀ k p, r.readLine bs = .error (k, p) → EF A (fun _ => False) H E k p)
theorem ok_read_position (T : Txt K mg A) : FnOk P w K mg base (L2N.CX P w) 8 A.f_read_position A.d_read_position ["rules", "text"] (sp_read_position K A) := by
  refine okG T.F_read_position sc_read_position (fun vs H Q E h => ?_) (fun cdv B outer s H vs Q E hr h => ?_)
  · obtain ⟨ra, f, pe, pw, r, t, bs, rfl, _⟩ := h
    rfl
  · obtain ⟨ra, f, pe, pw, r, t, bs, rfl, ZR, RR, ht, few, qT, qF⟩ := h
    refine ⟨_, (pss_cons (ps_set (i := 2) sc_read_position.nd rfl (by first | exact .inl rfl | exact .inr rfl) (pe_make T.mk_LineReader (ok_LineReader___init__ T) (hr.mono (by decide)) rfl T.g_LineReader T.b_LineReader___init__ .nil pass0 (pa_cons (pv 1) pa_nil)))
  (pss_cons (ps_set (i := 3) sc_read_position.nd rfl (by first | exact .inl rfl | exact .inr rfl) (pe_meth (pv 2) T.cl_LineReader T.m_LineReader_line (ok_LineReader_line T) (hr.mono (by decide)) T.b_LineReader_line .nil (pxN (L2N.takes_of rfl rfl rfl rfl)) (pa_cons (pv 0) pa_nil)))
  (pss_cons (ps_for (L2.passes_of rfl) rfl (pi_list (pe_fld (pv 2) rfl)) (pg_tup rfl (pgs_cons (pg_name (i := 4) sc_read_position.nd rfl (by first | exact .inl rfl | exact .inr rfl)) (pgs_cons (pg_name (i := 5) sc_read_position.nd rfl (by first | exact .inl rfl | exact .inr rfl)) (pgs_cons (pg_name (i := 6) sc_read_position.nd rfl (by first | exact .inl rfl | exact .inr rfl)) pgs_nil))))
  (pss_one (ps_if (pt_not (pt_val (pe_meth (pv 0) T.cl_Rules T.m_Rules_may_stand (ok_Rules_may_stand T) (hr.mono (by decide)) T.b_Rules_may_stand .nil pass0 (pa_cons (pv 4) (pa_cons (pv 5) pa_nil))))) (pss_one (L2N.ps_raise rfl (L2N.takes_of rfl rfl rfl rfl) (pmkN T.ox_Fault T.i_Fault T.ti_Fault (ok_Fault___init__ T) (hr.mono (by decide)) T.b_Fault___init__ passF (by rfl) T.g_Fault (pa_cons (pe_gi T.g_WRONG_PIECE_positions) (pa_cons (pv 6) pa_nil))))) pss_nil)))
  (pss_cons (ps_set (i := 7) sc_read_position.nd rfl (by first | exact .inl rfl | exact .inr rfl) (pe_callTy (call_dictP rfl) (by rfl) T.n_dict (by decide +kernel) (pa_cons (pe_lc (own := [("sign", 4)]) rfl sc_read_position.nd (pi_str pe_str) (blkOk_by (N := ["rules", "text", "reader", "turn", "sign", "cell", "place", "cells", "own"]) (sc := defScope s_read_position) (own := [("sign", 4)]) (by decide +kernel)) (fun _ _ _ _ _ => (pg_name (i := 4) sc_read_position.nd rfl (by first | exact .inl rfl | exact .inr rfl))) (fun _ _ _ _ _ => pts_nil) (fun _ _ _ _ _ => (pe_tup (pa_cons (pv 4) (pa_cons (pe_lc (own := [("own", 8), ("cell", 5), ("place", 6)]) rfl sc_read_position.nd (pi_listK K (pe_fldK K (pv 2) rfl)) (blkOk_by (N := ["rules", "text", "reader", "turn", "sign", "cell", "place", "cells", "own"]) (sc := _) (own := [("own", 8), ("cell", 5), ("place", 6)]) (by kernel_rfl)) (fun _ _ _ _ _ => (pg_tupK K (n := 3) rfl (pgs_cons (pg_name (i := 8) sc_read_position.nd rfl (by first | exact .inl rfl | exact .inr rfl)) (pgs_cons (pg_name (i := 5) sc_read_position.nd rfl (by first | exact .inl rfl | exact .inr rfl)) (pgs_cons (pg_name (i := 6) sc_read_position.nd rfl (by first | exact .inl rfl | exact .inr rfl)) pgs_nil))))) (fun _ _ _ _ _ => (pts_one (pt_cmpR op_eq (pv 8) (pv 4) (nomark _)))) (fun _ _ _ _ _ => (pv 5))) pa_nil))))) pa_nil)))
  (pss_one (ps_ret (pe_make T.mk_Position (ok_Position___init__ T) (hr.mono (by decide)) rfl T.g_Position T.b_Position___init__ .nil pass0 (pa_cons (pe_dget (hu_of hr) (pv 7) pe_str (fun _ _ => rfl)) (pa_cons (pe_dget (hu_of hr) (pv 7) pe_str (fun _ _ => rfl)) (pa_cons (pe_ix ix_list (pe_op op_cat (pe_dget (hu_of hr) (pv 7) pe_str (fun _ _ => rfl)) (pe_lst (pa_cons (pe_gi T.g_NO_KING) pa_nil))) pe_int (fun _ _ => rfl)) (pa_cons (pv 3) pa_nil))))))))))), ?_⟩
    refine ⟨_, rfl, fun a da na nda nad => ⟨a, da, t, rfl, upd_same, fun sl H1 nsl hsl o1 k1 => ⟨rfl, ?_⟩⟩⟩
    have S1 : Same H H1 := Kp.noneSame (p := (· = a)) (((Kp.new nda).trans (Kp.new (by rw [upd_ne (Ne.symm nad)]; exact na))).trans k1) fun b hb => by rw [hb]; exact na
    have nsl0 : H sl = none := (Kp.new (p := (· = a)) (o := .own a) nda).dom sl ((Kp.upd (p := (· = a)) rfl).dom sl nsl)
    have L1 : LnAt K A H1 a t bs sl 0 [] := ⟨⟨⟨da, o1⟩, T.rd_LineReader, S1.seq ht, .inr ⟨_, rfl⟩, few, Nat.zero_le _⟩, ⟨[], hsl, TupsAt.nil⟩, SqL.apart ht nsl0⟩
    obtain ⟨dr, hra⟩ := ZR.obj
    have nra : ra ≠ a := ne_of_none hra na
    have W := RR.wf
    have fw := RR.wide
    have fh := RR.high
    have W5 := W.w5
    have W13 := W.w13
    have H5 := W.h5
    have H13 := W.h13
    have hq : ∀ b, (b = a ∨ b = sl) → H b = none := fun b hb => by rcases hb with rfl | rfl <;> assumption
    refine ⟨_, rfl, a, da, _, rfl, o1, rdF_none (.inr ⟨_, rfl⟩), _, rfl, a, t, bs, sl, ra, dr, f, rfl, L1, S1 _ _ hra, nra, by omega, by omega, by omega, by omega, fun l side H2 n2 eA hs1 len2 k2 L2 => ?_, fun p eA => ?_⟩
    · rw [fw, fh] at eA
      obtain ⟨_, rows, left, ok⟩ := readAll_inv W13 (by omega) eA
      have eL := readLine_eq r bs
      rw [eA] at eL
      have eL : r.readLine bs = (match l.find? fun x => !Tafl.mayStand x.1 (r.kindAt x.2.1) with
          | some x => .error (2, x.2.2)
          | none => .ok (posOf l side)) := eL
      have S2 : Same H H2 := (show Kp (fun b => b = a ∨ b = sl) H H2 from (Kp.of S1).trans k2).noneSame hq
      obtain ⟨da2, o2⟩ := L2.rd.obj
      obtain ⟨xs, hl2, ht2⟩ := L2.xs
      refine ⟨_, rfl, a, A.c_LineReader, da2, _, _, rfl, o2, T.cl_LineReader, T.n_LineReader_stood, rdF_stood _ _ _, sl, rfl, ⟨_, SqL.of hl2⟩, forS (wv_list (xs := xs)) (fun i σ H' => ∃ v4 v5 v6 v7 v8, σ = [some (.ref ra), some (.ref t), some (.ref a), some (.int (side : Int)), v4, v5, v6, v7, v8] ∧ H' = H2 ∧ ∀ x ∈ l.take i, (!Tafl.mayStand x.1 (r.kindAt x.2.1)) = false)
        ⟨none, none, none, none, none, rfl, rfl, fun x hx => by cases hx⟩ (fun i σ H' hP => ?_) (fun i x σ H' hx hP => ?_) (fun σ H2 hP => ?_)⟩
      · obtain ⟨_, _, _, _, _, _, rfl, _⟩ := hP
        exact SqL.of hl2
      · obtain ⟨v4, v5, v6, v7, v8, rfl, rfl, hall⟩ := hP
        obtain ⟨g, p, hg, rfl, hp⟩ := ht2.get hx
        obtain ⟨u, hu, rfl⟩ : ∃ u, l[i]? = some u ∧ g = leV u := by
          rw [List.getElem?_map] at hg
          cases e : l[i]? with
          | none => rw [e] at hg; cases hg
          | some u => rw [e] at hg; exact ⟨u, rfl, (Option.some.inj hg).symm⟩
        have hum := List.mem_of_getElem? hu
        have hst := stand_eq RR (ok.some u hum).1 (ok.cell W hum)
        refine ⟨p, _, rfl, hp, rfl, _, _, rfl, _, _, rfl, _, _, rfl, rfl, ?_⟩
        refine ⟨_, rfl, ra, dr, _, rfl, S2 _ _ hra, ru_m_may_stand f, _, rfl, _, rfl, ra, f, pe, pw, u.2.1, Tafl.pieceByte u.1, rfl, ZR.same S2, _, rfl, ?_⟩
        rw [hst]
        by_cases hm : Tafl.mayStand u.1 (r.kindAt u.2.1) = true
        · refine if_f (by rw [hm]; rfl) ⟨_, _, _, _, _, rfl, rfl, fun y hy => ?_⟩
          rw [take_more hu] at hy
          rcases List.mem_append.mp hy with hy | hy
          · exact hall y hy
          · rw [List.mem_singleton.mp hy, hm]; rfl
        · have hm := Bool.eq_false_iff.mpr hm
          refine if_t (by rw [hm]; rfl) ?_
          refine ⟨_, rfl, ?_⟩
          have ef : (l.find? fun x => !Tafl.mayStand x.1 (r.kindAt x.2.1)) = some u := find_first hall hu (by rw [hm]; rfl)
          rw [ef] at eL
          exact fault_up ((qF 2 u.2.2 eL).new (q := fun _ => False) S2 (fun _ z => z.elim)).fault
      · obtain ⟨v4, v5, v6, v7, v8, rfl, rfl, hall⟩ := hP
        rw [ht2.1, List.length_map, List.take_length] at hall
        have ef : (l.find? fun x => !Tafl.mayStand x.1 (r.kindAt x.2.1)) = none := List.find?_eq_none.mpr fun x hx z => by rw [hall x hx] at z; cases z
        rw [ef] at eL
        have qT := qT _ eL
        have ehm : Str.ofString "hmK" = ⟨[104, 109, 75].toArray⟩ := by decide +kernel
        rw [ehm]
        refine ⟨_, rfl, fun D nD => lcV (wv_str (cs := [104, 109, 75])) (fun i H' => Same H2 H' ∧ ∃ ys rs, H' D = some (.lst ys) ∧ TupsAt K sgnV H' ys rs ∧ rs.map (fun u => u.1) = ([104, 109, 75] : List UInt8).take i ∧ ∀ u ∈ rs, u.2 ≠ D ∧ H' u.2 = some (.lst ((byteCells u.1 l).map natV)))
          ⟨same_new nD, [], [], upd_same, TupsAt.nil, rfl, fun u hu => by cases hu⟩ (fun _ _ _ => trivial) (fun i x H' hx hP => ?_) (fun H' hP => ?_)⟩
        · obtain ⟨s3, ys, rs, hD, htu, hrs, hall2⟩ := hP
          obtain ⟨b, hb, rfl⟩ : ∃ b : UInt8, ([104, 109, 75] : List UInt8)[i]? = some b ∧ x = .str ⟨#[b.toNat]⟩ := by
            have e : ([104, 109, 75] : List Nat) = ([104, 109, 75] : List UInt8).map UInt8.toNat := rfl
            rw [e, List.map_map, List.getElem?_map] at hx
            cases e2 : ([104, 109, 75] : List UInt8)[i]? with
            | none => rw [e2] at hx; cases hx
            | some b => rw [e2] at hx; exact ⟨b, rfl, (Option.some.inj hx).symm⟩
          have hl3 := s3 _ _ hl2
          have ht3 := ht2.same s3
          have o3 := s3 _ _ o2
          refine ⟨rfl, ?_⟩
          refine ⟨_, rfl, _, rfl, a, A.c_LineReader, da2, _, _, rfl, o3, T.cl_LineReader, T.n_LineReader_stood, rdF_stood _ _ _, sl, rfl, ⟨_, SqL.of hl3⟩, fun D2 nD2 => lcR (wv_list (xs := xs)) nD2 (fun H4 s4 => s4.seq (SqL.of hl3)) (l.map leV) ht3.1 (fun g => if (g.1 == b) = true then [natV g.2.1] else []) (fun j y g zs H4 Nx hy hg s4 d4 lt hN hN0 => ?_) ?_ fun H4 s4 d4 => ?_⟩
          · obtain ⟨p, rfl, hp⟩ := ht3.2 j y g hy hg
            refine ⟨p, _, rfl, Same.sqT s4 hp, rfl, _, _, rfl, _, _, rfl, _, _, rfl, rfl, rfl, _, rfl, _, rfl, rfl, _, rfl, ?_⟩
            by_cases hb2 : (g.1 == b) = true
            · exact if_t ((signV _ _).trans hb2) ⟨_, rfl, zs, d4, lt, hN _ _ (if_pos hb2) (same_put s4 nD2) upd_same⟩
            · exact if_f ((signV _ _).trans (Bool.eq_false_iff.mpr hb2)) (hN0 _ (if_neg hb2) s4 d4)
          · rw [flat_if]
            exact small (by rw [List.length_map]; exact Nat.le_trans (List.length_filter_le _ _) (by rw [List.length_map]; omega))
          · rw [flat_if] at d4
            refine ⟨(by show 2 ≤ sizeLine; exact smallE (by decide)), fun p np => ?_⟩
            have s5 := s4.trans (same_new (o := .tup [.str ⟨#[b.toNat]⟩, .ref D2]) np)
            have hD5 := s5 _ _ hD
            have n2D : D2 ≠ D := Ne.symm (ne_of_none hD nD2)
            refine ⟨ys, hD5, small (by rw [htu.1]; have := congrArg List.length hrs; rw [List.length_map, List.length_take] at this; rw [this]; exact Nat.le_trans (Nat.min_le_right _ _) (by decide)), same_put (s3.trans s5) nD, _, rs ++ [(b, D2)], upd_same, ?_, ?_, fun u hu => ?_⟩
            · exact ((htu.same s5).snoc (p := p) (r := (b, D2)) (.inl (.inl upd_same))).keep (p := (· = D)) (Kp.upd rfl) (nt_lst hD5)
            · rw [List.map_append, hrs, take_more hb]
              rfl
            · rcases List.mem_append.mp hu with hu | hu
              · obtain ⟨h5, h6⟩ := hall2 u hu
                exact ⟨h5, (upd_ne h5).trans (s5 _ _ h6)⟩
              · cases List.mem_singleton.mp hu
                exact ⟨n2D, (upd_ne n2D).trans ((same_new (o := .tup [.str ⟨#[b.toNat]⟩, .ref D2]) np) _ _ (by rw [d4]; unfold byteCells; rw [List.map_map]; rfl))⟩
        · obtain ⟨s3, ys, rs, hD, htu, hrs, hall2⟩ := hP
          have hrs : rs.map (fun u => u.1) = [104, 109, 75] := hrs
          obtain ⟨q1, q2, q3, rfl⟩ : ∃ q1 q2 q3, rs = [(104, q1), (109, q2), (75, q3)] := by
            match rs, hrs with
            | [(b1, q1), (b2, q2), (b3, q3)], h =>
              have h' : [b1, b2, b3] = [104, 109, 75] := h
              cases h'
              exact ⟨q1, q2, q3, rfl⟩
          have g1 : H' q1 = some (.lst ((byteCells 104 l).map natV)) := (hall2 (104, q1) (by simp)).2
          have g2 : H' q2 = some (.lst ((byteCells 109 l).map natV)) := (hall2 (109, q2) (by simp)).2
          have g3 : H' q3 = some (.lst ((byteCells 75 l).map natV)) := (hall2 (75, q3) (by simp)).2
          obtain ⟨ps, eps, hps⟩ := htu.refs
          refine ⟨D, ps, [(.inr ⟨#[104]⟩, .ref q1), (.inr ⟨#[109]⟩, .ref q2), (.inr ⟨#[75]⟩, .ref q3)], rfl, by rw [← eps]; exact SqL.of hD, (show Paired _ ps ([((104 : UInt8), q1), (109, q2), (75, q3)].map fun u => ((.inr ⟨#[u.1.toNat]⟩ : Key), V.ref u.2)) from paired_map (g := fun (u : UInt8 × Addr) => ((.inr ⟨#[u.1.toNat]⟩ : Key), V.ref u.2)) (fun _ _ h => h) hps), fun d nd => ?_⟩
          have s6 := s3.trans (same_new (o := .dK (mergeK [] [((.inr ⟨#[104]⟩ : Key), V.ref q1), (.inr ⟨#[109]⟩, .ref q2), (.inr ⟨#[75]⟩, .ref q3)])) nd)
          have hd : (upd H' d (.dK (mergeK [] [((.inr ⟨#[104]⟩ : Key), V.ref q1), (.inr ⟨#[109]⟩, .ref q2), (.inr ⟨#[75]⟩, .ref q3)]))) d = some (.dK (mergeK [] [((.inr ⟨#[104]⟩ : Key), V.ref q1), (.inr ⟨#[109]⟩, .ref q2), (.inr ⟨#[75]⟩, .ref q3)])) := upd_same
          have sd := same_new (o := .dK (mergeK [] [((.inr ⟨#[104]⟩ : Key), V.ref q1), (.inr ⟨#[109]⟩, .ref q2), (.inr ⟨#[75]⟩, .ref q3)])) nd
          have c1 : valV (mergeK [] [((.inr ⟨#[104]⟩ : Key), V.ref q1), (.inr ⟨#[109]⟩, .ref q2), (.inr ⟨#[75]⟩, .ref q3)]) (.inr "h") = some (.ref q1) := by kernel_rfl
          have c2 : valV (mergeK [] [((.inr ⟨#[104]⟩ : Key), V.ref q1), (.inr ⟨#[109]⟩, .ref q2), (.inr ⟨#[75]⟩, .ref q3)]) (.inr "m") = some (.ref q2) := by kernel_rfl
          have c3 : valV (mergeK [] [((.inr ⟨#[104]⟩ : Key), V.ref q1), (.inr ⟨#[109]⟩, .ref q2), (.inr ⟨#[75]⟩, .ref q3)]) (.inr "K") = some (.ref q3) := by kernel_rfl
          have g1 := sd _ _ g1
          have g2 := sd _ _ g2
          have g3 := sd _ _ g3
          generalize mergeK [] [((.inr ⟨#[104]⟩ : Key), V.ref q1), (.inr ⟨#[109]⟩, .ref q2), (.inr ⟨#[75]⟩, .ref q3)] = kvs at hd c1 c2 c3 s6 sd g1 g2 g3 ⊢
          generalize upd H' d (.dK kvs) = H6 at hd s6 sd g1 g2 g3 ⊢
          have d1 : DGet H6 d (.str "h") (some (.ref q1)) := by have := DGet.k (k := .inr "h") hd; rw [c1] at this; exact this
          have d2 : DGet H6 d (.str "m") (some (.ref q2)) := by have := DGet.k (k := .inr "m") hd; rw [c2] at this; exact this
          have d3 : DGet H6 d (.str "K") (some (.ref q3)) := by have := DGet.k (k := .inr "K") hd; rw [c3] at this; exact this
          have bl : ∀ b, (byteCells b l).length ≤ 200 := fun b => by unfold byteCells; rw [List.length_map]; exact Nat.le_trans (List.length_filter_le _ _) (by rw [List.length_map]; exact len2)
          refine ⟨_, rfl, _, _, rfl, d1, _, rfl, _, _, rfl, d2, _, rfl, _, _, rfl, d3, (by show 1 ≤ sizeLine; exact smallE (by decide)), fun p7 n7 => ?_⟩
          have s7 := same_new (o := .lst [.int (-1)]) n7
          refine ⟨q3, p7, _, _, rfl, rfl, s7 _ _ g3, upd_same, smallE (by rw [List.length_map]; have := bl 75; show _ + 1 ≤ _; omega), fun p8 n8 => ?_⟩
          have s8 := s7.trans (same_new (o := .lst ((byteCells 75 l).map natV ++ [.int (-1)])) n8)
          have eby : ∀ (b : UInt8) (k : Tafl.Piece), Tafl.pieceByte k = b → byteCells b l = cellsBy k l := fun b k hk => by
            unfold byteCells cellsBy
            rw [List.filter_map, List.map_map]
            congr 1
            refine List.filter_congr fun u _ => ?_
            show (Tafl.pieceByte u.1 == b) = _
            rw [← hk]
            exact pieceB_beq _ _
          have hok := posOf_ok W ok hs1
          have hki : ((byteCells 75 l).map natV ++ [V.int (-1)])[0]? = some (.int (kingI (posOf l side))) := by
            rw [eby 75 .king rfl]
            have ek : (posOf l side).king = (cellsBy .king l).head?.getD Tafl.TAKEN := by
              show ((l.find? fun x => x.1 == .king).map fun x => x.2.1).getD Tafl.TAKEN = _
              rw [king_find]
            unfold kingI
            cases hk : cellsBy .king l with
            | nil => rw [hk] at ek; rw [ek]; rfl
            | cons c q =>
              rw [hk] at ek
              have hc : c ∈ cellsBy .king l := by rw [hk]; exact List.mem_cons_self
              obtain ⟨u, hu, _, hu2⟩ := mem_cellsBy.mp hc
              have hcell := ok.cell W hu
              rw [hu2] at hcell
              obtain ⟨h1, h2, h3⟩ := cell_at hcell
              have e255 : Tafl.TAKEN = 255 := rfl
              have ne : ¬ (posOf l side).king = Tafl.TAKEN := by rw [ek]; show ¬ c = Tafl.TAKEN; omega
              rw [if_neg ne, ek]
              rfl
          refine ⟨p8, _, 0, _, rfl, rfl, SqL.of upd_same, atI_nat (j := 0) hki, _, rfl, fun a9 dx9 na9 nd9 ne9 => ?_⟩
          have s9 := s8.trans ((same_new (o := .own a9) nd9).trans (same_new (o := .ins A.c_Position dx9 []) (by rw [upd_ne (Ne.symm ne9)]; exact na9)))
          refine ⟨a9, dx9, q1, q2, byteCells 104 l, byteCells 109 l, _, side, rfl, upd_same, s9 _ _ g1, s9 _ _ g2, bl _, bl _, fun pc H9 PO k9 => ⟨rfl, ?_⟩⟩
          have S9 : Same H6 H9 := Kp.noneSame (p := (· = a9)) ((Kp.of s9).trans k9) fun b hb => by rw [hb]; exact s8.free na9
          refine qT a9 _ H9 PO ⟨?_, ?_, fun c => ?_, fun c => ?_, rfl, rfl, hok⟩ (S2.trans (s6.trans S9))
          · show (byteCells 104 l).Nodup
            rw [eby 104 .hunter rfl]; exact cellsBy_nodup ok _
          · show (byteCells 109 l).Nodup
            rw [eby 109 .man rfl]; exact cellsBy_nodup ok _
          · show c ∈ byteCells 104 l ↔ (Tafl.setFrom (l.filterMap fun x => if x.1 = .hunter then some x.2.1 else none)).testBit c = true
            rw [mem_setFrom, cellsBy_eq, eby 104 .hunter rfl]
          · show c ∈ byteCells 109 l ↔ (Tafl.setFrom (l.filterMap fun x => if x.1 = .man then some x.2.1 else none)).testBit c = true
            rw [mem_setFrom, cellsBy_eq, eby 109 .man rfl]
    · rw [fw, fh] at eA
      have eL := readLine_eq r bs
      rw [eA] at eL
      exact (qF 1 p eL).new S1 hq
end
end Tf

set_option maxRecDepth 100000
set_option maxHeartbeats 1000000
/-! # Steps from cell to cell -/
namespace TfP
open Tafl Tf
def wayX : Nat → Int × Int
  | 0 => (0, 1)
  | 1 => (1, 0)
  | 2 => (0, -1)
  | _ => (-1, 0)
def inB (x y : Int) (w h : Nat) : Bool := decide (0 ≤ x) && decide (x < w) && (decide (0 ≤ y) && decide (y < h))
theorem next_in {r : Rules} {d c : Nat} (hd : d < 4) (hc : r.isCell c = true) :
    (inB ((c : Int) % 13 + (wayX d).1) ((c : Int) / 13 + (wayX d).2) r.wide r.high = true → ∃ n : Nat, r.next d c = some n ∧ 13 * ((c : Int) / 13 + (wayX d).2) + ((c : Int) % 13 + (wayX d).1) = (n : Int)) ∧
    (inB ((c : Int) % 13 + (wayX d).1) ((c : Int) / 13 + (wayX d).2) r.wide r.high = false → r.next d c = none) := by
  obtain ⟨h1, h2, _⟩ := cell_at hc
  have e13 : STRIDE = 13 := rfl
  have c2 : ∀ x y, cellOf x y = 13 * y + x := fun x y => rfl
  have key : inB ((c : Int) % 13 + (wayX d).1) ((c : Int) / 13 + (wayX d).2) r.wide r.high = true ↔ (0 ≤ (c : Int) % 13 + (wayX d).1 ∧ (c : Int) % 13 + (wayX d).1 < r.wide) ∧ 0 ≤ (c : Int) / 13 + (wayX d).2 ∧ (c : Int) / 13 + (wayX d).2 < r.high := by
    unfold inB
    rw [Bool.and_eq_true, Bool.and_eq_true, Bool.and_eq_true, decide_eq_true_iff, decide_eq_true_iff, decide_eq_true_iff, decide_eq_true_iff]
  have key2 : inB ((c : Int) % 13 + (wayX d).1) ((c : Int) / 13 + (wayX d).2) r.wide r.high = false ↔ ¬ ((0 ≤ (c : Int) % 13 + (wayX d).1 ∧ (c : Int) % 13 + (wayX d).1 < r.wide) ∧ 0 ≤ (c : Int) / 13 + (wayX d).2 ∧ (c : Int) / 13 + (wayX d).2 < r.high) := by
    rw [← key, Bool.not_eq_true]
  rw [key, key2]
  unfold Rules.next
  have hd' : d = 0 ∨ d = 1 ∨ d = 2 ∨ d = 3 := by omega
  rcases hd' with rfl | rfl | rfl | rfl
  · simp only [wayX, e13, if_true]
    constructor
    · intro h
      refine ⟨_, if_pos (by omega), ?_⟩
      rw [c2]; omega
    · intro h
      exact if_neg (by omega)
  · simp only [wayX, e13, if_true]
    constructor
    · intro h
      refine ⟨_, (if_neg (by decide)).trans (if_pos (by omega)), ?_⟩
      rw [c2]; omega
    · intro h
      exact (if_neg (by decide)).trans (if_neg (by omega))
  · simp only [wayX, e13, if_true]
    constructor
    · intro h
      refine ⟨_, (if_neg (by decide)).trans ((if_neg (by decide)).trans (if_pos (by omega))), ?_⟩
      rw [c2]; omega
    · intro h
      exact (if_neg (by decide)).trans ((if_neg (by decide)).trans (if_neg (by omega)))
  · simp only [wayX, e13, if_true]
    constructor
    · intro h
      refine ⟨_, (if_neg (by decide)).trans ((if_neg (by decide)).trans ((if_neg (by decide)).trans (if_pos (by omega)))), ?_⟩
      rw [c2]; omega
    · intro h
      exact (if_neg (by decide)).trans ((if_neg (by decide)).trans ((if_neg (by decide)).trans (if_neg (by omega))))
theorem on_none (p : Pos) (c : Nat) : (p.on c == .none) = (!decide (p.king = c) && (!p.hunters.testBit c && !p.men.testBit c)) := by
  unfold Pos.on
  by_cases h1 : p.king = c
  · rw [if_pos h1, decide_eq_true h1]; rfl
  · rw [if_neg h1, decide_eq_false h1]
    cases p.hunters.testBit c <;> cases p.men.testBit c <;> rfl
end TfP
namespace Tf
open PySem PySem.Spec PyProof.Rows L2 TfP
def wayA (A : Adr) : Nat → Addr
  | 0 => A.a_WAY0
  | 1 => A.a_WAY1
  | 2 => A.a_WAY2
  | _ => A.a_WAY3
def optV : Option Nat → V
  | some n => .int (n : Nat)
  | none => .non
/-- the rules, a position as objects -/
def Rl (A : Adr) (H : Hp) (a : Addr) (r : Tafl.Rules) : Prop := ∃ f pe pw, RuAt A H a f pe pw ∧ RuR f pe pw r
def Po (A : Adr) (H : Hp) (a : Addr) (p : Tafl.Pos) (r : Tafl.Rules) : Prop := ∃ f, PoAt A H a f ∧ PoR f p r
theorem Rl.same {A : Adr} {H H' : Hp} {a : Addr} {r : Tafl.Rules} (h : Rl A H a r) (s : Same H H') : Rl A H' a r := by
  obtain ⟨f, pe, pw, h1, h2⟩ := h
  exact ⟨f, pe, pw, h1.same s, h2⟩
theorem Po.same {A : Adr} {H H' : Hp} {a : Addr} {p : Tafl.Pos} {r : Tafl.Rules} (h : Po A H a p r) (s : Same H H') : Po A H' a p r := by
  obtain ⟨f, h1, h2⟩ := h
  exact ⟨f, h1.same s, h2⟩
theorem _root_.TfP.RuR.exit {f : RF} {pe pw : Int → Bool} {r : Tafl.Rules} (R : RuR f pe pw r) (c : Nat) : pe (c : Int) = (r.kindAt c == .exit) := by
  rw [Bool.eq_iff_iff, R.pe, beq_iff_eq]
  exact ⟨fun ⟨d, a, b⟩ => by rw [Int.ofNat_inj.mp a]; exact b, fun b => ⟨c, rfl, b⟩⟩
theorem _root_.TfP.RuR.wall {f : RF} {pe pw : Int → Bool} {r : Tafl.Rules} (R : RuR f pe pw r) {c : Nat} (hc : r.isCell c = true) : pw (c : Int) = (r.kindAt c == .wall) := by
  rw [Bool.eq_iff_iff, R.pw c hc, beq_iff_eq]
theorem _root_.TfP.RuR.seatE {f : RF} {pe pw : Int → Bool} {r : Tafl.Rules} (R : RuR f pe pw r) (c : Nat) : decide (V.int (c : Int) = V.int f.seat) = (r.kindAt c == .seat) := by
  rw [dec_int, Bool.eq_iff_iff, beq_iff_eq, beq_iff_eq, ← R.seat c]
  exact ⟨fun h => h.symm, fun h => h.symm⟩
theorem PoR.piece {f : PF} {p : Tafl.Pos} {r : Tafl.Rules} (R : PoR f p r) (W : RulesWf r) {c : Nat} (hc : r.isCell c = true) : pieceB f (c : Int) = !(p.on c == .none) := by
  obtain ⟨h1, h2, h3⟩ := cell_at hc
  have := W.w13
  have := W.h13
  rw [on_none]
  unfold pieceB
  have ek : decide ((c : Int) = f.king) = decide (p.king = c) := by
    rw [Bool.eq_iff_iff, decide_eq_true_iff, decide_eq_true_iff, R.king]
    unfold kingI
    have e255 : Tafl.TAKEN = 255 := rfl
    split <;> omega
  have eh : (f.hs.any fun d => decide ((d : Int) = (c : Int))) = p.hunters.testBit c := by
    rw [Bool.eq_iff_iff, List.any_eq_true, ← R.h c]
    exact ⟨fun ⟨d, hd, e⟩ => by rw [← Int.ofNat_inj.mp (of_decide_eq_true e)]; exact hd, fun h => ⟨c, h, decide_eq_true rfl⟩⟩
  have em : (f.ms.any fun d => decide ((d : Int) = (c : Int))) = p.men.testBit c := by
    rw [Bool.eq_iff_iff, List.any_eq_true, ← R.m c]
    exact ⟨fun ⟨d, hd, e⟩ => by rw [← Int.ofNat_inj.mp (of_decide_eq_true e)]; exact hd, fun h => ⟨c, h, decide_eq_true rfl⟩⟩
  rw [ek, eh, em]
  cases decide (p.king = c) <;> cases p.hunters.testBit c <;> cases p.men.testBit c <;> rfl
section
variable {P : Program} {w : World} {K : PySem.W.Frag} {mg : Str → Option Value} {base : Heap} {A : Adr}
theorem way_tup (T : Txt K mg A) {d : Nat} (hd : d < 4) (H : Hp) : SqT K H (wayA A d) [.int (wayX d).1, .int (wayX d).2] := by
  have hd' : d = 0 ∨ d = 1 ∨ d = 2 ∨ d = 3 := by omega
  rcases hd' with rfl | rfl | rfl | rfl
  · exact T.t_WAY0.sq H
  · exact T.t_WAY1.sq H
  · exact T.t_WAY2.sq H
  · exact T.t_WAY3.sq H
def sp_beside (A : Adr) : Sp := fun vs H Q _ => ∃ ra r, ∃ c d : Nat, vs = [.ref ra, .int (c : Int), .ref (wayA A d)] ∧ Rl A H ra r ∧ r.isCell c = true ∧ d < 4 ∧ ∀ H', Same H H' → Q (optV (r.next d c)) H'
theorem ok_beside (T : Txt K mg A) : FnOk P w K mg base CX0 2 A.f_beside A.d_beside ["rules", "cell", "way"] (sp_beside A) := by
  refine T.F_beside.ok sc_beside (fun vs H Q E h => ?_) (fun cdv B outer s H vs Q E hr h => ?_)
  · obtain ⟨ra, r, c, d, rfl, _⟩ := h
    rfl
  · obtain ⟨ra, r, c, d, rfl, ⟨f, pe, pw, Z, R⟩, hc, hd, q⟩ := h
    obtain ⟨dr, hra⟩ := Z.obj
    refine ⟨_, (pss_cons (ps_par (i := 3) (j := 4) rfl sc_beside.nd rfl rfl (by decide) rfl rfl (pa_cons (pe_op op_add (pe_op op_mod (pv 1) (pe_gi T.g_FARTHEST)) (pe_ix ix_tup (pv 2) pe_int (fun _ _ => rfl))) (pa_cons (pe_op op_add (pe_op op_fdiv (pv 1) (pe_gi T.g_FARTHEST)) (pe_ix ix_tup (pv 2) pe_int (fun _ _ => rfl))) pa_nil)) rfl)
  (pss_cons (ps_if (pt_not (pt_val (pe_meth (pv 0) T.cl_Rules T.m_Rules_has (ok_Rules_has T) (hr.mono (by decide)) T.b_Rules_has .nil pass0 (pa_cons (pe_tup (pa_cons (pv 3) (pa_cons (pv 4) pa_nil))) pa_nil)))) (pss_one (ps_ret pe_non)) pss_nil)
  (pss_one (ps_ret (pe_op op_add (pe_op op_mul (pe_gi T.g_FARTHEST) (pv 4)) (pv 3)))))), ?_⟩
    have hw := way_tup T hd H
    obtain ⟨e1, e2⟩ := next_in hd hc
    refine ⟨_, rfl, _, _, rfl, rfl, (by show (0 : Int) < 13; decide), _, rfl, _, _, 0, _, rfl, rfl, hw, atI_nat (j := 0) rfl, _, _, rfl, rfl, ?_⟩
    refine ⟨_, rfl, _, _, rfl, rfl, ⟨by decide, by decide⟩, _, rfl, _, _, 1, _, rfl, rfl, hw, atI_nat (j := 1) rfl, _, _, rfl, rfl, _, _, rfl, ?_⟩
    refine ⟨_, rfl, ra, dr, _, rfl, hra, ru_m_has f, _, rfl, _, rfl, (by show 2 ≤ sizeLine; exact smallE (by decide)), fun p np => ⟨ra, f, p, _, _, rfl, ⟨dr, same_new np _ _ hra⟩, .inl (.inl upd_same), _, rfl, ?_⟩⟩
    rw [R.wide, R.high]
    have q := q _ (same_new (o := .tup [.int ((c : Int) % 13 + (wayX d).1), .int ((c : Int) / 13 + (wayX d).2)]) np)
    by_cases hb : inB ((c : Int) % 13 + (wayX d).1) ((c : Int) / 13 + (wayX d).2) r.wide r.high = true
    · obtain ⟨n, en, ev⟩ := e1 hb
      refine if_f (by show (!inB _ _ _ _) = false; rw [hb]; rfl) ⟨_, rfl, _, _, rfl, rfl, .inl ⟨by decide, by decide⟩, _, rfl, _, _, rfl, rfl, ?_⟩
      rw [en, optV, ← ev] at q
      exact q
    · have hb := Bool.eq_false_iff.mpr hb
      rw [e2 hb] at q
      exact if_t (by show (!inB _ _ _ _) = true; rw [hb]; rfl) q
def sp_is_free (A : Adr) : Sp := fun vs H Q _ => ∃ ra pa r p, ∃ c : Nat, vs = [.ref ra, .ref pa, .int (c : Int)] ∧ Rl A H ra r ∧ Po A H pa p r ∧ r.isCell c = true ∧ Q (.bl (r.free p c)) H
theorem ok_is_free (T : Txt K mg A) : FnOk P w K mg base CX0 2 A.f_is_free A.d_is_free ["rules", "position", "cell"] (sp_is_free A) := by
  refine T.F_is_free.ok sc_is_free (fun vs H Q E h => ?_) (fun cdv B outer s H vs Q E hr h => ?_)
  · obtain ⟨ra, pa, r, p, c, rfl, _⟩ := h
    rfl
  · obtain ⟨ra, pa, r, p, c, rfl, ⟨f, pe, pw, Z, R⟩, ⟨g, ZP, RP⟩, hc, q⟩ := h
    obtain ⟨dr, hra⟩ := Z.obj
    obtain ⟨dp, hpa⟩ := ZP.obj
    refine ⟨_, (pss_one (ps_ret (pe_and (pe_cmp (pc_dnotin (hu_of hr) (pv 2) (pe_fld (pv 0) rfl)) rfl) (pe_one (pe_not (pe_meth (pv 1) T.cl_Position T.m_Position_has_piece (ok_Position_has_piece T) (hr.mono (by decide)) T.b_Position_has_piece .nil pass0 (pa_cons (pv 2) pa_nil))))))), ?_⟩
    obtain ⟨o, hg, eo⟩ := Z.dw.get c
    refine ⟨_, rfl, _, rfl, ra, A.c_Rules, dr, _, _, rfl, hra, T.cl_Rules, T.n_Rules_walls, ru_walls _, _, o, rfl, hg, _, rfl, ?_⟩
    rw [eo, R.wall hc]
    unfold Tafl.Rules.free at q
    by_cases hw : r.kindAt c = .wall
    · rw [hw] at q ⊢
      exact if_f rfl q
    · have hw' : (r.kindAt c == Tafl.Kind.wall) = false := beq_eq_false_iff_ne.mpr hw
      have hw2 : (r.kindAt c != Tafl.Kind.wall) = true := bne_iff_ne.mpr hw
      rw [hw2, Bool.true_and] at q
      rw [hw']
      refine if_t rfl ⟨_, rfl, pa, dp, _, rfl, hpa, po_m_has_piece g, _, rfl, pa, g, (c : Int), rfl, ZP, _, rfl, ?_⟩
      rw [RP.piece R.wf hc, Bool.not_not]
      exact q
end
end Tf

set_option maxRecDepth 100000
set_option maxHeartbeats 1000000
/-! # Where a piece may go -/
namespace TfP
open Tafl Tf
def stopB (r : Rules) (c : Nat) (king : Bool) : Bool := king || (!(r.kindAt c == .seat) && !(r.kindAt c == .exit))
def overB (r : Rules) (c : Nat) (king : Bool) : Bool := if king = true then r.slides else !(r.kindAt c == .exit) && (!(r.kindAt c == .seat) || r.passed)
def ray (r : Rules) (p : Pos) (king : Bool) (d : Nat) : Nat → Option Nat → List Nat
  | 0, _ => []
  | _ + 1, none => []
  | f + 1, some n => if r.free p n = false then [] else (if stopB r n king = true then [n] else []) ++ (if overB r n king = true then ray r p king d f (r.next d n) else [])
theorem ray_man (r : Rules) (p : Pos) (d : Nat) : ∀ (f c : Nat), ray r p false d f (r.next d c) = r.manWay p d f c
  | 0, c => by rw [Rules.manWay]; cases r.next d c <;> rfl
  | f + 1, c => by
    rw [Rules.manWay]
    cases r.next d c with
    | none => rfl
    | some n =>
      show (if r.free p n = false then [] else _) = (if r.free p n = false then [] else _)
      by_cases h : r.free p n = false
      · rw [if_pos h, if_pos h]
      · rw [if_neg h, if_neg h, ray_man r p d f n]
        unfold stopB overB
        cases r.kindAt n <;> cases r.passed <;> rfl
theorem ray_king (r : Rules) (p : Pos) (d : Nat) : ∀ (f c : Nat), ray r p true d f (r.next d c) = r.kingWay p d f c
  | 0, c => by rw [Rules.kingWay]; cases r.next d c <;> rfl
  | f + 1, c => by
    rw [Rules.kingWay]
    cases r.next d c with
    | none => rfl
    | some n =>
      show (if r.free p n = false then [] else _) = (if r.free p n = false then [] else _)
      by_cases h : r.free p n = false
      · rw [if_pos h, if_pos h]
      · rw [if_neg h, if_neg h, ray_king r p d f n]
        rfl
def reachR (r : Rules) (p : Pos) (c : Nat) (ds : List Nat) : List Nat := ds.flatMap fun d => ray r p (decide (p.king = c)) d 13 (r.next d c)
theorem reach_ray (r : Rules) (p : Pos) (c : Nat) : r.reach p c = reachR r p c [0, 1, 2, 3] := by
  unfold Rules.reach reachR
  refine congrArg (fun f => List.flatMap f [0, 1, 2, 3]) (funext fun d => ?_)
  by_cases h : p.king = c
  · rw [if_pos h, decide_eq_true h, ray_king]; rfl
  · rw [if_neg h, decide_eq_false h, ray_man]; rfl
/-- how many cells there are ahead -/
def rem (r : Rules) (d n : Nat) : Nat := match d with
  | 0 => r.high - 1 - n / 13
  | 1 => r.wide - 1 - n % 13
  | 2 => n / 13
  | _ => n % 13
def beyond (d c n : Nat) : Prop := match d with
  | 0 => n % 13 = c % 13 ∧ c / 13 < n / 13
  | 1 => n / 13 = c / 13 ∧ c % 13 < n % 13
  | 2 => n % 13 = c % 13 ∧ n / 13 < c / 13
  | _ => n / 13 = c / 13 ∧ n % 13 < c % 13
theorem isCell_iff {r : Rules} {n : Nat} : r.isCell n = true ↔ n % 13 < r.wide ∧ n / 13 < r.high := by
  unfold Rules.isCell
  rw [Bool.and_eq_true, decide_eq_true_iff, decide_eq_true_iff]
  rfl
theorem next_some {r : Rules} (W : RulesWf r) {d c n : Nat} (hd : d < 4) (hc : r.isCell c = true) (h : r.next d c = some n) : r.isCell n = true ∧ rem r d n + 1 = rem r d c ∧ beyond d c n := by
  have h1 := (isCell_iff (r := r)).mp hc
  have W13 := W.w13
  have H13 := W.h13
  rw [isCell_iff]
  unfold Rules.next at h
  have e13 : STRIDE = 13 := rfl
  have c2 : ∀ x y, cellOf x y = 13 * y + x := fun x y => rfl
  have hd' : d = 0 ∨ d = 1 ∨ d = 2 ∨ d = 3 := by omega
  rcases hd' with rfl | rfl | rfl | rfl <;> simp only [e13, c2] at h <;> unfold rem beyond
  · have h' : (if c / 13 + 1 < r.high then some (13 * (c / 13 + 1) + c % 13) else none) = some n := h
    split at h'
    · cases h'; simp only []; omega
    · cases h'
  · have h' : (if c % 13 + 1 < r.wide then some (13 * (c / 13) + (c % 13 + 1)) else none) = some n := h
    split at h'
    · cases h'; simp only []; omega
    · cases h'
  · have h' : (if 0 < c / 13 then some (13 * (c / 13 - 1) + c % 13) else none) = some n := h
    split at h'
    · cases h'; simp only []; omega
    · cases h'
  · have h' : (if 0 < c % 13 then some (13 * (c / 13) + (c % 13 - 1)) else none) = some n := h
    split at h'
    · cases h'; simp only []; omega
    · cases h'
theorem rem_lt {r : Rules} (W : RulesWf r) {d n : Nat} (h : r.isCell n = true) : rem r d n < 13 := by
  have h1 := (isCell_iff (r := r)).mp h
  have W13 := W.w13
  have H13 := W.h13
  unfold rem
  split <;> omega
theorem beyond_trans {d a b c : Nat} (hd : d < 4) (h1 : beyond d a b) (h2 : beyond d b c) : beyond d a c := by
  have hd' : d = 0 ∨ d = 1 ∨ d = 2 ∨ d = 3 := by omega
  unfold beyond at *
  rcases hd' with rfl | rfl | rfl | rfl <;> simp only [] at * <;> omega
theorem beyond_ne {d a b : Nat} (hd : d < 4) (h1 : beyond d a b) : a ≠ b := by
  have hd' : d = 0 ∨ d = 1 ∨ d = 2 ∨ d = 3 := by omega
  unfold beyond at h1
  rcases hd' with rfl | rfl | rfl | rfl <;> simp only [] at h1 <;> omega
theorem beyond_apart {d e a b : Nat} (hd : d < 4) (he : e < 4) (hne : d ≠ e) (h1 : beyond d a b) (h2 : beyond e a b) : False := by
  have hd' : d = 0 ∨ d = 1 ∨ d = 2 ∨ d = 3 := by omega
  have he' : e = 0 ∨ e = 1 ∨ e = 2 ∨ e = 3 := by omega
  unfold beyond at h1 h2
  rcases hd' with rfl | rfl | rfl | rfl <;> rcases he' with rfl | rfl | rfl | rfl <;> simp only [] at h1 h2 <;> omega
theorem ray_mem {r : Rules} (W : RulesWf r) {p : Pos} {king : Bool} {d : Nat} (hd : d < 4) : ∀ (f c n : Nat), r.isCell c = true → n ∈ ray r p king d f (r.next d c) → r.isCell n = true ∧ r.free p n = true ∧ beyond d c n
  | 0, c, n, _, h => by cases e : r.next d c <;> rw [e] at h <;> cases h
  | f + 1, c, n, hc, h => by
    cases e : r.next d c with
    | none => rw [e] at h; cases h
    | some m =>
      obtain ⟨m1, _, m3⟩ := next_some W hd hc e
      rw [e] at h
      have h' : n ∈ (if r.free p m = false then [] else (if stopB r m king = true then [m] else []) ++ (if overB r m king = true then ray r p king d f (r.next d m) else [])) := h
      split at h'
      · cases h'
      · next hf =>
        rcases List.mem_append.mp h' with h' | h'
        · split at h'
          · rw [List.mem_singleton.mp h']
            exact ⟨m1, by cases q : r.free p m <;> first | rfl | exact absurd q hf, m3⟩
          · cases h'
        · split at h'
          · obtain ⟨a, b, c'⟩ := ray_mem W hd f m n m1 h'
            exact ⟨a, b, beyond_trans hd m3 c'⟩
          · cases h'
theorem ray_nodup {r : Rules} (W : RulesWf r) {p : Pos} {king : Bool} {d : Nat} (hd : d < 4) : ∀ (f c : Nat), r.isCell c = true → (ray r p king d f (r.next d c)).Nodup
  | 0, c, _ => by cases e : r.next d c <;> exact List.nodup_nil
  | f + 1, c, hc => by
    cases e : r.next d c with
    | none => exact List.nodup_nil
    | some m =>
      obtain ⟨m1, _, m3⟩ := next_some W hd hc e
      show (if r.free p m = false then [] else (if stopB r m king = true then [m] else []) ++ (if overB r m king = true then ray r p king d f (r.next d m) else [])).Nodup
      split
      · exact List.nodup_nil
      · rw [List.nodup_append]
        refine ⟨?_, ?_, fun a ha b hb => ?_⟩
        · split
          · exact List.nodup_cons.mpr ⟨List.not_mem_nil, List.nodup_nil⟩
          · exact List.nodup_nil
        · split
          · exact ray_nodup W hd f m m1
          · exact List.nodup_nil
        · split at ha
          · rw [List.mem_singleton.mp ha]
            split at hb
            · exact beyond_ne hd (ray_mem W hd f m b m1 hb).2.2
            · cases hb
          · cases ha
theorem reach_mem {r : Rules} (W : RulesWf r) {p : Pos} {c n : Nat} (hc : r.isCell c = true) (h : n ∈ r.reach p c) : r.isCell n = true ∧ r.free p n = true := by
  rw [reach_ray] at h
  obtain ⟨d, hd, hn⟩ := List.mem_flatMap.mp h
  have hd4 : d < 4 := by simp at hd; omega
  obtain ⟨a, b, _⟩ := ray_mem W hd4 13 c n hc hn
  exact ⟨a, b⟩
theorem reach_nodup {r : Rules} (W : RulesWf r) {p : Pos} {c : Nat} (hc : r.isCell c = true) : (r.reach p c).Nodup := by
  rw [reach_ray]
  show (List.flatMap _ _).Pairwise _
  rw [List.pairwise_flatMap]
  refine ⟨fun d hd => ray_nodup W (by simp at hd; omega) 13 c hc, ?_⟩
  have : ∀ d e, d < 4 → e < 4 → d ≠ e → ∀ x, x ∈ ray r p (decide (p.king = c)) d 13 (r.next d c) → ∀ y, y ∈ ray r p (decide (p.king = c)) e 13 (r.next e c) → x ≠ y := fun d e hd he hne x hx y hy z => by
    subst z
    exact beyond_apart hd he hne (ray_mem W hd 13 c x hc hx).2.2 (ray_mem W he 13 c x hc hy).2.2
  simp only [List.pairwise_cons, List.mem_cons, List.not_mem_nil, or_false]
  refine ⟨fun e he => ?_, fun e he => ?_, fun e he => ?_, fun e he => he.elim, List.Pairwise.nil⟩
  · exact this 0 e (by omega) (by omega) (by omega)
  · exact this 1 e (by omega) (by omega) (by omega)
  · exact this 2 e (by omega) (by omega) (by omega)
theorem cell_lt {r : Rules} (W : RulesWf r) {c : Nat} (h : r.isCell c = true) : c < 169 := by
  have h1 := (isCell_iff (r := r)).mp h
  have W13 := W.w13
  have H13 := W.h13
  omega
/-- sorted without doubles: as the spec lists it -/
theorem sorted_eq {l : List Nat} (hn : l.Nodup) (hlt : ∀ x ∈ l, x < GONE) {q : Nat → Bool} (hq : ∀ x, x < GONE → (q x = true ↔ x ∈ l)) {s : List Int} (hp : s.Perm (l.map fun (x : Nat) => (x : Int))) (hs : s.Pairwise (· ≤ ·)) : s = ((List.range GONE).filter q).map fun (x : Nat) => (x : Int) := by
  have hr : ((List.range GONE).filter q).Pairwise (· < ·) := List.pairwise_lt_range.sublist List.filter_sublist
  refine List.Perm.eq_of_pairwise (le := (· ≤ ·)) (fun a b _ _ h1 h2 => Int.le_antisymm h1 h2) hs (List.pairwise_map.mpr (hr.imp fun {a b} h => by omega)) (hp.trans (List.Perm.map _ ?_))
  rw [List.perm_ext_iff_of_nodup hn (hr.imp fun {a b} h => Nat.ne_of_lt h)]
  intro a
  rw [List.mem_filter, List.mem_range]
  exact ⟨fun h => ⟨hlt a h, (hq a (hlt a h)).mpr h⟩, fun h => (hq a h.1).mp h.2⟩
def goalsL (r : Rules) (p : Pos) (c : Nat) : List Nat := (List.range GONE).filter fun (t : Nat) => (r.reach p c).contains t
theorem goals_sorted {r : Rules} (W : RulesWf r) {p : Pos} {c : Nat} (hc : r.isCell c = true) {s : List Int} (hp : s.Perm ((r.reach p c).map fun (x : Nat) => (x : Int))) (hs : s.Pairwise (· ≤ ·)) : s.map L2.V.int = (goalsL r p c).map natV := by
  rw [sorted_eq (q := fun t => (r.reach p c).contains t) (reach_nodup W hc) (fun x hx => Nat.lt_trans (cell_lt W (reach_mem W hc hx).1) (by decide)) (fun x _ => List.contains_iff_mem) hp hs, List.map_map]
  rfl
theorem goals_len {r : Rules} (W : RulesWf r) {p : Pos} {c : Nat} (hc : r.isCell c = true) : (goalsL r p c).length = (r.reach p c).length := by
  have hr : (goalsL r p c).Pairwise (· < ·) := List.pairwise_lt_range.sublist List.filter_sublist
  refine List.Perm.length_eq ?_
  rw [List.perm_ext_iff_of_nodup (hr.imp fun {a b} h => Nat.ne_of_lt h) (reach_nodup W hc)]
  intro a
  unfold goalsL
  rw [List.mem_filter, List.mem_range, List.contains_iff_mem]
  exact ⟨fun h => h.2, fun h => ⟨Nat.lt_trans (cell_lt W (reach_mem W hc h).1) (by decide), h⟩⟩
theorem reach_few {r : Rules} (W : RulesWf r) {p : Pos} {c : Nat} (hc : r.isCell c = true) : (r.reach p c).length ≤ 192 := by
  rw [← goals_len W hc]
  unfold goalsL
  exact Nat.le_trans (List.length_filter_le _ _) (by rw [List.length_range]; decide)
end TfP
namespace Tf
open PySem PySem.Spec PyProof.Rows L2 TfP
section
variable {P : Program} {w : World} {K : PySem.W.Frag} {mg : Str → Option Value} {base : Heap} {A : Adr}
def sp_may_stop (A : Adr) : Sp := fun vs H Q _ => ∃ ra r, ∃ c : Nat, ∃ k : Bool, vs = [.ref ra, .int (c : Int), .bl k] ∧ Rl A H ra r ∧ Q (.bl (stopB r c k)) H
theorem ok_may_stop (T : Txt K mg A) : FnOk P w K mg base CX0 1 A.f_may_stop A.d_may_stop ["rules", "cell", "is_king"] (sp_may_stop A) := by
  refine T.F_may_stop.ok sc_may_stop (fun vs H Q E h => ?_) (fun cdv B outer s H vs Q E hr h => ?_)
  · obtain ⟨ra, r, c, k, rfl, _⟩ := h
    rfl
  · obtain ⟨ra, r, c, k, rfl, ⟨f, pe, pw, Z, R⟩, q⟩ := h
    obtain ⟨dr, hra⟩ := Z.obj
    refine ⟨_, (pss_one (ps_ret (pe_or (pv 2) (pe_one (pe_and (pe_cmpR op_ne (pv 1) (pe_fld (pv 0) rfl) (nomark _)) (pe_one (pe_cmp (pc_dnotin (hu_of hr) (pv 1) (pe_fld (pv 0) rfl)) rfl))))))), ?_⟩
    obtain ⟨o, hg, eo⟩ := Z.de.get c
    unfold stopB at q
    refine ⟨_, rfl, _, rfl, ?_⟩
    cases k with
    | true => exact if_t rfl q
    | false =>
      refine if_f rfl ⟨_, rfl, _, rfl, ra, A.c_Rules, dr, _, _, rfl, hra, T.cl_Rules, T.n_Rules_seat, ru_seat _, rfl, _, rfl, ?_⟩
      rw [R.seatE c]
      cases hs : (r.kindAt c == Tafl.Kind.seat) with
      | true => rw [hs] at q; exact if_f rfl q
      | false =>
        rw [hs] at q
        refine if_t rfl ⟨_, rfl, _, rfl, ra, A.c_Rules, dr, _, _, rfl, hra, T.cl_Rules, T.n_Rules_exits, ru_exits _, _, o, rfl, hg, ?_⟩
        rw [eo, R.exit c]
        exact q
def sp_may_go_over (A : Adr) : Sp := fun vs H Q _ => ∃ ra r, ∃ c : Nat, ∃ k : Bool, vs = [.ref ra, .int (c : Int), .bl k] ∧ Rl A H ra r ∧ Q (.bl (overB r c k)) H
theorem ok_may_go_over (T : Txt K mg A) : FnOk P w K mg base CX0 1 A.f_may_go_over A.d_may_go_over ["rules", "cell", "is_king"] (sp_may_go_over A) := by
  refine T.F_may_go_over.ok sc_may_go_over (fun vs H Q E h => ?_) (fun cdv B outer s H vs Q E hr h => ?_)
  · obtain ⟨ra, r, c, k, rfl, _⟩ := h
    rfl
  · obtain ⟨ra, r, c, k, rfl, ⟨f, pe, pw, Z, R⟩, q⟩ := h
    obtain ⟨dr, hra⟩ := Z.obj
    refine ⟨_, (pss_cons (ps_if (pt_val (pv 2)) (pss_one (ps_ret (pe_fld (pv 0) rfl))) pss_nil)
  (pss_one (ps_ret (pe_and (pe_cmp (pc_dnotin (hu_of hr) (pv 1) (pe_fld (pv 0) rfl)) rfl) (pe_one (pe_or (pe_cmpR op_ne (pv 1) (pe_fld (pv 0) rfl) (nomark _)) (pe_one (pe_fld (pv 0) rfl)))))))), ?_⟩
    obtain ⟨o, hg, eo⟩ := Z.de.get c
    unfold overB at q
    refine ⟨_, rfl, _, rfl, ?_⟩
    cases k with
    | true =>
      rw [if_pos rfl, ← R.slides] at q
      exact if_t rfl ⟨_, rfl, ra, A.c_Rules, dr, _, _, rfl, hra, T.cl_Rules, T.n_Rules_slides, ru_slides _, q⟩
    | false =>
      rw [if_neg Bool.false_ne_true, ← R.passed] at q
      refine if_f rfl ⟨_, rfl, _, rfl, ra, A.c_Rules, dr, _, _, rfl, hra, T.cl_Rules, T.n_Rules_exits, ru_exits _, _, o, rfl, hg, _, rfl, ?_⟩
      rw [eo, R.exit c]
      cases hs : (r.kindAt c == Tafl.Kind.exit) with
      | true => rw [hs] at q; exact if_f rfl q
      | false =>
        rw [hs] at q
        refine if_t rfl ⟨_, rfl, _, rfl, ra, A.c_Rules, dr, _, _, rfl, hra, T.cl_Rules, T.n_Rules_seat, ru_seat _, rfl, _, rfl, ?_⟩
        rw [R.seatE c]
        cases hs : (r.kindAt c == Tafl.Kind.seat) with
        | false => rw [hs] at q; exact if_t rfl q
        | true =>
          rw [hs] at q
          exact if_f rfl ⟨_, rfl, ra, A.c_Rules, dr, _, _, rfl, hra, T.cl_Rules, T.n_Rules_passed, ru_passed _, q⟩
def sp_goals_of (A : Adr) : Sp := fun vs H Q _ => ∃ ra pa r p, ∃ c : Nat, vs = [.ref ra, .ref pa, .int (c : Int), .bl (decide (p.king = c))] ∧ Rl A H ra r ∧ Po A H pa p r ∧ r.isCell c = true ∧
  ∀ H' q, Same H H' → H q = none → H' q = some (.lst ((goalsL r p c).map natV)) → Q (.ref q) H'
def goalInv (A : Adr) (H : Hp) (r : Tafl.Rules) (p : Tafl.Pos) (ra pa l : Addr) (c d : Nat) (tot : List Nat) : Nat → L2.St → Hp → Prop := fun m σ H' => ∃ (o : Option Nat) (zs : List Nat), σ = [some (.ref ra), some (.ref pa), some (.int (c : Int)), some (.bl (decide (p.king = c))), some (.ref l), some (.ref (wayA A d)), some (optV o)] ∧ Same H H' ∧ H' l = some (.lst (zs.map natV)) ∧
  zs ++ ray r p (decide (p.king = c)) d m o = tot ∧ ∀ n, o = some n → r.isCell n = true ∧ rem r d n < m
theorem ok_goals_of (T : Txt K mg A) : FnOk P w K mg base CX0 3 A.f_goals_of A.d_goals_of ["rules", "position", "cell", "is_king"] (sp_goals_of A) := by
  refine T.F_goals_of.ok sc_goals_of (fun vs H Q E h => ?_) (fun cdv B outer s H vs Q E hr h => ?_)
  · obtain ⟨ra, pa, r, p, c, rfl, _⟩ := h
    rfl
  · obtain ⟨ra, pa, r, p, c, rfl, ZR, ZP, hc, q⟩ := h
    have W : RulesWf r := by obtain ⟨_, _, _, _, R⟩ := ZR; exact R.wf
    refine ⟨_, (pss_cons (ps_set (i := 4) sc_goals_of.nd rfl (by first | exact .inl rfl | exact .inr rfl) (pe_lst pa_nil))
  (pss_cons (ps_for PassesOwn.never rfl (pi_tup (pe_gr T.g_WAYS)) (pg_name (i := 5) sc_goals_of.nd rfl (by first | exact .inl rfl | exact .inr rfl))
  (pss_cons (ps_set (i := 6) sc_goals_of.nd rfl (by first | exact .inl rfl | exact .inr rfl) (pe_call (ok_beside T) (hr.mono (by decide)) rfl T.g_beside T.F_beside.kp T.b_beside .nil pass0 (pa_cons (pv 0) (pa_cons (pv 2) (pa_cons (pv 5) pa_nil)))))
  (pss_one (ps_while PassesOwn.never (PW.pt (pw_and (pt_cmpR op_notN (pv 6) pe_non (nomark _)) (pw_and1 (pt_val (pe_call (ok_is_free T) (hr.mono (by decide)) rfl T.g_is_free T.F_is_free.kp T.b_is_free .nil pass0 (pa_cons (pv 0) (pa_cons (pv 1) (pa_cons (pv 6) pa_nil))))))))
  (pss_cons (ps_if (pt_val (pe_call (ok_may_stop T) (hr.mono (by decide)) rfl T.g_may_stop T.F_may_stop.kp T.b_may_stop .nil pass0 (pa_cons (pv 0) (pa_cons (pv 6) (pa_cons (pv 3) pa_nil))))) (pss_one (ps_expr (pe_bm PySem.F.plainAttrs_list PySem.F.slot_list_append PySem.F.type_list_append mt_append (pv 4) (pa_cons (pv 6) pa_nil)))) pss_nil)
  (pss_one (ps_if (pt_val (pe_call (ok_may_go_over T) (hr.mono (by decide)) rfl T.g_may_go_over T.F_may_go_over.kp T.b_may_go_over .nil pass0 (pa_cons (pv 0) (pa_cons (pv 6) (pa_cons (pv 3) pa_nil))))) (pss_one (ps_set (i := 6) sc_goals_of.nd rfl (by first | exact .inl rfl | exact .inr rfl) (pe_call (ok_beside T) (hr.mono (by decide)) rfl T.g_beside T.F_beside.kp T.b_beside .nil pass0 (pa_cons (pv 0) (pa_cons (pv 6) (pa_cons (pv 5) pa_nil)))))) (pss_one (ps_set (i := 6) sc_goals_of.nd rfl (by first | exact .inl rfl | exact .inr rfl) pe_non)))))))))
  (pss_one (ps_ret (pe_callB cr_sortedI (by rfl) T.n_sorted (by decide +kernel) (pa_cons (pv 4) pa_nil)))))), ?_⟩
    refine ⟨by decide, fun l nl => ?_⟩
    refine ⟨A.a_WAYS, rfl, ⟨_, T.t_WAYS.sq _⟩, forS (wv_tup (xs := [.ref A.a_WAY0, .ref A.a_WAY1, .ref A.a_WAY2, .ref A.a_WAY3])) (fun i σ H' => ∃ v5 v6, σ = [some (.ref ra), some (.ref pa), some (.int (c : Int)), some (.bl (decide (p.king = c))), some (.ref l), v5, v6] ∧ Same H H' ∧ H' l = some (.lst ((reachR r p c ([0, 1, 2, 3].take i)).map natV)))
      ⟨none, none, rfl, same_new nl, upd_same⟩ (fun _ _ _ _ => T.t_WAYS.sq _) (fun i x σ H1 hx hP => ?_) (fun σ H1 hP => ?_)⟩
    · obtain ⟨v5, v6, rfl, s1, hl⟩ := hP
      obtain ⟨hd, rfl⟩ : i < 4 ∧ x = .ref (wayA A i) := by
        match i, hx with
        | 0, h => exact ⟨by omega, (Option.some.inj h).symm⟩
        | 1, h => exact ⟨by omega, (Option.some.inj h).symm⟩
        | 2, h => exact ⟨by omega, (Option.some.inj h).symm⟩
        | 3, h => exact ⟨by omega, (Option.some.inj h).symm⟩
      have htk : reachR r p c ([0, 1, 2, 3].take (i + 1)) = reachR r p c ([0, 1, 2, 3].take i) ++ ray r p (decide (p.king = c)) i 13 (r.next i c) := by
        have : ([0, 1, 2, 3] : List Nat)[i]? = some i := by
          match i, hd with
          | 0, _ => rfl
          | 1, _ => rfl
          | 2, _ => rfl
          | 3, _ => rfl
        unfold reachR
        rw [take_more this, List.flatMap_append]
        simp
      have hfew : (reachR r p c ([0, 1, 2, 3].take (i + 1))).length ≤ 192 := by
        have h4 := reach_few (p := p) W hc
        rw [reach_ray] at h4
        have : reachR r p c [0, 1, 2, 3] = reachR r p c ([0, 1, 2, 3].take (i + 1)) ++ reachR r p c ([0, 1, 2, 3].drop (i + 1)) := by
          unfold reachR
          rw [← List.flatMap_append, List.take_append_drop]
        rw [this, List.length_append] at h4
        omega
      refine ⟨_, rfl, _, rfl, _, rfl, ra, r, c, i, rfl, ZR.same s1, hc, hd, fun H2 s2 => ?_⟩
      have s12 := s1.trans s2
      refine ⟨goalInv A H r p ra pa l c i (reachR r p c ([0, 1, 2, 3].take (i + 1))), ⟨13, r.next i c, _, rfl, s12, s2 _ _ hl, htk.symm, fun n hn => ?_⟩, fun m σ H3 hW => ?_⟩
      · obtain ⟨a, b, _⟩ := next_some W hd hc hn
        exact ⟨a, rem_lt W a⟩
      · obtain ⟨o, zs, rfl, s3, hl3, htot, hrem⟩ := hW
        have done : zs = reachR r p c ([0, 1, 2, 3].take (i + 1)) → ∃ v5 v6, [some (V.ref ra), some (.ref pa), some (.int (c : Int)), some (.bl (decide (p.king = c))), some (.ref l), some (.ref (wayA A i)), some (optV o)] = [some (V.ref ra), some (.ref pa), some (.int (c : Int)), some (.bl (decide (p.king = c))), some (.ref l), v5, v6] ∧ Same H H3 ∧ H3 l = some (.lst ((reachR r p c ([0, 1, 2, 3].take (i + 1))).map natV)) := fun e => ⟨_, _, rfl, s3, by rw [hl3, e]⟩
        refine ⟨_, rfl, rfl, _, rfl, ?_⟩
        cases o with
        | none =>
          refine if_f rfl (done ?_)
          rw [← htot]
          cases m <;> exact (List.append_nil _).symm
        | some n =>
          obtain ⟨hcn, hm⟩ := hrem n rfl
          obtain ⟨m, rfl⟩ : ∃ m', m = m' + 1 := ⟨m - 1, by omega⟩
          refine if_t rfl ⟨_, rfl, _, rfl, _, rfl, ra, pa, r, p, n, rfl, ZR.same s3, ZP.same s3, hcn, _, rfl, ?_⟩
          have hray : ray r p (decide (p.king = c)) i (m + 1) (some n) = if r.free p n = false then [] else (if stopB r n (decide (p.king = c)) = true then [n] else []) ++ (if overB r n (decide (p.king = c)) = true then ray r p (decide (p.king = c)) i m (r.next i n) else []) := rfl
          cases hf : r.free p n with
          | false =>
            refine if_f rfl (done ?_)
            rw [← htot, hray, if_pos hf, List.append_nil]
          | true =>
            rw [if_neg (by rw [hf]; decide)] at hray
            rw [hray] at htot
            refine if_t rfl ?_
            refine ⟨fun σ' H' => ∃ m', m' < m + 1 ∧ goalInv A H r p ra pa l c i (reachR r p c ([0, 1, 2, 3].take (i + 1))) m' σ' H', fun _ _ z => z, ?_⟩
            -- behind the stop
            have next : ∀ {H4 : Hp} {ys : List Nat}, Same H H4 → H4 l = some (.lst (ys.map natV)) → ys ++ (if overB r n (decide (p.king = c)) = true then ray r p (decide (p.king = c)) i m (r.next i n) else []) = reachR r p c ([0, 1, 2, 3].take (i + 1)) →
                (tIfS (tTest (tCall (sp_may_go_over A) [] E0 (tCons (tVar 0) (tCons (tVar 6) (tCons (tVar 3) tNil))))) (tAsg (tCall (sp_beside A) [] E0 (tCons (tVar 0) (tCons (tVar 6) (tCons (tVar 5) tNil)))) (gName 6)) (tAsg (tC .non) (gName 6)))
                { nx := fun σ' H' => ∃ m', m' < m + 1 ∧ goalInv A H r p ra pa l c i (reachR r p c ([0, 1, 2, 3].take (i + 1))) m' σ' H', rt := Q, bk := fun σ H' => ∃ v5 v6, σ = [some (V.ref ra), some (.ref pa), some (.int (c : Int)), some (.bl (decide (p.king = c))), some (.ref l), v5, v6] ∧ Same H H' ∧ H' l = some (.lst ((reachR r p c ([0, 1, 2, 3].take (i + 1))).map natV)), ct := fun σ' H' => ∃ m', m' < m + 1 ∧ goalInv A H r p ra pa l c i (reachR r p c ([0, 1, 2, 3].take (i + 1))) m' σ' H' }
                [some (.ref ra), some (.ref pa), some (.int (c : Int)), some (.bl (decide (p.king = c))), some (.ref l), some (.ref (wayA A i)), some (.int (n : Int))] H4 := fun {H4 ys} s4 hl4 ht4 => by
              refine ⟨_, rfl, _, rfl, _, rfl, ra, r, n, _, rfl, ZR.same s4, _, rfl, ?_⟩
              cases ho : overB r n (decide (p.king = c)) with
              | true =>
                rw [ho, if_pos rfl] at ht4
                refine if_t rfl ⟨_, rfl, _, rfl, _, rfl, ra, r, n, i, rfl, ZR.same s4, hcn, hd, fun H5 s5 => ?_⟩
                refine ⟨m, Nat.lt_succ_self m, r.next i n, ys, rfl, s4.trans s5, s5 _ _ hl4, ht4, fun k hk => ?_⟩
                obtain ⟨a, b, _⟩ := next_some W hd hcn hk
                exact ⟨a, by omega⟩
              | false =>
                rw [ho, if_neg Bool.false_ne_true, List.append_nil] at ht4
                refine if_f rfl ⟨m, Nat.lt_succ_self m, none, ys, rfl, s4, hl4, ?_, fun k hk => by cases hk⟩
                rw [← ht4]
                cases m <;> exact List.append_nil _
            refine ⟨_, rfl, _, rfl, _, rfl, ra, r, n, _, rfl, ZR.same s3, _, rfl, ?_⟩
            cases hs : stopB r n (decide (p.king = c)) with
            | true =>
              rw [hs, if_pos rfl, ← List.append_assoc] at htot
              refine if_t rfl ⟨_, rfl, .inl ⟨rfl, _, SqL.of hl3⟩, _, rfl, l, _, _, rfl, rfl, hl3, small ?_, ?_⟩
              · have := congrArg List.length htot
                rw [List.length_append, List.length_append] at this
                rw [List.length_map]
                omega
              · refine next (ys := zs ++ [n]) (same_put s3 nl) ?_ htot
                rw [upd_same, List.map_append]
                rfl
            | false =>
              rw [hs, if_neg Bool.false_ne_true, List.nil_append] at htot
              exact if_f rfl (next s3 hl3 htot)
    · obtain ⟨v5, v6, rfl, s1, hl⟩ := hP
      have hl : H1 l = some (.lst ((reachR r p c [0, 1, 2, 3]).map natV)) := hl
      rw [← reach_ray] at hl
      refine ⟨_, rfl, l, (r.reach p c).map fun (x : Nat) => (x : Int), rfl, SqL.of (by rw [hl, List.map_map]; rfl), fun ns' q' hp hs nq => ?_⟩
      refine q _ q' (s1.trans (same_new nq)) (s1.free nq) ?_
      rw [upd_same, goals_sorted W hc hp hs]
end
end Tf

set_option maxRecDepth 100000
set_option maxHeartbeats 1000000
/-! # The king's ways, who moves, all moves -/
namespace TfP
open Tafl Tf
theorem edge_eq (r : Rules) (c : Nat) : edgeB r.wide r.high c = r.onEdge (c % 13, c / 13) := rfl
theorem onGoal_eq {f : RF} {pe pw : Int → Bool} {r : Rules} (R : RuR f pe pw r) (c : Nat) : (if f.goalX = true then pe (c : Int) else edgeB f.wide f.high c) = r.onGoal c := by
  unfold Rules.onGoal
  rw [R.goalX, R.wide, R.high, R.exit c, edge_eq]
  by_cases h : r.goal = 1
  · rw [if_pos (beq_iff_eq.mpr h), if_pos h]
  · rw [if_neg (fun z => h (beq_iff_eq.mp z)), if_neg h]
    rfl
theorem own_mem {r : Rules} {p : Pos} (W : RulesWf r) (ok : PosOk r p) {c : Nat} (h : c ∈ p.own) : r.isCell c = true := by
  unfold Pos.own at h
  have g : ∀ c, c < GONE → p.king = c → r.isCell c = true := fun c hc e => by
    rcases ok.k with k | k
    · rw [k] at e
      have : TAKEN = 255 := rfl
      have : GONE = 192 := rfl
      omega
    · rw [← e]; exact k.1
  split at h
  · exact ok.h c (List.mem_filter.mp h).2
  · obtain ⟨h1, h2⟩ := List.mem_filter.mp h
    have h2' : (p.men.testBit c || c == p.king) = true := h2
    rw [Bool.or_eq_true, beq_iff_eq] at h2'
    rcases h2' with h2 | h2
    · exact ok.m c h2
    · exact g c (List.mem_range.mp h1) h2.symm
def movesL (r : Rules) (p : Pos) : List (Nat × Nat) := p.own.flatMap fun c => (goalsL r p c).map fun t => (c, t)
theorem moves_eq (r : Rules) (p : Pos) : r.moves p = if r.ended p ≠ 0 then [] else movesL r p := rfl
theorem own_few (p : Pos) : p.own.length ≤ 192 := by
  unfold Pos.own cellsIn
  split <;> exact Nat.le_trans (List.length_filter_le _ _) (by rw [List.length_range]; decide)
theorem goalsL_few (r : Rules) (p : Pos) (c : Nat) : (goalsL r p c).length ≤ 192 := Nat.le_trans (List.length_filter_le _ _) (by rw [List.length_range]; decide)
theorem flat_few {α β : Type} (f : α → List β) (n : Nat) (h : ∀ a, (f a).length ≤ n) : ∀ l : List α, (l.flatMap f).length ≤ l.length * n
  | [] => by simp
  | a :: l => by
    rw [List.flatMap_cons, List.length_append, List.length_cons, Nat.succ_mul]
    have := flat_few f n h l
    have := h a
    omega
theorem movesL_few (r : Rules) (p : Pos) (l : List Nat) (h : l.length ≤ 192) : (l.flatMap fun c => (goalsL r p c).map fun t => (c, t)).length ≤ 40000 := by
  have := flat_few (fun c => (goalsL r p c).map fun t => (c, t)) 192 (fun c => by rw [List.length_map]; exact goalsL_few r p c) l
  have := Nat.mul_le_mul_right 192 h
  omega
theorem kingI_taken {p : Pos} (h : p.king = TAKEN) : kingI p = -1 := if_pos h
theorem kingI_cell {p : Pos} (h : p.king ≠ TAKEN) : kingI p = (p.king : Int) := if_neg h
end TfP
namespace Tf
open PySem PySem.Spec PyProof.Rows L2 TfP
def mvV (m : Nat × Nat) : List V := [.int (m.1 : Nat), .int (m.2 : Nat)]
theorem PoR.kingE {f : PF} {p : Tafl.Pos} {r : Tafl.Rules} (R : PoR f p r) {c : Nat} (hc : c < 255) : decide (V.int (c : Int) = V.int f.king) = decide (p.king = c) := by
  rw [dec_int, Bool.eq_iff_iff, beq_iff_eq, decide_eq_true_iff, R.king]
  unfold kingI
  have e255 : Tafl.TAKEN = 255 := rfl
  split <;> omega
section
variable {P : Program} {w : World} {K : PySem.W.Frag} {mg : Str → Option Value} {base : Heap} {A : Adr}
def sp_king_goals (K : PySem.W.Frag) (A : Adr) : Sp := fun vs H Q _ => ∃ ra pa r p, vs = [.ref ra, .ref pa] ∧ Rl A H ra r ∧ Po A H pa p r ∧ ∀ H' q zs, Same H H' → H' q = some (.lst zs) → zs.length = r.roads p → Q (.ref q) H'
theorem ok_king_goals (T : Txt K mg A) : FnOk P w K mg base CX0 4 A.f_king_goals A.d_king_goals ["rules", "position"] (sp_king_goals K A) := by
  refine T.F_king_goals.ok sc_king_goals (fun vs H Q E h => ?_) (fun cdv B outer s H vs Q E hr h => ?_)
  · obtain ⟨ra, pa, r, p, rfl, _⟩ := h
    rfl
  · obtain ⟨ra, pa, r, p, rfl, ⟨f, pe, pw, Z, R⟩, ⟨g, ZP, RP⟩, q⟩ := h
    obtain ⟨dr, hra⟩ := Z.obj
    obtain ⟨dp, hpa⟩ := ZP.obj
    have W := R.wf
    have W5 := W.w5
    have H5 := W.h5
    refine ⟨_, (pss_cons (ps_if (PW.pt (pw_or (pt_cmpR op_eq (pe_fld (pv 1) rfl) (pe_gi T.g_NO_KING) (nomark _)) (pw_or1 (pt_val (pe_meth (pv 0) T.cl_Rules T.m_Rules_is_goal (ok_Rules_is_goal T) (hr.mono (by decide)) T.b_Rules_is_goal .nil pass0 (pa_cons (pe_fld (pv 1) rfl) pa_nil)))))) (pss_one (ps_ret (pe_lst pa_nil))) pss_nil)
  (pss_one (ps_ret (pe_call (ok_goals_of T) (hr.mono (by decide)) rfl T.g_goals_of T.F_goals_of.kp T.b_goals_of .nil pass0 (pa_cons (pv 0) (pa_cons (pv 1) (pa_cons (pe_fld (pv 1) rfl) (pa_cons pe_bl pa_nil)))))))), ?_⟩
    refine ⟨_, rfl, pa, A.c_Position, dp, _, _, rfl, hpa, T.cl_Position, T.n_Position_king, po_king _, rfl, _, rfl, ?_⟩
    have nil : ∀ {H1 : Hp}, Same H H1 → r.ended p ≠ 0 → (tRet (tLst tNil)) { nx := fun _ H' => Q .non H', rt := Q } [some (.ref ra), some (.ref pa)] H1 := fun {H1} s1 he => by
      refine ⟨by decide, fun l nl => q _ l [] (s1.trans (same_new nl)) upd_same ?_⟩
      unfold Tafl.Rules.roads
      rw [if_pos he]
      rfl
    by_cases hk : p.king = Tafl.TAKEN
    · refine if_t ?_ (nil (Same.refl _) ?_)
      · rw [RP.king, kingI_taken hk]; rfl
      · unfold Tafl.Rules.ended
        rw [if_pos hk]
        decide
    · have ek := kingI_cell hk
      refine if_f ?_ ?_
      · rw [RP.king, ek, dec_int, beq_eq_false_iff_ne]; omega
      refine ⟨_, rfl, ra, dr, _, rfl, hra, ru_m_is_goal f, _, rfl, pa, A.c_Position, dp, _, _, rfl, hpa, T.cl_Position, T.n_Position_king, po_king _, ra, f, pe, pw, p.king, congrArg (fun z => [V.ref ra, V.int z]) (RP.king.trans ek), Z, by rw [R.wide]; omega, by rw [R.high]; omega, fun H1 s1 => ⟨_, rfl, ?_⟩⟩
      rw [onGoal_eq R]
      have hcell : r.isCell p.king = true := by
        rcases RP.ok.k with k | k
        · exact absurd k hk
        · exact k.1
      by_cases hg : r.onGoal p.king = true
      · refine if_t hg (nil s1 ?_)
        unfold Tafl.Rules.ended
        rw [if_neg hk, if_pos hg]
        decide
      · refine if_f (Bool.eq_false_iff.mpr hg) ?_
        have hpa := s1 _ _ hpa
        refine ⟨_, rfl, _, rfl, _, rfl, pa, A.c_Position, dp, _, _, rfl, hpa, T.cl_Position, T.n_Position_king, po_king _, ra, pa, r, p, p.king, ?_, ⟨f, pe, pw, Z.same s1, R⟩, ⟨g, ZP.same s1, RP⟩, hcell, fun H2 q2 s2 _ h2 => q H2 q2 _ (s1.trans s2) h2 ?_⟩
        · rw [decide_eq_true (rfl : p.king = p.king), ← ek, ← RP.king]
          rfl
        · rw [List.length_map, goals_len W hcell]
          unfold Tafl.Rules.roads Tafl.Rules.ended
          rw [if_neg hk, if_neg hg, if_neg (by decide)]
def sp_movers (A : Adr) : Sp := fun vs H Q _ => ∃ pa r p, vs = [.ref pa] ∧ Po A H pa p r ∧ TfP.RulesWf r ∧ ∀ H' q, Same H H' → H q = none → H' q = some (.lst (p.own.map natV)) → Q (.ref q) H'
theorem ok_movers (T : Txt K mg A) : FnOk P w K mg base CX0 1 A.f_movers A.d_movers ["position"] (sp_movers A) := by
  refine T.F_movers.ok sc_movers (fun vs H Q E h => ?_) (fun cdv B outer s H vs Q E hr h => ?_)
  · obtain ⟨pa, r, p, rfl, _⟩ := h
    rfl
  · obtain ⟨pa, r, p, rfl, ⟨g, ZP, RP⟩, W, q⟩ := h
    obtain ⟨dp, hpa⟩ := ZP.obj
    refine ⟨_, (pss_cons (ps_if (pt_cmpR op_eq (pe_fld (pv 0) rfl) (pe_gi T.g_HUNTERS) (nomark _)) (pss_one (ps_ret (pe_callB cr_sortedI (by rfl) T.n_sorted (by decide +kernel) (pa_cons (pe_fld (pv 0) rfl) pa_nil)))) pss_nil)
  (pss_one (ps_ret (pe_callB cr_sortedI (by rfl) T.n_sorted (by decide +kernel) (pa_cons (pe_op op_cat (pe_fld (pv 0) rfl) (pe_lc (own := [("cell", 1)]) rfl sc_movers.nd (pi_list (pe_lst (pa_cons (pe_fld (pv 0) rfl) pa_nil))) (blkOk_by (N := ["position", "cell"]) (sc := defScope s_movers) (own := [("cell", 1)]) (by decide +kernel)) (fun _ _ _ _ _ => (pg_name (i := 1) sc_movers.nd rfl (by first | exact .inl rfl | exact .inr rfl))) (fun _ _ _ _ _ => (pts_one (pt_cmpR op_ne (pv 1) (pe_gi T.g_NO_KING) (nomark _)))) (fun _ _ _ _ _ => (pv 1)))) pa_nil))))), ?_⟩
    refine ⟨_, rfl, pa, A.c_Position, dp, _, _, rfl, hpa, T.cl_Position, T.n_Position_turn, po_turn _, rfl, _, rfl, ?_⟩
    have et : decide (V.int ((g.turn : Nat) : Int) = V.int 0) = decide (p.side = 0) := by
      rw [dec_int, RP.turn, Bool.eq_iff_iff, beq_iff_eq, decide_eq_true_iff]; omega
    rw [et]
    by_cases h0 : p.side = 0
    · refine if_t (decide_eq_true h0) ?_
      refine ⟨_, rfl, pa, A.c_Position, dp, _, _, rfl, hpa, T.cl_Position, T.n_Position_hunters, po_hunters _, g.hl, g.hs.map fun (x : Nat) => (x : Int), rfl, SqL.of (by rw [ZP.hl, List.map_map]; rfl), fun ns' q' hp hs nq => q _ q' (same_new nq) nq ?_⟩
      rw [upd_same, sorted_eq (q := fun c => p.hunters.testBit c) RP.hN (fun x hx => Nat.lt_trans (cell_lt W (RP.ok.h x ((RP.h x).mp hx))) (by decide)) (fun x _ => (RP.h x).symm) hp hs, List.map_map]
      unfold Tafl.Pos.own Tafl.cellsIn
      rw [if_pos h0]
      rfl
    · refine if_f (decide_eq_false h0) ?_
      refine ⟨_, rfl, pa, A.c_Position, dp, _, _, rfl, hpa, T.cl_Position, T.n_Position_men, po_men _, _, rfl, pa, A.c_Position, dp, _, _, rfl, hpa, T.cl_Position, T.n_Position_king, po_king _, (by show 1 ≤ sizeLine; exact smallE (by decide)), fun l0 nl0 => ?_⟩
      have s0 := same_new (o := .lst [.int g.king]) nl0
      refine ⟨l0, rfl, ⟨_, SqL.of upd_same⟩, fun D nD => lcR (wv_list (xs := [.int g.king])) nD (fun H2 s2 => s2.seq (SqL.of upd_same)) [g.king] rfl (fun k => if (!decide (V.int k = V.int (-1))) = true then [V.int k] else []) (fun i x k ys H2 Nx hx hk s2 d2 lt hN hN0 => ?_) ?_ fun H2 s2 d2 => ?_⟩
      · obtain ⟨rfl, rfl⟩ : x = V.int g.king ∧ k = g.king := by
          match i, hx, hk with
          | 0, h1, h2 => exact ⟨(Option.some.inj h1).symm, (Option.some.inj h2).symm⟩
        refine ⟨rfl, ?_⟩
        refine ⟨_, rfl, rfl, _, rfl, ?_⟩
        by_cases hb : (!decide (V.int g.king = V.int (-1))) = true
        · exact if_t hb ⟨_, rfl, ys, d2, lt, hN _ _ (if_pos hb) (same_put s2 nD) upd_same⟩
        · exact if_f (Bool.eq_false_iff.mpr hb) (hN0 _ (if_neg hb) s2 d2)
      · show ((if (!decide (V.int g.king = V.int (-1))) = true then [V.int g.king] else []) ++ []).length < _
        rw [List.append_nil]
        split <;> exact small (by simp)
      · have d2' : H2 D = some (.lst (if (!decide (V.int g.king = V.int (-1))) = true then [V.int g.king] else [])) := by
          rw [d2]
          show some (HO.lst (_ ++ [])) = _
          rw [List.append_nil]
        have hml := s2 _ _ (s0 _ _ ZP.ml)
        obtain ⟨ks, hks, hks2⟩ : ∃ ks : List Nat, (if (!decide (V.int g.king = V.int (-1))) = true then [V.int g.king] else []) = ks.map natV ∧ ∀ c, c ∈ ks ↔ (p.king = c ∧ p.king ≠ Tafl.TAKEN) := by
          by_cases hk : p.king = Tafl.TAKEN
          · refine ⟨[], ?_, fun c => ⟨(fun h => by cases h), fun h => absurd hk h.2⟩⟩
            rw [RP.king, kingI_taken hk]
            rfl
          · refine ⟨[p.king], ?_, fun c => ⟨fun h => ⟨(List.mem_singleton.mp h).symm, hk⟩, fun h => List.mem_singleton.mpr h.1.symm⟩⟩
            rw [RP.king, kingI_cell hk, if_pos]
            · rfl
            · rw [dec_int, Bool.not_eq_true', beq_eq_false_iff_ne]; omega
        rw [hks] at d2'
        have ksf : ks.length ≤ 1 := by
          have := congrArg List.length hks
          rw [List.length_map] at this
          rw [← this]
          split <;> simp
        refine ⟨g.ml, D, _, _, rfl, rfl, hml, d2', smallE (by rw [List.length_map, List.length_map]; have := ZP.mfew; omega), fun p3 n3 => ?_⟩
        have e3 : g.ms.map natV ++ ks.map natV = ((g.ms ++ ks).map fun (x : Nat) => (x : Int)).map V.int := by rw [← List.map_append, List.map_map]; rfl
        refine ⟨p3, (g.ms ++ ks).map fun (x : Nat) => (x : Int), rfl, SqL.of (by rw [upd_same, e3]), fun ns' q' hp hs nq => q _ q' ((s0.trans s2).trans ((same_new n3).trans (same_new nq))) ((s0.trans s2).free ((same_new n3).free nq)) ?_⟩
        have e255 : Tafl.TAKEN = 255 := rfl
        have e192 : Tafl.GONE = 192 := rfl
        have kc : ∀ c, c ∈ ks → r.isCell c = true ∧ p.men.testBit c = false := fun c hc => by
          obtain ⟨h1, h2⟩ := (hks2 c).mp hc
          rcases RP.ok.k with k | k
          · exact absurd k h2
          · rw [← h1]; exact ⟨k.1, k.2.2⟩
        have nd : (g.ms ++ ks).Nodup := by
          rw [List.nodup_append]
          refine ⟨RP.mN, ?_, fun a ha b hb z => ?_⟩
          · match ks, ksf with
            | [], _ => exact List.nodup_nil
            | [x], _ => exact List.nodup_cons.mpr ⟨List.not_mem_nil, List.nodup_nil⟩
          · subst z
            have h1 := (RP.m a).mp ha
            rw [(kc a hb).2] at h1
            cases h1
        rw [upd_same, sorted_eq (q := fun c => p.men.testBit c || c == p.king) nd (fun x hx => ?_) (fun x hx => ?_) hp hs, List.map_map]
        · unfold Tafl.Pos.own
          rw [if_neg h0]
          rfl
        · rcases List.mem_append.mp hx with hx | hx
          · exact Nat.lt_trans (cell_lt W (RP.ok.m x ((RP.m x).mp hx))) (by decide)
          · exact Nat.lt_trans (cell_lt W (kc x hx).1) (by decide)
        · rw [Bool.or_eq_true, beq_iff_eq, List.mem_append, RP.m x, hks2]
          exact or_congr Iff.rfl ⟨fun h => ⟨h.symm, by omega⟩, fun h => h.1.symm⟩
def sp_moves_of (K : PySem.W.Frag) (A : Adr) : Sp := fun vs H Q _ => ∃ ra pa r p, vs = [.ref ra, .ref pa] ∧ Rl A H ra r ∧ Po A H pa p r ∧ ∀ H' q xs, Same H H' → H q = none → H' q = some (.lst xs) → TupsAt K mvV H' xs (movesL r p) → Q (.ref q) H'
theorem ok_moves_of (T : Txt K mg A) : FnOk P w K mg base CX0 4 A.f_moves_of A.d_moves_of ["rules", "position"] (sp_moves_of K A) := by
  refine T.F_moves_of.ok sc_moves_of (fun vs H Q E h => ?_) (fun cdv B outer s H vs Q E hr h => ?_)
  · obtain ⟨ra, pa, r, p, rfl, _⟩ := h
    rfl
  · obtain ⟨ra, pa, r, p, rfl, ZR, ⟨g, ZP, RP⟩, q⟩ := h
    obtain ⟨dp, hpa0⟩ := ZP.obj
    have W : RulesWf r := by obtain ⟨_, _, _, _, R⟩ := ZR; exact R.wf
    refine ⟨_, (pss_cons (ps_set (i := 2) sc_moves_of.nd rfl (by first | exact .inl rfl | exact .inr rfl) (pe_lst pa_nil))
  (pss_cons (ps_for PassesOwn.never rfl (pi_list (pe_call (ok_movers T) (hr.mono (by decide)) rfl T.g_movers T.F_movers.kp T.b_movers .nil pass0 (pa_cons (pv 1) pa_nil))) (pg_name (i := 3) sc_moves_of.nd rfl (by first | exact .inl rfl | exact .inr rfl))
  (pss_one (ps_expr (pe_bm PySem.F.plainAttrs_list PySem.F.slot_list_extend PySem.F.type_list_extend mt_extend (pv 2) (pa_cons (pe_lc (own := [("to", 4)]) rfl sc_moves_of.nd (pi_list (pe_call (ok_goals_of T) (hr.mono (by decide)) rfl T.g_goals_of T.F_goals_of.kp T.b_goals_of .nil pass0 (pa_cons (pv 0) (pa_cons (pv 1) (pa_cons (pv 3) (pa_cons (pe_cmpR op_eq (pv 3) (pe_fld (pv 1) rfl) (nomark _)) pa_nil)))))) (blkOk_by (N := ["rules", "position", "found", "cell", "to"]) (sc := defScope s_moves_of) (own := [("to", 4)]) (by decide +kernel)) (fun _ _ _ _ _ => (pg_name (i := 4) sc_moves_of.nd rfl (by first | exact .inl rfl | exact .inr rfl))) (fun _ _ _ _ _ => pts_nil) (fun _ _ _ _ _ => (pe_tup (pa_cons (pv 3) (pa_cons (pv 4) pa_nil))))) pa_nil)))))
  (pss_one (ps_ret (pv 2))))), ?_⟩
    refine ⟨by decide, fun l nl => ?_⟩
    have s0 := same_new (o := .lst []) nl
    have hl0 : (upd H l (.lst [])) l = some (.lst []) := upd_same
    generalize upd H l (.lst []) = H0 at s0 hl0 ⊢
    refine ⟨_, rfl, pa, r, p, rfl, ⟨g, ZP.same s0, RP⟩, W, fun H1 lo s1 nlo hlo => ⟨lo, rfl, ⟨_, SqL.of hlo⟩, forS (wv_list (xs := p.own.map natV)) (fun i σ H' => ∃ v3 v4, ∃ xs : List V, σ = [some (.ref ra), some (.ref pa), some (.ref l), v3, v4] ∧ Same H H' ∧ H' lo = some (.lst (p.own.map natV)) ∧ H' l = some (.lst xs) ∧ TupsAt K mvV H' xs ((p.own.take i).flatMap fun c => (goalsL r p c).map fun t => (c, t)))
      ⟨none, none, [], rfl, s0.trans s1, hlo, s1 _ _ hl0, TupsAt.nil⟩ (fun i σ H' hP => ?_) (fun i x σ H2 hx hP => ?_) (fun σ H2 hP => ?_)⟩⟩
    · obtain ⟨_, _, _, _, _, h, _⟩ := hP
      exact SqL.of h
    · obtain ⟨v3, v4, xs, rfl, s2, hlo2, hl2, ht2⟩ := hP
      obtain ⟨c, hc, rfl⟩ : ∃ c, p.own[i]? = some c ∧ x = natV c := by
        rw [List.getElem?_map] at hx
        cases e : p.own[i]? with
        | none => rw [e] at hx; cases hx
        | some c => rw [e] at hx; exact ⟨c, rfl, (Option.some.inj hx).symm⟩
      have hcell := own_mem W RP.ok (List.mem_of_getElem? hc)
      have hpa := s2 _ _ hpa0
      have nlol : lo ≠ l := fun z => by rw [z, hl0] at nlo; cases nlo
      have clt := cell_lt W hcell
      refine ⟨_, rfl, .inl ⟨rfl, _, SqL.of hl2⟩, _, rfl, _, rfl, _, rfl, _, rfl, _, rfl, pa, A.c_Position, dp, _, _, rfl, hpa, T.cl_Position, T.n_Position_king, po_king _, rfl, ra, pa, r, p, c, ?_, ZR.same s2, ⟨g, ZP.same s2, RP⟩, hcell, fun H3 q3 s3 nq3 hq3 => ⟨q3, rfl, ⟨_, SqL.of hq3⟩, fun D nD => lcV (wv_list (xs := (goalsL r p c).map natV)) (fun j H' => Same H3 H' ∧ ∃ ys, H' D = some (.lst ys) ∧ TupsAt K mvV H' ys (((goalsL r p c).take j).map fun t => (c, t))) ⟨same_new nD, [], upd_same, TupsAt.nil⟩ (fun j H' hP => SqL.of (hP.1 _ _ hq3)) (fun j y H' hy hP => ?_) (fun H' hP => ?_)⟩⟩
      · show [V.ref ra, .ref pa, .int (c : Int), .bl (decide (V.int (c : Int) = V.int g.king))] = _
        rw [RP.kingE (by omega)]
      · obtain ⟨s4, ys, hD, ht⟩ := hP
        obtain ⟨t, ht', rfl⟩ : ∃ t, (goalsL r p c)[j]? = some t ∧ y = natV t := by
          rw [List.getElem?_map] at hy
          cases e : (goalsL r p c)[j]? with
          | none => rw [e] at hy; cases hy
          | some c => rw [e] at hy; exact ⟨c, rfl, (Option.some.inj hy).symm⟩
        refine ⟨rfl, ?_⟩
        refine ⟨_, rfl, _, rfl, (by show 2 ≤ sizeLine; exact smallE (by decide)), fun a na => ?_⟩
        have hD' := (same_new (o := .tup [natV c, natV t]) na) _ _ hD
        refine ⟨ys, hD', small (by rw [ht.1, List.length_map]; exact Nat.le_trans (List.length_take_le' _ _) (Nat.le_trans (goalsL_few r p c) (by decide))), same_put (s4.trans (same_new na)) nD, _, upd_same, ?_⟩
        rw [take_more ht', List.map_append]
        exact ((ht.same (same_new na)).snoc (p := a) (.inl (.inl upd_same))).keep (p := (· = D)) (Kp.upd rfl) (nt_lst hD')
      · obtain ⟨s4, ys, hD, ht⟩ := hP
        rw [List.length_map, List.take_length] at ht
        have s34 := s3.trans s4
        have hl4 := s34 _ _ hl2
        have few : xs.length ≤ 40000 := by
          rw [ht2.1]
          exact movesL_few r p _ (Nat.le_trans (List.length_take_le' _ _) (own_few p))
        refine ⟨l, D, xs, ys, rfl, rfl, hl4, hD, smallE (by have := goalsL_few r p c; rw [ht.1, List.length_map]; omega), ?_⟩
        refine ⟨_, _, _, rfl, same_put (s2.trans s34) nl, (upd_ne nlol).trans (s34 _ _ hlo2), upd_same, ?_⟩
        rw [take_more hc, List.flatMap_append]
        have e1 : ([c].flatMap fun c => (goalsL r p c).map fun t => (c, t)) = (goalsL r p c).map fun t => (c, t) := by simp
        rw [e1]
        exact ((ht2.same s34).append ht).keep (p := (· = l)) (Kp.upd rfl) (nt_lst hl4)
    · obtain ⟨v3, v4, xs, rfl, s2, hlo2, hl2, ht2⟩ := hP
      rw [List.length_map, List.take_length] at ht2
      exact ⟨_, rfl, q H2 l xs s2 nl hl2 ht2⟩
def sp_has_move (A : Adr) : Sp := fun vs H Q _ => ∃ ra pa r p, vs = [.ref ra, .ref pa] ∧ Rl A H ra r ∧ Po A H pa p r ∧ ∀ H', Same H H' → Q (.bl (!(movesL r p).isEmpty)) H'
theorem ok_has_move (T : Txt K mg A) : FnOk P w K mg base CX0 4 A.f_has_move A.d_has_move ["rules", "position"] (sp_has_move A) := by
  refine T.F_has_move.ok sc_has_move (fun vs H Q E h => ?_) (fun cdv B outer s H vs Q E hr h => ?_)
  · obtain ⟨ra, pa, r, p, rfl, _⟩ := h
    rfl
  · obtain ⟨ra, pa, r, p, rfl, ZR, ⟨g, ZP, RP⟩, q⟩ := h
    obtain ⟨dp, hpa0⟩ := ZP.obj
    have W : RulesWf r := by obtain ⟨_, _, _, _, R⟩ := ZR; exact R.wf
    refine ⟨_, (pss_cons (ps_for PassesOwn.never rfl (pi_list (pe_call (ok_movers T) (hr.mono (by decide)) rfl T.g_movers T.F_movers.kp T.b_movers .nil pass0 (pa_cons (pv 1) pa_nil))) (pg_name (i := 2) sc_has_move.nd rfl (by first | exact .inl rfl | exact .inr rfl))
  (pss_one (ps_if (pt_cmpR (op_neNil hr.units0) (pe_call (ok_goals_of T) (hr.mono (by decide)) rfl T.g_goals_of T.F_goals_of.kp T.b_goals_of .nil pass0 (pa_cons (pv 0) (pa_cons (pv 1) (pa_cons (pv 2) (pa_cons (pe_cmpR op_eq (pv 2) (pe_fld (pv 1) rfl) (nomark _)) pa_nil))))) (pe_lst pa_nil) (nomark _)) (pss_one (ps_ret pe_bl)) pss_nil)))
  (pss_one (ps_ret pe_bl))), ?_⟩
    refine ⟨_, rfl, pa, r, p, rfl, ⟨g, ZP, RP⟩, W, fun H1 lo s1 nlo hlo => ⟨lo, rfl, ⟨_, SqL.of hlo⟩, forS (wv_list (xs := p.own.map natV)) (fun i σ H' => ∃ v2, σ = [some (.ref ra), some (.ref pa), v2] ∧ Same H H' ∧ H' lo = some (.lst (p.own.map natV)) ∧ ((p.own.take i).flatMap fun c => (goalsL r p c).map fun t => (c, t)) = [])
      ⟨none, rfl, s1, hlo, rfl⟩ (fun i σ H' hP => ?_) (fun i x σ H2 hx hP => ?_) (fun σ H2 hP => ?_)⟩⟩
    · obtain ⟨_, _, _, h, _⟩ := hP
      exact SqL.of h
    · obtain ⟨v2, rfl, s2, hlo2, he⟩ := hP
      obtain ⟨c, hc, rfl⟩ : ∃ c, p.own[i]? = some c ∧ x = natV c := by
        rw [List.getElem?_map] at hx
        cases e : p.own[i]? with
        | none => rw [e] at hx; cases hx
        | some c => rw [e] at hx; exact ⟨c, rfl, (Option.some.inj hx).symm⟩
      have hcell := own_mem W RP.ok (List.mem_of_getElem? hc)
      have hpa := s2 _ _ hpa0
      have clt := cell_lt W hcell
      refine ⟨_, rfl, _, rfl, _, rfl, _, rfl, _, rfl, pa, A.c_Position, dp, _, _, rfl, hpa, T.cl_Position, T.n_Position_king, po_king _, rfl, ra, pa, r, p, c, ?_, ZR.same s2, ⟨g, ZP.same s2, RP⟩, hcell, fun H3 q3 s3 nq3 hq3 => ?_⟩
      · show [V.ref ra, .ref pa, .int (c : Int), .bl (decide (V.int (c : Int) = V.int g.king))] = _
        rw [RP.kingE (by omega)]
      · refine ⟨by decide, fun p4 n4 => ⟨_, _, _, rfl, rfl, SqL.of (same_new n4 _ _ hq3), SqL.of upd_same, _, rfl, ?_⟩⟩
        have s4 := s3.trans (same_new (o := .lst []) n4)
        cases hg : goalsL r p c with
        | nil =>
          refine if_f rfl ⟨_, rfl, s2.trans s4, s4 _ _ hlo2, ?_⟩
          rw [take_more hc, List.flatMap_append, he]
          simp [hg]
        | cons t ts =>
          refine if_t rfl ?_
          have hne : (movesL r p).isEmpty = false := by
            rw [Bool.eq_false_iff]
            intro z
            have z' := List.isEmpty_iff.mp z
            have hm : (c, t) ∈ movesL r p := List.mem_flatMap.mpr ⟨c, List.mem_of_getElem? hc, List.mem_map.mpr ⟨t, by rw [hg]; exact List.mem_cons_self, rfl⟩⟩
            rw [z'] at hm
            cases hm
          have q := q _ (s2.trans s4)
          rw [hne] at q
          exact q
    · obtain ⟨v2, rfl, s2, hlo2, he⟩ := hP
      rw [List.length_map, List.take_length] at he
      have q := q _ s2
      rw [show movesL r p = [] from he] at q
      exact q
end
end Tf

set_option maxRecDepth 100000
set_option maxHeartbeats 1000000
/-! # Who is against whom; what is taken -/
namespace TfP
open Tafl Tf
theorem taken_no {r : Rules} {p : Pos} (W : RulesWf r) (ok : PosOk r p) {c : Nat} (hk : p.king = c) : p.hunters.testBit c = false ∧ p.men.testBit c = false := by
  subst hk
  rcases ok.k with k | k
  · have e255 : TAKEN = 255 := rfl
    refine ⟨Bool.eq_false_iff.mpr fun z => ?_, Bool.eq_false_iff.mpr fun z => ?_⟩
    · have := cell_lt W (ok.h _ z); omega
    · have := cell_lt W (ok.m _ z); omega
  · exact ⟨k.2.1, k.2.2⟩
theorem on_hunter {r : Rules} {p : Pos} (W : RulesWf r) (ok : PosOk r p) (c : Nat) : (p.on c == .hunter) = p.hunters.testBit c := by
  unfold Pos.on
  by_cases h1 : p.king = c
  · rw [if_pos h1, (taken_no W ok h1).1]; rfl
  · rw [if_neg h1]
    cases p.hunters.testBit c <;> cases p.men.testBit c <;> rfl
theorem on_man {r : Rules} {p : Pos} (W : RulesWf r) (ok : PosOk r p) (c : Nat) : (p.on c == .man) = p.men.testBit c := by
  unfold Pos.on
  by_cases h1 : p.king = c
  · rw [if_pos h1, (taken_no W ok h1).2]; rfl
  · rw [if_neg h1]
    cases h : p.hunters.testBit c with
    | true => rw [ok.hm c h]; rfl
    | false => cases p.men.testBit c <;> rfl
theorem on_king (p : Pos) (c : Nat) : (p.on c == .king) = decide (p.king = c) := by
  unfold Pos.on
  by_cases h1 : p.king = c
  · rw [if_pos h1, decide_eq_true h1]; rfl
  · rw [if_neg h1, decide_eq_false h1]
    cases p.hunters.testBit c <;> cases p.men.testBit c <;> rfl
def hunterOr (r : Rules) (p : Pos) : Option Nat → Bool
  | some b => p.on b == .hunter || r.against p true b
  | none => false
def helperOr (r : Rules) (p : Pos) : Option Nat → Bool
  | some b => r.helps false (p.on b) || r.against p false b
  | none => false
def shutB (r : Rules) (p : Pos) (d : Nat) : Bool := if r.four = true then [0, 1, 2, 3].all fun e => hunterOr r p (r.next e p.king) else hunterOr r p (r.next d p.king)
def takenH1 (r : Rules) (p : Pos) (t d : Nat) : List Nat := match r.next d t with
  | some n => if p.hunters.testBit n = true ∧ helperOr r p (r.next d n) = true then [n] else []
  | none => []
def takenH (r : Rules) (p : Pos) (t : Nat) : List Nat := if p.king = t ∧ r.armed = false then [] else [0, 1, 2, 3].flatMap (takenH1 r p t)
def takenM1 (r : Rules) (p : Pos) (t d : Nat) : List Nat := match r.next d t with
  | some n => (if p.men.testBit n = true ∧ hunterOr r p (r.next d n) = true then [n] else []) ++ (if p.king = n ∧ shutB r p d = true then [n] else [])
  | none => []
def takenM (r : Rules) (p : Pos) (t : Nat) : List Nat := [0, 1, 2, 3].flatMap (takenM1 r p t)
end TfP
namespace Tf
open PySem PySem.Spec PyProof.Rows L2 TfP
def enmA (A : Adr) (men : Bool) : Addr := if men = true then A.a_AGAINST_MEN else A.a_AGAINST_HUNTERS
theorem inV_nats (c : Nat) (l : List Nat) : inV (.int (c : Int)) (l.map natV) = decide (c ∈ l) := by
  have e : l.map natV = (l.map fun (x : Nat) => (x : Int)).map V.int := by rw [List.map_map]; rfl
  rw [e, inV_ints, Bool.eq_iff_iff, List.contains_iff_mem, decide_eq_true_iff, List.mem_map]
  exact ⟨fun ⟨d, hd, h⟩ => by rw [← Int.ofNat_inj.mp h]; exact hd, fun h => ⟨c, h, rfl⟩⟩
theorem inV_non (l : List Nat) : inV .non (l.map natV) = false := by
  unfold inV
  rw [List.any_map, Bool.eq_false_iff]
  intro z
  obtain ⟨x, _, h⟩ := List.any_eq_true.mp z
  cases h
theorem flat_nats (l : List Nat) : (l.map natV).all flatV = true := by
  rw [List.all_map]
  exact List.all_eq_true.mpr fun _ _ => rfl
theorem PoR.inH {f : PF} {p : Tafl.Pos} {r : Tafl.Rules} (R : PoR f p r) (c : Nat) : inV (.int (c : Int)) (f.hs.map natV) = p.hunters.testBit c := by
  rw [inV_nats, Bool.eq_iff_iff, decide_eq_true_iff, R.h]
theorem PoR.inM {f : PF} {p : Tafl.Pos} {r : Tafl.Rules} (R : PoR f p r) (c : Nat) : inV (.int (c : Int)) (f.ms.map natV) = p.men.testBit c := by
  rw [inV_nats, Bool.eq_iff_iff, decide_eq_true_iff, R.m]
section
variable {P : Program} {w : World} {K : PySem.W.Frag} {mg : Str → Option Value} {base : Heap} {A : Adr}
theorem enm_tup (T : Txt K mg A) (men : Bool) (H : Hp) : SqT K H (enmA A men) [.int (if men = true then 2 else 1), .int 3] := by
  cases men
  · exact T.t_AGAINST_HUNTERS.sq H
  · exact T.t_AGAINST_MEN.sq H
theorem hates_in (e : Nat) (men : Bool) : inV (.int (e : Int)) [.int (if men = true then 2 else 1), .int 3] = Tafl.hates e men := by
  rw [in2]
  unfold Tafl.hates
  rw [Bool.eq_iff_iff, Bool.or_eq_true, Bool.or_eq_true, decide_eq_true_iff, decide_eq_true_iff, beq_iff_eq]
  cases men
  · rw [if_neg Bool.false_ne_true, if_neg Bool.false_ne_true, beq_iff_eq]; omega
  · rw [if_pos rfl, if_pos rfl, beq_iff_eq]; omega
def sp_is_against (A : Adr) : Sp := fun vs H Q _ => ∃ ra pa r p, ∃ c : Nat, ∃ men : Bool, vs = [.ref ra, .ref pa, .int (c : Int), .ref (enmA A men)] ∧ Rl A H ra r ∧ Po A H pa p r ∧ r.isCell c = true ∧ Q (.bl (r.against p men c)) H
theorem ok_is_against (T : Txt K mg A) : FnOk P w K mg base CX0 2 A.f_is_against A.d_is_against ["rules", "position", "cell", "enmities"] (sp_is_against A) := by
  refine T.F_is_against.ok sc_is_against (fun vs H Q E h => ?_) (fun cdv B outer s H vs Q E hr h => ?_)
  · obtain ⟨ra, pa, r, p, c, men, rfl, _⟩ := h
    rfl
  · obtain ⟨ra, pa, r, p, c, men, rfl, ⟨f, pe, pw, Z, R⟩, ⟨g, ZP, RP⟩, hc, q⟩ := h
    obtain ⟨dr, hra⟩ := Z.obj
    obtain ⟨dp, hpa⟩ := ZP.obj
    refine ⟨_, (pss_cons (ps_if (pt_cmp (pc_din (hu_of hr) (pv 2) (pe_fld (pv 0) rfl)) rfl) (pss_one (ps_ret (pe_cmpR op_in_seq (pe_fld (pv 0) rfl) (pv 3) (by rfl)))) pss_nil)
  (pss_one (ps_ret (pe_and (pe_cmpR op_eq (pv 2) (pe_fld (pv 0) rfl) (nomark _)) (pe_and (pe_not (pe_meth (pv 1) T.cl_Position T.m_Position_has_piece (ok_Position_has_piece T) (hr.mono (by decide)) T.b_Position_has_piece .nil pass0 (pa_cons (pv 2) pa_nil))) (pe_one (pe_cmpR op_in_seq (pe_fld (pv 0) rfl) (pv 3) (by rfl)))))))), ?_⟩
    obtain ⟨o, hg, eo⟩ := Z.de.get c
    have ht := enm_tup T men H
    refine ⟨_, rfl, _, rfl, ra, A.c_Rules, dr, _, _, rfl, hra, T.cl_Rules, T.n_Rules_exits, ru_exits _, _, o, rfl, hg, _, rfl, ?_⟩
    rw [eo, R.exit c]
    unfold Tafl.Rules.against at q
    have last : ∀ (e : Nat) (b : Bool), Tafl.hates e men = b → Q (.bl b) H → Q (.bl (if false = true then !inV (.int (e : Int)) [.int (if men = true then 2 else 1), .int 3] else inV (.int (e : Int)) [.int (if men = true then 2 else 1), .int 3])) H := fun e b hb hq => by
      rw [if_neg Bool.false_ne_true, hates_in, hb]; exact hq
    cases hk : r.kindAt c with
    | exit =>
      rw [hk] at q
      refine if_t rfl ⟨_, rfl, ra, A.c_Rules, dr, _, _, rfl, hra, T.cl_Rules, T.n_Rules_exit_enmity, ru_exit_enmity _, _, rfl, enmA A men, _, rfl, .inr ht, rfl, rfl, last _ _ (by rw [R.xe]) q⟩
    | seat =>
      rw [hk] at q
      refine if_f rfl ⟨_, rfl, _, rfl, ra, A.c_Rules, dr, _, _, rfl, hra, T.cl_Rules, T.n_Rules_seat, ru_seat _, rfl, _, rfl, ?_⟩
      rw [R.seatE c, hk]
      refine if_t rfl ⟨_, rfl, pa, dp, _, rfl, hpa, po_m_has_piece g, _, rfl, pa, g, (c : Int), rfl, ZP, _, rfl, _, rfl, ?_⟩
      rw [RP.piece R.wf hc, Bool.not_not]
      have q : Q (.bl (p.on c == .none && Tafl.hates r.seat men)) H := q
      cases hon : (p.on c == Tafl.Piece.none) with
      | true =>
        rw [hon, Bool.true_and] at q
        exact if_t rfl ⟨_, rfl, ra, A.c_Rules, dr, _, _, rfl, hra, T.cl_Rules, T.n_Rules_seat_enmity, ru_seat_enmity _, _, rfl, enmA A men, _, rfl, .inr ht, rfl, rfl, last _ _ (by rw [R.se]) q⟩
      | false =>
        rw [hon, Bool.false_and] at q
        exact if_f rfl q
    | plain =>
      rw [hk] at q
      refine if_f rfl ⟨_, rfl, _, rfl, ra, A.c_Rules, dr, _, _, rfl, hra, T.cl_Rules, T.n_Rules_seat, ru_seat _, rfl, _, rfl, ?_⟩
      rw [R.seatE c, hk]
      exact if_f rfl q
    | wall =>
      rw [hk] at q
      refine if_f rfl ⟨_, rfl, _, rfl, ra, A.c_Rules, dr, _, _, rfl, hra, T.cl_Rules, T.n_Rules_seat, ru_seat _, rfl, _, rfl, ?_⟩
      rw [R.seatE c, hk]
      exact if_f rfl q
def sp_hunter_or (A : Adr) : Sp := fun vs H Q _ => ∃ ra pa r p o, vs = [.ref ra, .ref pa, optV o] ∧ Rl A H ra r ∧ Po A H pa p r ∧ (∀ c, o = some c → r.isCell c = true) ∧ Q (.bl (hunterOr r p o)) H
theorem ok_has_hunter_or_against (T : Txt K mg A) : FnOk P w K mg base CX0 3 A.f_has_hunter_or_against A.d_has_hunter_or_against ["rules", "position", "cell"] (sp_hunter_or A) := by
  refine T.F_has_hunter_or_against.ok sc_has_hunter_or_against (fun vs H Q E h => ?_) (fun cdv B outer s H vs Q E hr h => ?_)
  · obtain ⟨ra, pa, r, p, o, rfl, _⟩ := h
    rfl
  · obtain ⟨ra, pa, r, p, o, rfl, ZR, ⟨g, ZP, RP⟩, hc, q⟩ := h
    have W : RulesWf r := by obtain ⟨_, _, _, _, R⟩ := ZR; exact R.wf
    obtain ⟨dp, hpa⟩ := ZP.obj
    refine ⟨_, (pss_one (ps_ret (pe_and (pe_cmpR op_notN (pv 2) pe_non (nomark _)) (pe_one (pe_or (pe_cmpR op_in_seq (pv 2) (pe_fld (pv 1) rfl) (by rfl)) (pe_one (pe_call (ok_is_against T) (hr.mono (by decide)) rfl T.g_is_against T.F_is_against.kp T.b_is_against .nil pass0 (pa_cons (pv 0) (pa_cons (pv 1) (pa_cons (pv 2) (pa_cons (pe_gr T.g_AGAINST_MEN) pa_nil))))))))))), ?_⟩
    refine ⟨_, rfl, rfl, _, rfl, ?_⟩
    cases o with
    | none => exact if_f rfl q
    | some c =>
      refine if_t rfl ⟨_, rfl, _, rfl, pa, A.c_Position, dp, _, _, rfl, hpa, T.cl_Position, T.n_Position_hunters, po_hunters _, g.hl, _, rfl, .inl (SqL.of ZP.hl), rfl, flat_nats _, _, rfl, ?_⟩
      have hin : (if false = true then !inV (.int (c : Int)) (g.hs.map natV) else inV (.int (c : Int)) (g.hs.map natV)) = p.hunters.testBit c := by rw [if_neg Bool.false_ne_true, RP.inH]
      have q : Q (.bl (p.on c == .hunter || r.against p true c)) H := q
      rw [on_hunter W RP.ok] at q
      cases hh : p.hunters.testBit c with
      | true =>
        rw [hh, Bool.true_or] at q
        exact if_t (hin.trans hh) q
      | false =>
        rw [hh, Bool.false_or] at q
        exact if_f (hin.trans hh) ⟨_, rfl, _, rfl, _, rfl, ra, pa, r, p, c, true, rfl, ZR, ⟨g, ZP, RP⟩, hc c rfl, q⟩
def sp_is_helper (A : Adr) : Sp := fun vs H Q _ => ∃ ra pa r p o, vs = [.ref ra, .ref pa, optV o] ∧ Rl A H ra r ∧ Po A H pa p r ∧ (∀ c, o = some c → r.isCell c = true) ∧ Q (.bl (helperOr r p o)) H
theorem ok_is_helper (T : Txt K mg A) : FnOk P w K mg base CX0 3 A.f_is_helper A.d_is_helper ["rules", "position", "cell"] (sp_is_helper A) := by
  refine T.F_is_helper.ok sc_is_helper (fun vs H Q E h => ?_) (fun cdv B outer s H vs Q E hr h => ?_)
  · obtain ⟨ra, pa, r, p, o, rfl, _⟩ := h
    rfl
  · obtain ⟨ra, pa, r, p, o, rfl, ⟨f, pe, pw, Z, R⟩, ⟨g, ZP, RP⟩, hc, q⟩ := h
    have W : RulesWf r := R.wf
    obtain ⟨dr, hra⟩ := Z.obj
    obtain ⟨dp, hpa⟩ := ZP.obj
    refine ⟨_, (pss_cons (ps_if (pt_cmpR op_isN (pv 2) pe_non (nomark _)) (pss_one (ps_ret pe_bl)) pss_nil)
  (pss_cons (ps_if (PW.pt (pw_or (pt_cmpR op_in_seq (pv 2) (pe_fld (pv 1) rfl) (by rfl)) (pw_or1 (PW.pt (pw_and (pt_cmpR op_eq (pv 2) (pe_fld (pv 1) rfl) (nomark _)) (pw_and1 (pt_val (pe_fld (pv 0) rfl)))))))) (pss_one (ps_ret pe_bl)) pss_nil)
  (pss_one (ps_ret (pe_call (ok_is_against T) (hr.mono (by decide)) rfl T.g_is_against T.F_is_against.kp T.b_is_against .nil pass0 (pa_cons (pv 0) (pa_cons (pv 1) (pa_cons (pv 2) (pa_cons (pe_gr T.g_AGAINST_HUNTERS) pa_nil))))))))), ?_⟩
    refine ⟨_, rfl, rfl, _, rfl, ?_⟩
    cases o with
    | none => exact if_t rfl q
    | some c =>
      refine if_f rfl ⟨_, rfl, _, rfl, pa, A.c_Position, dp, _, _, rfl, hpa, T.cl_Position, T.n_Position_men, po_men _, g.ml, _, rfl, .inl (SqL.of ZP.ml), rfl, flat_nats _, _, rfl, ?_⟩
      have hin : (if false = true then !inV (.int (c : Int)) (g.ms.map natV) else inV (.int (c : Int)) (g.ms.map natV)) = p.men.testBit c := by rw [if_neg Bool.false_ne_true, RP.inM]
      have q : Q (.bl ((p.on c == .man || (p.on c == .king && r.armed)) || r.against p false c)) H := q
      rw [on_man W RP.ok, on_king] at q
      have clt := cell_lt W (hc c rfl)
      cases hh : p.men.testBit c with
      | true =>
        rw [hh, Bool.true_or, Bool.true_or] at q
        exact if_t (hin.trans hh) q
      | false =>
        rw [hh, Bool.false_or] at q
        have rest : ∀ b, (decide (p.king = c) && r.armed) = b → b = false → (tNext { nx := tRet (tCall (sp_is_against A) [] E0 (tCons (tVar 0) (tCons (tVar 1) (tCons (tVar 2) (tCons (tC (.ref A.a_AGAINST_HUNTERS)) tNil))))) { nx := fun _ H' => Q .non H', rt := Q }, rt := Q }) [some (.ref ra), some (.ref pa), some (.int (c : Int))] H := fun b hb hb2 => by
          rw [hb, hb2, Bool.false_or] at q
          exact ⟨_, rfl, _, rfl, _, rfl, ra, pa, r, p, c, false, rfl, ⟨f, pe, pw, Z, R⟩, ⟨g, ZP, RP⟩, hc c rfl, q⟩
        refine if_f (hin.trans hh) ⟨_, rfl, _, rfl, pa, A.c_Position, dp, _, _, rfl, hpa, T.cl_Position, T.n_Position_king, po_king _, rfl, _, rfl, ?_⟩
        have ek : decide (optV (some c) = V.int g.king) = decide (p.king = c) := RP.kingE (by omega)
        rw [ek]
        cases hk : decide (p.king = c) with
        | false => exact if_f rfl (rest _ (by rw [hk]; rfl) rfl)
        | true =>
          refine if_t rfl ⟨_, rfl, ra, A.c_Rules, dr, _, _, rfl, hra, T.cl_Rules, T.n_Rules_armed, ru_armed _, _, rfl, ?_⟩
          rw [R.armed]
          cases ha : r.armed with
          | false => exact if_f rfl (rest _ (by rw [hk, ha]; rfl) rfl)
          | true =>
            rw [hk, ha] at q
            exact if_t rfl q
end
end Tf

set_option maxRecDepth 100000
set_option maxHeartbeats 1000000
/-! # What is taken -/
namespace Tf
open PySem PySem.Spec PyProof.Rows L2 TfP
theorem way_at {A : Adr} {i : Nat} {x : V} (hx : ([.ref A.a_WAY0, .ref A.a_WAY1, .ref A.a_WAY2, .ref A.a_WAY3] : List V)[i]? = some x) : i < 4 ∧ x = .ref (wayA A i) ∧ ([0, 1, 2, 3] : List Nat)[i]? = some i := by
  match i, hx with
  | 0, h => exact ⟨by omega, (Option.some.inj h).symm, rfl⟩
  | 1, h => exact ⟨by omega, (Option.some.inj h).symm, rfl⟩
  | 2, h => exact ⟨by omega, (Option.some.inj h).symm, rfl⟩
  | 3, h => exact ⟨by omega, (Option.some.inj h).symm, rfl⟩
theorem king_cell {r : Tafl.Rules} {p : Tafl.Pos} (ok : PosOk r p) (hk : p.king ≠ Tafl.TAKEN) : r.isCell p.king = true := by
  rcases ok.k with k | k
  · exact absurd k hk
  · exact k.1
section
variable {P : Program} {w : World} {K : PySem.W.Frag} {mg : Str → Option Value} {base : Heap} {A : Adr}
def sp_is_king_shut (A : Adr) : Sp := fun vs H Q _ => ∃ ra pa r p, ∃ d : Nat, vs = [.ref ra, .ref pa, .ref (wayA A d)] ∧ Rl A H ra r ∧ Po A H pa p r ∧ d < 4 ∧ p.king ≠ Tafl.TAKEN ∧ ∀ H', Same H H' → Q (.bl (shutB r p d)) H'
theorem ok_is_king_shut (T : Txt K mg A) : FnOk P w K mg base CX0 4 A.f_is_king_shut A.d_is_king_shut ["rules", "position", "way"] (sp_is_king_shut A) := by
  refine T.F_is_king_shut.ok sc_is_king_shut (fun vs H Q E h => ?_) (fun cdv B outer s H vs Q E hr h => ?_)
  · obtain ⟨ra, pa, r, p, d, rfl, _⟩ := h
    rfl
  · obtain ⟨ra, pa, r, p, d, rfl, ⟨f, pe, pw, Z, R⟩, ⟨g, ZP, RP⟩, hd, hk, q⟩ := h
    have W : RulesWf r := R.wf
    obtain ⟨dr, hra⟩ := Z.obj
    obtain ⟨dp, hpa⟩ := ZP.obj
    have hc := king_cell RP.ok hk
    refine ⟨_, (pss_cons (ps_set (i := 3) sc_is_king_shut.nd rfl (by first | exact .inl rfl | exact .inr rfl) (pe_fld (pv 1) rfl))
  (pss_cons (ps_if (pt_not (pt_val (pe_fld (pv 0) rfl))) (pss_one (ps_ret (pe_call (ok_has_hunter_or_against T) (hr.mono (by decide)) rfl T.g_has_hunter_or_against T.F_has_hunter_or_against.kp T.b_has_hunter_or_against .nil pass0 (pa_cons (pv 0) (pa_cons (pv 1) (pa_cons (pe_call (ok_beside T) (hr.mono (by decide)) rfl T.g_beside T.F_beside.kp T.b_beside .nil pass0 (pa_cons (pv 0) (pa_cons (pv 3) (pa_cons (pv 2) pa_nil)))) pa_nil)))))) pss_nil)
  (pss_one (ps_ret (pe_callB (cr_all rfl) (by rfl) T.n_all (by decide +kernel) (pa_cons (pe_lc (own := [("own", 4)]) rfl sc_is_king_shut.nd (pi_tup (pe_gr T.g_WAYS)) (blkOk_by (N := ["rules", "position", "way", "king", "own"]) (sc := defScope s_is_king_shut) (own := [("own", 4)]) (by decide +kernel)) (fun _ _ _ _ _ => (pg_name (i := 4) sc_is_king_shut.nd rfl (by first | exact .inl rfl | exact .inr rfl))) (fun _ _ _ _ _ => pts_nil) (fun _ _ _ _ _ => (pe_call (ok_has_hunter_or_against T) (hr.mono (by decide)) rfl T.g_has_hunter_or_against T.F_has_hunter_or_against.kp T.b_has_hunter_or_against .nil pass0 (pa_cons (pv 0) (pa_cons (pv 1) (pa_cons (pe_call (ok_beside T) (hr.mono (by decide)) rfl T.g_beside T.F_beside.kp T.b_beside .nil pass0 (pa_cons (pv 0) (pa_cons (pv 3) (pa_cons (pv 4) pa_nil)))) pa_nil)))))) pa_nil)))))), ?_⟩
    refine ⟨_, rfl, pa, A.c_Position, dp, _, _, rfl, hpa, T.cl_Position, T.n_Position_king, po_king _, _, rfl, ra, A.c_Rules, dr, _, _, rfl, hra, T.cl_Rules, T.n_Rules_four, ru_four _, _, rfl, ?_⟩
    rw [RP.king, kingI_cell hk, R.four]
    unfold shutB at q
    cases h4 : r.four with
    | false =>
      rw [h4, if_neg Bool.false_ne_true] at q
      refine if_t rfl ⟨_, rfl, _, rfl, _, rfl, _, rfl, _, rfl, ra, r, p.king, d, rfl, ⟨f, pe, pw, Z, R⟩, hc, hd, fun H1 s1 => ?_⟩
      exact ⟨ra, pa, r, p, r.next d p.king, rfl, ⟨f, pe, pw, Z.same s1, R⟩, ⟨g, ZP.same s1, RP⟩, fun c h => (next_some W hd hc h).1, q _ s1⟩
    | true =>
      rw [h4, if_pos rfl] at q
      refine if_f rfl ?_
      refine ⟨A.a_WAYS, rfl, ⟨_, T.t_WAYS.sq _⟩, fun D nD => lcR (wv_tup (xs := [.ref A.a_WAY0, .ref A.a_WAY1, .ref A.a_WAY2, .ref A.a_WAY3])) nD (fun H2 s2 => T.t_WAYS.sq _) ([0, 1, 2, 3] : List Nat) rfl (fun (e : Nat) => [V.bl (hunterOr r p (r.next e p.king))]) (fun i x e ys H2 Nx hx he s2 d2 lt hN hN0 => ?_) (small (by show 4 ≤ 1000000; decide)) fun H2 s2 d2 => ?_⟩
      · obtain ⟨hi, rfl, hi2⟩ := way_at hx
        rw [hi2] at he
        cases he
        refine ⟨rfl, ?_⟩
        refine ⟨_, rfl, _, rfl, _, rfl, _, rfl, _, rfl, ra, r, p.king, i, rfl, ⟨f, pe, pw, Z.same s2, R⟩, hc, hi, fun H3 s3 => ?_⟩
        have s23 := s2.trans s3
        exact ⟨ra, pa, r, p, r.next i p.king, rfl, ⟨f, pe, pw, Z.same s23, R⟩, ⟨g, ZP.same s23, RP⟩, fun c h => (next_some W hi hc h).1, ys, s3 _ _ d2, lt, hN _ _ rfl (same_put s23 nD) upd_same⟩
      · refine ⟨D, [0, 1, 2, 3].map fun e => hunterOr r p (r.next e p.king), rfl, SqL.of d2, ?_⟩
        have := q _ s2
        rw [List.all_map]
        exact this
def sp_taken_hunters (A : Adr) : Sp := fun vs H Q _ => ∃ ra pa r p, ∃ t : Nat, vs = [.ref ra, .ref pa, .int (t : Int)] ∧ Rl A H ra r ∧ Po A H pa p r ∧ r.isCell t = true ∧ ∀ H' q, Same H H' → H q = none → H' q = some (.lst ((takenH r p t).map natV)) → Q (.ref q) H'
theorem takenH1_few (r : Tafl.Rules) (p : Tafl.Pos) (t d : Nat) : (takenH1 r p t d).length ≤ 2 := by
  unfold takenH1
  split
  · split <;> simp
  · simp
theorem takenM1_few (r : Tafl.Rules) (p : Tafl.Pos) (t d : Nat) : (takenM1 r p t d).length ≤ 2 := by
  unfold takenM1
  split
  · split <;> split <;> simp
  · simp
theorem ok_taken_hunters (T : Txt K mg A) : FnOk P w K mg base CX0 4 A.f_taken_hunters A.d_taken_hunters ["rules", "position", "cell"] (sp_taken_hunters A) := by
  refine T.F_taken_hunters.ok sc_taken_hunters (fun vs H Q E h => ?_) (fun cdv B outer s H vs Q E hr h => ?_)
  · obtain ⟨ra, pa, r, p, t, rfl, _⟩ := h
    rfl
  · obtain ⟨ra, pa, r, p, t, rfl, ⟨f, pe, pw, Z, R⟩, ⟨g, ZP, RP⟩, hc, q⟩ := h
    have W : RulesWf r := R.wf
    obtain ⟨dr, hra⟩ := Z.obj
    obtain ⟨dp, hpa⟩ := ZP.obj
    have clt := cell_lt W hc
    refine ⟨_, (pss_cons (ps_if (PW.pt (pw_and (pt_cmpR op_eq (pv 2) (pe_fld (pv 1) rfl) (nomark _)) (pw_and1 (pt_not (pt_val (pe_fld (pv 0) rfl)))))) (pss_one (ps_ret (pe_lst pa_nil))) pss_nil)
  (pss_cons (ps_set (i := 3) sc_taken_hunters.nd rfl (by first | exact .inl rfl | exact .inr rfl) (pe_lst pa_nil))
  (pss_cons (ps_for PassesOwn.never rfl (pi_tup (pe_gr T.g_WAYS)) (pg_name (i := 4) sc_taken_hunters.nd rfl (by first | exact .inl rfl | exact .inr rfl))
  (pss_cons (ps_set (i := 5) sc_taken_hunters.nd rfl (by first | exact .inl rfl | exact .inr rfl) (pe_call (ok_beside T) (hr.mono (by decide)) rfl T.g_beside T.F_beside.kp T.b_beside .nil pass0 (pa_cons (pv 0) (pa_cons (pv 2) (pa_cons (pv 4) pa_nil)))))
  (pss_one (ps_if (PW.pt (pw_and (pt_cmpR op_in_seq (pv 5) (pe_fld (pv 1) rfl) (by rfl)) (pw_and1 (pt_val (pe_call (ok_is_helper T) (hr.mono (by decide)) rfl T.g_is_helper T.F_is_helper.kp T.b_is_helper .nil pass0 (pa_cons (pv 0) (pa_cons (pv 1) (pa_cons (pe_call (ok_beside T) (hr.mono (by decide)) rfl T.g_beside T.F_beside.kp T.b_beside .nil pass0 (pa_cons (pv 0) (pa_cons (pv 5) (pa_cons (pv 4) pa_nil)))) pa_nil)))))))) (pss_one (ps_expr (pe_bm PySem.F.plainAttrs_list PySem.F.slot_list_append PySem.F.type_list_append mt_append (pv 3) (pa_cons (pv 5) pa_nil)))) pss_nil))))
  (pss_one (ps_ret (pv 3)))))), ?_⟩
    have main : ¬ (p.king = t ∧ r.armed = false) → ∀ l, H l = none → (tSeq (tFor (iTup K (tC (.ref A.a_WAYS))) (gName 4) (tSeq (tAsg (tCall (sp_beside A) [] E0 (tCons (tVar 0) (tCons (tVar 2) (tCons (tVar 4) tNil)))) (gName 5))
        (tIfS (tAnd (tTest (tOp (rIn K false) (tVar 5) (tFld K (tVar 1) "hunters"))) (tTest (tCall (sp_is_helper A) [] E0 (tCons (tVar 0) (tCons (tVar 1) (tCons (tCall (sp_beside A) [] E0 (tCons (tVar 0) (tCons (tVar 5) (tCons (tVar 4) tNil)))) tNil)))))) (tDrop (tBM K "list" rAppend (tVar 3) (tCons (tVar 5) tNil))) tNext)))
        (tRet (tVar 3))) { nx := fun _ H' => Q .non H', rt := Q } [some (.ref ra), some (.ref pa), some (.int (t : Int)), some (.ref l), none, none] (upd H l (.lst [])) := fun hne l nl => by
      have hq : takenH r p t = [0, 1, 2, 3].flatMap (takenH1 r p t) := by unfold takenH; rw [if_neg hne]
      have s0 := same_new (o := .lst []) nl
      refine ⟨A.a_WAYS, rfl, ⟨_, T.t_WAYS.sq _⟩, forS (wv_tup (xs := [.ref A.a_WAY0, .ref A.a_WAY1, .ref A.a_WAY2, .ref A.a_WAY3])) (fun i σ H' => ∃ v4 v5, σ = [some (.ref ra), some (.ref pa), some (.int (t : Int)), some (.ref l), v4, v5] ∧ Same H H' ∧ H' l = some (.lst ((([0, 1, 2, 3].take i).flatMap (takenH1 r p t)).map natV)))
        ⟨none, none, rfl, s0, upd_same⟩ (fun _ _ _ _ => T.t_WAYS.sq _) (fun i x σ H1 hx hP => ?_) (fun σ H1 hP => ?_)⟩
      · obtain ⟨v4, v5, rfl, s1, hl⟩ := hP
        obtain ⟨hi, rfl, hi2⟩ := way_at hx
        refine ⟨_, rfl, _, rfl, _, rfl, ra, r, t, i, rfl, ⟨f, pe, pw, Z.same s1, R⟩, hc, hi, fun H2 s2 => ?_⟩
        have s12 := s1.trans s2
        have hl2 := s2 _ _ hl
        have hpa := s12 _ _ hpa
        have few : (([0, 1, 2, 3].take i).flatMap (takenH1 r p t)).length ≤ 8 := by
          have h := flat_few (takenH1 r p t) 2 (takenH1_few r p t) ([0, 1, 2, 3].take i)
          have h2 : (([0, 1, 2, 3] : List Nat).take i).length ≤ 4 := List.length_take_le' _ _
          omega
        have fin : ∀ ys, takenH1 r p t i = ys → (([0, 1, 2, 3].take (i + 1)).flatMap (takenH1 r p t)) = (([0, 1, 2, 3].take i).flatMap (takenH1 r p t)) ++ ys := fun ys hy => by
          rw [take_more hi2, List.flatMap_append, ← hy]; simp
        refine ⟨_, rfl, _, rfl, pa, A.c_Position, dp, _, _, rfl, hpa, T.cl_Position, T.n_Position_hunters, po_hunters _, g.hl, _, rfl, .inl (SqL.of (s12 _ _ ZP.hl)), ?_, flat_nats _, _, rfl, ?_⟩
        · cases r.next i t <;> rfl
        have e1 : takenH1 r p t i = (match r.next i t with | some n => if p.hunters.testBit n = true ∧ helperOr r p (r.next i n) = true then [n] else [] | none => []) := rfl
        cases hn : r.next i t with
        | none =>
          rw [hn] at e1
          refine if_f (by rw [if_neg Bool.false_ne_true]; exact inV_non _) ⟨_, _, rfl, s12, ?_⟩
          rw [fin [] e1, List.append_nil]
          exact hl2
        | some n =>
          rw [hn] at e1
          have hcn := (next_some W hi hc hn).1
          have hin : (if false = true then !inV (.int (n : Int)) (g.hs.map natV) else inV (.int (n : Int)) (g.hs.map natV)) = p.hunters.testBit n := by rw [if_neg Bool.false_ne_true, RP.inH]
          cases hh : p.hunters.testBit n with
          | false =>
            refine if_f (hin.trans hh) ⟨_, _, rfl, s12, ?_⟩
            rw [fin [] (e1.trans (if_neg fun z => by rw [hh] at z; cases z.1)), List.append_nil]
            exact hl2
          | true =>
            refine if_t (hin.trans hh) ⟨_, rfl, _, rfl, _, rfl, _, rfl, _, rfl, ra, r, n, i, rfl, ⟨f, pe, pw, Z.same s12, R⟩, hcn, hi, fun H3 s3 => ?_⟩
            have s13 := s12.trans s3
            refine ⟨ra, pa, r, p, r.next i n, rfl, ⟨f, pe, pw, Z.same s13, R⟩, ⟨g, ZP.same s13, RP⟩, fun c h => (next_some W hi hcn h).1, _, rfl, ?_⟩
            cases hb : helperOr r p (r.next i n) with
            | false =>
              refine if_f rfl ⟨_, _, rfl, s13, ?_⟩
              rw [fin [] (e1.trans (if_neg fun z => by rw [hb] at z; cases z.2)), List.append_nil]
              exact s3 _ _ hl2
            | true =>
              refine if_t rfl ⟨_, rfl, .inl ⟨rfl, _, SqL.of (s3 _ _ hl2)⟩, _, rfl, l, _, _, rfl, rfl, s3 _ _ hl2, small (by rw [List.length_map]; omega), _, _, rfl, same_put s13 nl, ?_⟩
              rw [upd_same, fin [n] (e1.trans (if_pos ⟨hh, hb⟩)), List.map_append]
              rfl
      · obtain ⟨v4, v5, rfl, s1, hl⟩ := hP
        exact ⟨_, rfl, q H1 l s1 nl (by rw [hq]; exact hl)⟩
    refine ⟨_, rfl, _, rfl, pa, A.c_Position, dp, _, _, rfl, hpa, T.cl_Position, T.n_Position_king, po_king _, rfl, _, rfl, ?_⟩
    rw [RP.kingE (by omega)]
    by_cases hk : p.king = t
    · refine if_t (decide_eq_true hk) ⟨_, rfl, ra, A.c_Rules, dr, _, _, rfl, hra, T.cl_Rules, T.n_Rules_armed, ru_armed _, _, rfl, ?_⟩
      rw [R.armed]
      cases ha : r.armed with
      | true => exact if_f rfl ⟨by decide, fun l nl => main (fun z => by rw [ha] at z; cases z.2) l nl⟩
      | false =>
        refine if_t rfl ⟨by decide, fun l nl => q _ l (same_new nl) nl ?_⟩
        unfold takenH
        rw [if_pos ⟨hk, ha⟩]
        exact upd_same
    · exact if_f (decide_eq_false hk) ⟨by decide, fun l nl => main (fun z => hk z.1) l nl⟩
def sp_taken_men (A : Adr) : Sp := fun vs H Q _ => ∃ ra pa r p, ∃ t : Nat, vs = [.ref ra, .ref pa, .int (t : Int)] ∧ Rl A H ra r ∧ Po A H pa p r ∧ r.isCell t = true ∧ ∀ H' q, Same H H' → H q = none → H' q = some (.lst ((takenM r p t).map natV)) → Q (.ref q) H'
theorem ok_taken_men (T : Txt K mg A) : FnOk P w K mg base CX0 5 A.f_taken_men A.d_taken_men ["rules", "position", "cell"] (sp_taken_men A) := by
  refine T.F_taken_men.ok sc_taken_men (fun vs H Q E h => ?_) (fun cdv B outer s H vs Q E hr h => ?_)
  · obtain ⟨ra, pa, r, p, t, rfl, _⟩ := h
    rfl
  · obtain ⟨ra, pa, r, p, t, rfl, ⟨f, pe, pw, Z, R⟩, ⟨g, ZP, RP⟩, hc, q⟩ := h
    have W : RulesWf r := R.wf
    obtain ⟨dr, hra⟩ := Z.obj
    obtain ⟨dp, hpa0⟩ := ZP.obj
    have clt := cell_lt W hc
    refine ⟨_, (pss_cons (ps_set (i := 3) sc_taken_men.nd rfl (by first | exact .inl rfl | exact .inr rfl) (pe_lst pa_nil))
  (pss_cons (ps_for PassesOwn.never rfl (pi_tup (pe_gr T.g_WAYS)) (pg_name (i := 4) sc_taken_men.nd rfl (by first | exact .inl rfl | exact .inr rfl))
  (pss_cons (ps_set (i := 5) sc_taken_men.nd rfl (by first | exact .inl rfl | exact .inr rfl) (pe_call (ok_beside T) (hr.mono (by decide)) rfl T.g_beside T.F_beside.kp T.b_beside .nil pass0 (pa_cons (pv 0) (pa_cons (pv 2) (pa_cons (pv 4) pa_nil)))))
  (pss_cons (ps_if (PW.pt (pw_and (pt_cmpR op_in_seq (pv 5) (pe_fld (pv 1) rfl) (by rfl)) (pw_and1 (pt_val (pe_call (ok_has_hunter_or_against T) (hr.mono (by decide)) rfl T.g_has_hunter_or_against T.F_has_hunter_or_against.kp T.b_has_hunter_or_against .nil pass0 (pa_cons (pv 0) (pa_cons (pv 1) (pa_cons (pe_call (ok_beside T) (hr.mono (by decide)) rfl T.g_beside T.F_beside.kp T.b_beside .nil pass0 (pa_cons (pv 0) (pa_cons (pv 5) (pa_cons (pv 4) pa_nil)))) pa_nil)))))))) (pss_one (ps_expr (pe_bm PySem.F.plainAttrs_list PySem.F.slot_list_append PySem.F.type_list_append mt_append (pv 3) (pa_cons (pv 5) pa_nil)))) pss_nil)
  (pss_one (ps_if (PW.pt (pw_and (pt_cmpR op_notN (pv 5) pe_non (nomark _)) (pw_and (pt_cmpR op_eq (pv 5) (pe_fld (pv 1) rfl) (nomark _)) (pw_and1 (pt_val (pe_call (ok_is_king_shut T) (hr.mono (by decide)) rfl T.g_is_king_shut T.F_is_king_shut.kp T.b_is_king_shut .nil pass0 (pa_cons (pv 0) (pa_cons (pv 1) (pa_cons (pv 4) pa_nil))))))))) (pss_one (ps_expr (pe_bm PySem.F.plainAttrs_list PySem.F.slot_list_append PySem.F.type_list_append mt_append (pv 3) (pa_cons (pv 5) pa_nil)))) pss_nil)))))
  (pss_one (ps_ret (pv 3))))), ?_⟩
    refine ⟨by decide, fun l nl => ?_⟩
    have s0 := same_new (o := .lst []) nl
    refine ⟨A.a_WAYS, rfl, ⟨_, T.t_WAYS.sq _⟩, forS (wv_tup (xs := [.ref A.a_WAY0, .ref A.a_WAY1, .ref A.a_WAY2, .ref A.a_WAY3])) (fun i σ H' => ∃ v4 v5, σ = [some (.ref ra), some (.ref pa), some (.int (t : Int)), some (.ref l), v4, v5] ∧ Same H H' ∧ H' l = some (.lst ((([0, 1, 2, 3].take i).flatMap (takenM1 r p t)).map natV)))
      ⟨none, none, rfl, s0, upd_same⟩ (fun _ _ _ _ => T.t_WAYS.sq _) (fun i x σ H1 hx hP => ?_) (fun σ H1 hP => ?_)⟩
    · obtain ⟨v4, v5, rfl, s1, hl⟩ := hP
      obtain ⟨hi, rfl, hi2⟩ := way_at hx
      refine ⟨_, rfl, _, rfl, _, rfl, ra, r, t, i, rfl, ⟨f, pe, pw, Z.same s1, R⟩, hc, hi, fun H2 s2 => ?_⟩
      have s12 := s1.trans s2
      have hl2 := s2 _ _ hl
      have hpa := s12 _ _ hpa0
      have few : (([0, 1, 2, 3].take i).flatMap (takenM1 r p t)).length ≤ 8 := by
        have h := flat_few (takenM1 r p t) 2 (takenM1_few r p t) ([0, 1, 2, 3].take i)
        have h2 : (([0, 1, 2, 3] : List Nat).take i).length ≤ 4 := List.length_take_le' _ _
        omega
      have fin : ∀ ys, takenM1 r p t i = ys → (([0, 1, 2, 3].take (i + 1)).flatMap (takenM1 r p t)) = (([0, 1, 2, 3].take i).flatMap (takenM1 r p t)) ++ ys := fun ys hy => by
        rw [take_more hi2, List.flatMap_append, ← hy]; simp
      refine ⟨_, rfl, _, rfl, pa, A.c_Position, dp, _, _, rfl, hpa, T.cl_Position, T.n_Position_men, po_men _, g.ml, _, rfl, .inl (SqL.of (s12 _ _ ZP.ml)), ?_, flat_nats _, _, rfl, ?_⟩
      · cases r.next i t <;> rfl
      have e1 : takenM1 r p t i = (match r.next i t with | some n => (if p.men.testBit n = true ∧ hunterOr r p (r.next i n) = true then [n] else []) ++ (if p.king = n ∧ shutB r p i = true then [n] else []) | none => []) := rfl
      cases hn : r.next i t with
      | none =>
        rw [hn] at e1
        refine if_f (by rw [if_neg Bool.false_ne_true]; exact inV_non _) ⟨_, rfl, rfl, _, rfl, if_f rfl ⟨_, _, rfl, s12, ?_⟩⟩
        rw [fin [] e1, List.append_nil]
        exact hl2
      | some n =>
        rw [hn] at e1
        have hcn := (next_some W hi hc hn).1
        have nlt := cell_lt W hcn
        -- the second question
        have second : ∀ (H3 : Hp) (ys : List Nat), Same H H3 → H3 l = some (.lst (((([0, 1, 2, 3].take i).flatMap (takenM1 r p t)) ++ ys).map natV)) → ys.length ≤ 1 → (if p.men.testBit n = true ∧ hunterOr r p (r.next i n) = true then [n] else []) = ys →
            (tIfS (tAnd (tTest (tOp (fun x y H Q => y = .non ∧ Q (.bl (!decide (x = .non))) H) (tVar 5) (tC .non))) (tAnd (tTest (tOp rEq (tVar 5) (tFld K (tVar 1) "king"))) (tTest (tCall (sp_is_king_shut A) [] E0 (tCons (tVar 0) (tCons (tVar 1) (tCons (tVar 4) tNil))))))) (tDrop (tBM K "list" rAppend (tVar 3) (tCons (tVar 5) tNil))) tNext)
            { nx := fun σ H' => ∃ v4 v5, σ = [some (.ref ra), some (.ref pa), some (.int (t : Int)), some (.ref l), v4, v5] ∧ Same H H' ∧ H' l = some (.lst ((([0, 1, 2, 3].take (i + 1)).flatMap (takenM1 r p t)).map natV)), rt := Q, bk := fun σ H' => tRet (tVar 3) { nx := fun _ H' => Q .non H', rt := Q } σ H', ct := fun σ H' => ∃ v4 v5, σ = [some (.ref ra), some (.ref pa), some (.int (t : Int)), some (.ref l), v4, v5] ∧ Same H H' ∧ H' l = some (.lst ((([0, 1, 2, 3].take (i + 1)).flatMap (takenM1 r p t)).map natV)) }
            [some (.ref ra), some (.ref pa), some (.int (t : Int)), some (.ref l), some (.ref (wayA A i)), some (.int (n : Int))] H3 := fun H3 ys s3 hl3 ly hys => by
          have hpa := s3 _ _ hpa0
          refine ⟨_, rfl, rfl, _, rfl, if_t rfl ⟨_, rfl, _, rfl, pa, A.c_Position, dp, _, _, rfl, hpa, T.cl_Position, T.n_Position_king, po_king _, rfl, _, rfl, ?_⟩⟩
          rw [RP.kingE (by omega)]
          by_cases hk : p.king = n
          · have hkt : p.king ≠ Tafl.TAKEN := by rw [hk]; have : Tafl.TAKEN = 255 := rfl; omega
            refine if_t (decide_eq_true hk) ⟨_, rfl, _, rfl, _, rfl, ra, pa, r, p, i, rfl, ⟨f, pe, pw, Z.same s3, R⟩, ⟨g, ZP.same s3, RP⟩, hi, hkt, fun H4 s4 => ⟨_, rfl, ?_⟩⟩
            have s34 := s3.trans s4
            cases hs : shutB r p i with
            | true =>
              refine if_t rfl ⟨_, rfl, .inl ⟨rfl, _, SqL.of (s4 _ _ hl3)⟩, _, rfl, l, _, _, rfl, rfl, s4 _ _ hl3, small (by rw [List.length_map, List.length_append]; omega), _, _, rfl, same_put s34 nl, ?_⟩
              have e2 : (if p.king = n ∧ shutB r p i = true then [n] else []) = [n] := if_pos ⟨hk, hs⟩
              rw [upd_same, fin (ys ++ [n]) (e1.trans (by show _ ++ _ = _; rw [e2, hys]))]
              simp only [List.map_append, List.append_assoc]
              rfl
            | false =>
              have e2 : (if p.king = n ∧ shutB r p i = true then [n] else []) = [] := if_neg fun z => by rw [hs] at z; cases z.2
              refine if_f rfl ⟨_, _, rfl, s34, ?_⟩
              rw [fin ys (e1.trans (by show _ ++ _ = _; rw [e2, hys, List.append_nil]))]
              exact s4 _ _ hl3
          · have e2 : (if p.king = n ∧ shutB r p i = true then [n] else []) = [] := if_neg fun z => hk z.1
            refine if_f (decide_eq_false hk) ⟨_, _, rfl, s3, ?_⟩
            rw [fin ys (e1.trans (by show _ ++ _ = _; rw [e2, hys, List.append_nil]))]
            exact hl3
        have hin : (if false = true then !inV (.int (n : Int)) (g.ms.map natV) else inV (.int (n : Int)) (g.ms.map natV)) = p.men.testBit n := by rw [if_neg Bool.false_ne_true, RP.inM]
        have hl20 : H2 l = some (.lst (((([0, 1, 2, 3].take i).flatMap (takenM1 r p t)) ++ []).map natV)) := by rw [List.append_nil]; exact hl2
        cases hh : p.men.testBit n with
        | false => exact if_f (hin.trans hh) (second H2 [] s12 hl20 (by decide) (if_neg fun z => by rw [hh] at z; cases z.1))
        | true =>
          refine if_t (hin.trans hh) ⟨_, rfl, _, rfl, _, rfl, _, rfl, _, rfl, ra, r, n, i, rfl, ⟨f, pe, pw, Z.same s12, R⟩, hcn, hi, fun H3 s3 => ?_⟩
          have s13 := s12.trans s3
          refine ⟨ra, pa, r, p, r.next i n, rfl, ⟨f, pe, pw, Z.same s13, R⟩, ⟨g, ZP.same s13, RP⟩, fun c h => (next_some W hi hcn h).1, _, rfl, ?_⟩
          cases hb : hunterOr r p (r.next i n) with
          | false => exact if_f rfl (second H3 [] s13 (s3 _ _ hl20) (by decide) (if_neg fun z => by rw [hb] at z; cases z.2))
          | true =>
            refine if_t rfl ⟨_, rfl, .inl ⟨rfl, _, SqL.of (s3 _ _ hl2)⟩, _, rfl, l, _, _, rfl, rfl, s3 _ _ hl2, small (by rw [List.length_map]; omega), ?_⟩
            refine second _ [n] (same_put s13 nl) ?_ (Nat.le_refl 1) (if_pos ⟨hh, hb⟩)
            rw [upd_same, List.map_append]
            rfl
    · obtain ⟨v4, v5, rfl, s1, hl⟩ := hP
      exact ⟨_, rfl, q H1 l s1 nl hl⟩
def sp_gone_to (A : Adr) : Sp := fun vs H Q _ => ∃ l, ∃ cs : List Nat, ∃ b t : Nat, vs = [.ref l, .int (b : Int), .int (t : Int)] ∧ H l = some (.lst (cs.map natV)) ∧ cs.length ≤ 200 ∧ ∀ H' q, Same H H' → H' q = some (.lst ((cs.map fun c => if c = b then t else c).map natV)) → Q (.ref q) H'
theorem ok_gone_to (T : Txt K mg A) : FnOk P w K mg base CX0 1 A.f_gone_to A.d_gone_to ["cells", "begin", "to"] (sp_gone_to A) := by
  refine T.F_gone_to.ok sc_gone_to (fun vs H Q E h => ?_) (fun cdv B outer s H vs Q E hr h => ?_)
  · obtain ⟨l, cs, b, t, rfl, _⟩ := h
    rfl
  · obtain ⟨l, cs, b, t, rfl, hl, few, q⟩ := h
    refine ⟨_, (pss_one (ps_ret (pe_lc (own := [("cell", 3)]) rfl sc_gone_to.nd (pi_list (pv 0)) (blkOk_by (N := ["cells", "begin", "to", "cell"]) (sc := defScope s_gone_to) (own := [("cell", 3)]) (by decide +kernel)) (fun _ _ _ _ _ => (pg_name (i := 3) sc_gone_to.nd rfl (by first | exact .inl rfl | exact .inr rfl))) (fun _ _ _ _ _ => pts_nil) (fun _ _ _ _ _ => (pe_ifExp (pt_cmpR op_eq (pv 3) (pv 1) (nomark _)) (pv 2) (pv 3)))))), ?_⟩
    refine ⟨_, rfl, l, rfl, ⟨_, SqL.of hl⟩, fun D nD => lcR (wv_list (xs := cs.map natV)) nD (fun H2 s2 => s2.seq (SqL.of hl)) cs (List.length_map _) (fun (c : Nat) => [natV (if c = b then t else c)]) (fun i x c ys H2 Nx hx hc s2 d2 lt hN hN0 => ?_) (by rw [flat_map]; exact small (by rw [List.length_map]; omega)) fun H2 s2 d2 => ?_⟩
    · rw [List.getElem?_map, hc] at hx
      obtain rfl : natV c = x := Option.some.inj hx
      refine ⟨rfl, ?_⟩
      refine ⟨_, rfl, _, rfl, rfl, _, rfl, ?_⟩
      have ed : decide (V.int (c : Int) = V.int (b : Int)) = decide (c = b) := by rw [dec_int, Bool.eq_iff_iff, beq_iff_eq, decide_eq_true_iff]; omega
      by_cases h : c = b
      · refine if_t (ed.trans (decide_eq_true h)) ⟨_, rfl, ys, d2, lt, hN _ _ (by rw [if_pos h]; rfl) (same_put s2 nD) upd_same⟩
      · refine if_f (ed.trans (decide_eq_false h)) ⟨_, rfl, ys, d2, lt, hN _ _ (by rw [if_neg h]) (same_put s2 nD) upd_same⟩
    · rw [flat_map] at d2
      exact q H2 D s2 (by rw [d2, List.map_map]; rfl)
end
end Tf

set_option maxRecDepth 100000
set_option maxHeartbeats 400000
/-! # A move's piece and what it takes: plain Lean -/
namespace TfP
open Tafl Tf
theorem mem_neighbours (r : Rules) (c : Nat) (n : Nat × Nat) : n ∈ r.neighbours c ↔ n.1 < 4 ∧ r.next n.1 c = some n.2 := by
  unfold Rules.neighbours
  rw [List.mem_filterMap]
  constructor
  · rintro ⟨d, hd, h⟩
    have hd4 : d < 4 := by
      have : d ∈ [0, 1, 2, 3] := hd
      simp at this; omega
    cases e : r.next d c with
    | none => rw [e] at h; cases h
    | some m => rw [e] at h; cases h; exact ⟨hd4, e⟩
  · rintro ⟨h1, h2⟩
    refine ⟨n.1, ?_, by rw [h2]; rfl⟩
    show n.1 ∈ [0, 1, 2, 3]
    simp; omega
theorem neighbours_four (r : Rules) (p : Pos) : ((r.neighbours p.king).length == 4 && (r.neighbours p.king).all fun (m : Nat × Nat) => p.on m.2 == .hunter || r.against p true m.2) = [0, 1, 2, 3].all fun e => hunterOr r p (r.next e p.king) := by
  unfold Rules.neighbours
  show (([0, 1, 2, 3].filterMap fun (d : Nat) => (r.next d p.king).map fun (n : Nat) => (d, n)).length == 4 && ([0, 1, 2, 3].filterMap fun (d : Nat) => (r.next d p.king).map fun (n : Nat) => (d, n)).all fun (m : Nat × Nat) => p.on m.2 == .hunter || r.against p true m.2) = _
  simp only [List.filterMap_cons, List.filterMap_nil, List.all_cons, List.all_nil]
  cases r.next 0 p.king <;> cases r.next 1 p.king <;> cases r.next 2 p.king <;> cases r.next 3 p.king <;> simp [hunterOr]
theorem hunterOr_match (r : Rules) (p : Pos) (o : Option Nat) : (match o with | some b => p.on b == .hunter || r.against p true b | none => false) = hunterOr r p o := by cases o <;> rfl
theorem kingTaken_iff (r : Rules) (q : Pos) (t : Nat) : r.kingTaken q t = true ↔ ∃ d, d < 4 ∧ r.next d t = some q.king ∧ shutB r q d = true := by
  unfold Rules.kingTaken
  rw [List.any_eq_true]
  constructor
  · rintro ⟨n, hn, h⟩
    obtain ⟨h1, h2⟩ := (mem_neighbours r t n).mp hn
    rw [Bool.and_eq_true, beq_iff_eq] at h
    refine ⟨n.1, h1, by rw [h2, h.1], ?_⟩
    have h3 := h.2
    unfold shutB
    by_cases h4 : r.four = true
    · rw [if_pos h4] at h3 ⊢
      rw [← neighbours_four]
      exact h3
    · rw [if_neg h4] at h3 ⊢
      rw [← hunterOr_match, ← h.1]
      exact h3
  · rintro ⟨d, hd, h1, h2⟩
    refine ⟨(d, q.king), (mem_neighbours r t _).mpr ⟨hd, h1⟩, ?_⟩
    rw [Bool.and_eq_true]
    refine ⟨beq_self_eq_true _, ?_⟩
    unfold shutB at h2
    by_cases h4 : r.four = true
    · rw [if_pos h4] at h2 ⊢
      rw [neighbours_four]
      exact h2
    · rw [if_neg h4] at h2 ⊢
      rw [← hunterOr_match] at h2
      exact h2
def goodOr (r : Rules) (p : Pos) (hunters : Bool) : Option Nat → Bool
  | some b => r.helps hunters (p.on b) || r.against p hunters b
  | none => false
theorem good_hunter (r : Rules) (p : Pos) (o : Option Nat) : goodOr r p true o = hunterOr r p o := by cases o <;> rfl
theorem good_helper (r : Rules) (p : Pos) (o : Option Nat) : goodOr r p false o = helperOr r p o := by cases o <;> rfl
theorem menTaken_iff (r : Rules) (q : Pos) (hunters : Bool) (t c : Nat) : c ∈ r.menTaken q hunters t ↔ ¬ (hunters = false ∧ q.king = t ∧ r.armed = false) ∧ ∃ d, d < 4 ∧ r.next d t = some c ∧ (q.on c == (if hunters = true then Piece.man else .hunter)) = true ∧ goodOr r q hunters (r.next d c) = true := by
  unfold Rules.menTaken
  by_cases h0 : hunters = false ∧ q.king = t ∧ r.armed = false
  · rw [if_pos h0]
    exact ⟨(fun h => by cases h), fun h => absurd h0 h.1⟩
  · rw [if_neg h0, List.mem_filterMap]
    constructor
    · rintro ⟨n, hn, h⟩
      obtain ⟨h1, h2⟩ := (mem_neighbours r t n).mp hn
      by_cases hon : (q.on n.2 == (if hunters = true then Piece.man else .hunter)) = true
      · rw [if_pos hon] at h
        cases e : r.next n.1 n.2 with
        | none => rw [e] at h; cases h
        | some b =>
          rw [e] at h
          have h' : (if r.helps hunters (q.on b) = true ∨ r.against q hunters b = true then some n.2 else none) = some c := h
          split at h'
          · next hg =>
            cases h'
            exact ⟨h0, n.1, h1, h2, hon, by rw [e]; show (_ || _) = true; rw [Bool.or_eq_true]; exact hg⟩
          · cases h'
      · rw [if_neg hon] at h; cases h
    · rintro ⟨_, d, hd, h1, h2, h3⟩
      refine ⟨(d, c), (mem_neighbours r t _).mpr ⟨hd, h1⟩, ?_⟩
      rw [if_pos h2]
      cases e : r.next d c with
      | none => rw [e] at h3; cases h3
      | some b =>
        rw [e] at h3
        have h3' : (r.helps hunters (q.on b) || r.against q hunters b) = true := h3
        rw [Bool.or_eq_true] at h3'
        exact if_pos h3'
theorem mem03 {d : Nat} : d ∈ [0, 1, 2, 3] ↔ d < 4 := by simp; omega
theorem takenH_mem {r : Rules} {q : Pos} (W : RulesWf r) (ok : PosOk r q) (t c : Nat) : c ∈ takenH r q t ↔ c ∈ r.menTaken q false t := by
  rw [menTaken_iff]
  unfold takenH
  by_cases h0 : q.king = t ∧ r.armed = false
  · rw [if_pos h0]
    exact ⟨(fun h => by cases h), fun h => absurd ⟨rfl, h0⟩ h.1⟩
  · rw [if_neg h0, List.mem_flatMap]
    constructor
    · rintro ⟨d, hd, h⟩
      unfold takenH1 at h
      cases e : r.next d t with
      | none => rw [e] at h; cases h
      | some n =>
        rw [e] at h
        have h' : c ∈ (if q.hunters.testBit n = true ∧ helperOr r q (r.next d n) = true then [n] else []) := h
        split at h'
        · next hh =>
          cases List.mem_singleton.mp h'
          exact ⟨fun z => h0 z.2, d, mem03.mp hd, e, by rw [if_neg Bool.false_ne_true, on_hunter W ok]; exact hh.1, by rw [good_helper]; exact hh.2⟩
        · cases h'
    · rintro ⟨_, d, hd, h1, h2, h3⟩
      refine ⟨d, mem03.mpr hd, ?_⟩
      rw [if_neg Bool.false_ne_true, on_hunter W ok] at h2
      rw [good_helper] at h3
      unfold takenH1
      rw [h1]
      show c ∈ (if q.hunters.testBit c = true ∧ helperOr r q (r.next d c) = true then [c] else [])
      rw [if_pos ⟨h2, h3⟩]
      exact List.mem_singleton.mpr rfl
theorem takenM_mem {r : Rules} {q : Pos} (W : RulesWf r) (ok : PosOk r q) (t c : Nat) : c ∈ takenM r q t ↔ c ∈ r.menTaken q true t ∨ (r.kingTaken q t = true ∧ c = q.king) := by
  rw [menTaken_iff, kingTaken_iff]
  unfold takenM
  rw [List.mem_flatMap]
  constructor
  · rintro ⟨d, hd, h⟩
    unfold takenM1 at h
    cases e : r.next d t with
    | none => rw [e] at h; cases h
    | some n =>
      rw [e] at h
      have h' : c ∈ (if q.men.testBit n = true ∧ hunterOr r q (r.next d n) = true then [n] else []) ++ (if q.king = n ∧ shutB r q d = true then [n] else []) := h
      rcases List.mem_append.mp h' with h' | h'
      · split at h'
        · next hh =>
          cases List.mem_singleton.mp h'
          exact .inl ⟨(fun z => by cases z.1), d, mem03.mp hd, e, by rw [if_pos rfl, on_man W ok]; exact hh.1, by rw [good_hunter]; exact hh.2⟩
        · cases h'
      · split at h'
        · next hh =>
          cases List.mem_singleton.mp h'
          exact .inr ⟨⟨d, mem03.mp hd, by rw [e, hh.1], hh.2⟩, hh.1.symm⟩
        · cases h'
  · rintro (⟨_, d, hd, h1, h2, h3⟩ | ⟨⟨d, hd, h1, h2⟩, rfl⟩)
    · refine ⟨d, mem03.mpr hd, ?_⟩
      rw [if_pos rfl, on_man W ok] at h2
      rw [good_hunter] at h3
      unfold takenM1
      rw [h1]
      show c ∈ (if q.men.testBit c = true ∧ hunterOr r q (r.next d c) = true then [c] else []) ++ _
      rw [if_pos ⟨h2, h3⟩]
      exact List.mem_append.mpr (.inl (List.mem_singleton.mpr rfl))
    · refine ⟨d, mem03.mpr hd, ?_⟩
      unfold takenM1
      rw [h1]
      have e2 : (if q.king = q.king ∧ shutB r q d = true then [q.king] else []) = [q.king] := if_pos ⟨rfl, h2⟩
      show q.king ∈ _ ++ (if q.king = q.king ∧ shutB r q d = true then [q.king] else [])
      rw [e2]
      exact List.mem_append.mpr (.inr (List.mem_singleton.mpr rfl))
theorem flat4_nodup {r : Rules} (W : RulesWf r) {t : Nat} (ht : r.isCell t = true) {f : Nat → List Nat} (h1 : ∀ d, d < 4 → (f d).Nodup) (h2 : ∀ d c, d < 4 → c ∈ f d → r.next d t = some c) : ([0, 1, 2, 3].flatMap f).Nodup := by
  show (List.flatMap _ _).Pairwise _
  rw [List.pairwise_flatMap]
  refine ⟨fun d hd => h1 d (mem03.mp hd), ?_⟩
  have : ∀ d e, d < 4 → e < 4 → d ≠ e → ∀ x, x ∈ f d → ∀ y, y ∈ f e → x ≠ y := fun d e hd he hne x hx y hy z => by
    subst z
    exact beyond_apart hd he hne (next_some W hd ht (h2 d x hd hx)).2.2 (next_some W he ht (h2 e x he hy)).2.2
  simp only [List.pairwise_cons, List.mem_cons, List.not_mem_nil, or_false]
  refine ⟨fun e he => ?_, fun e he => ?_, fun e he => ?_, fun e he => he.elim, List.Pairwise.nil⟩
  · exact this 0 e (by omega) (by omega) (by omega)
  · exact this 1 e (by omega) (by omega) (by omega)
  · exact this 2 e (by omega) (by omega) (by omega)
theorem takenH1_mem {r : Rules} {q : Pos} {t d c : Nat} (h : c ∈ takenH1 r q t d) : r.next d t = some c := by
  unfold takenH1 at h
  cases e : r.next d t with
  | none => rw [e] at h; cases h
  | some n =>
    rw [e] at h
    have h' : c ∈ (if q.hunters.testBit n = true ∧ helperOr r q (r.next d n) = true then [n] else []) := h
    split at h'
    · cases List.mem_singleton.mp h'; rfl
    · cases h'
theorem takenM1_mem {r : Rules} {q : Pos} {t d c : Nat} (h : c ∈ takenM1 r q t d) : r.next d t = some c := by
  unfold takenM1 at h
  cases e : r.next d t with
  | none => rw [e] at h; cases h
  | some n =>
    rw [e] at h
    have h' : c ∈ (if q.men.testBit n = true ∧ hunterOr r q (r.next d n) = true then [n] else []) ++ (if q.king = n ∧ shutB r q d = true then [n] else []) := h
    rcases List.mem_append.mp h' with h' | h'
    · split at h'
      · cases List.mem_singleton.mp h'; rfl
      · cases h'
    · split at h'
      · cases List.mem_singleton.mp h'; rfl
      · cases h'
theorem one_nodup (n : Nat) : [n].Nodup := List.nodup_cons.mpr ⟨List.not_mem_nil, List.nodup_nil⟩
theorem takenH_nodup {r : Rules} {q : Pos} (W : RulesWf r) {t : Nat} (ht : r.isCell t = true) : (takenH r q t).Nodup := by
  unfold takenH
  split
  · exact List.nodup_nil
  · refine flat4_nodup W ht (fun d _ => ?_) fun d c _ h => takenH1_mem h
    unfold takenH1
    split
    · split
      · exact one_nodup _
      · exact List.nodup_nil
    · exact List.nodup_nil
theorem takenM_nodup {r : Rules} {q : Pos} (W : RulesWf r) (ok : PosOk r q) {t : Nat} (ht : r.isCell t = true) : (takenM r q t).Nodup := by
  unfold takenM
  refine flat4_nodup W ht (fun d _ => ?_) fun d c _ h => takenM1_mem h
  unfold takenM1
  split
  · next n _ =>
    split
    · next hm =>
      have hk : q.king ≠ n := fun z => by
        have := (taken_no W ok z).2
        rw [hm.1] at this
        cases this
      rw [if_neg fun z => hk z.1, List.append_nil]
      exact one_nodup _
    · rw [List.nil_append]
      split
      · exact one_nodup _
      · exact List.nodup_nil
  · exact List.nodup_nil
end TfP

set_option maxRecDepth 100000
set_option maxHeartbeats 400000
/-! # The position behind a move: plain Lean -/
namespace TfP
open Tafl Tf
def goneC (b t c : Nat) : Nat := if c = b then t else c
theorem mem_gone {l : List Nat} {b t c : Nat} : c ∈ l.map (goneC b t) ↔ (b ∈ l ∧ c = t) ∨ (c ∈ l ∧ c ≠ b) := by
  rw [List.mem_map]
  unfold goneC
  constructor
  · rintro ⟨x, hx, e⟩
    by_cases h : x = b
    · rw [if_pos h] at e; exact .inl ⟨h ▸ hx, e.symm⟩
    · rw [if_neg h] at e; exact .inr ⟨e ▸ hx, e ▸ h⟩
  · rintro (⟨h1, rfl⟩ | ⟨h1, h2⟩)
    · exact ⟨b, h1, if_pos rfl⟩
    · exact ⟨c, h1, if_neg h2⟩
theorem gone_nodup {b t : Nat} : ∀ {l : List Nat}, l.Nodup → t ∉ l → (l.map (goneC b t)).Nodup
  | [], _, _ => List.nodup_nil
  | a :: l, h, ht => by
    rw [List.nodup_cons] at h
    rw [List.map_cons, List.nodup_cons]
    refine ⟨fun z => ?_, gone_nodup h.2 fun z => ht (List.mem_cons_of_mem _ z)⟩
    have hta : t ≠ a := fun z => ht (z ▸ List.mem_cons_self)
    have htl : t ∉ l := fun z => ht (List.mem_cons_of_mem _ z)
    rcases mem_gone.mp z with ⟨h1, h2⟩ | ⟨h1, h2⟩
    · unfold goneC at h2
      by_cases e : a = b
      · subst e; exact h.1 h1
      · rw [if_neg e] at h2; exact hta h2.symm
    · unfold goneC at h1 h2
      by_cases e : a = b
      · rw [if_pos e] at h1; exact htl h1
      · rw [if_neg e] at h1; exact h.1 h1
structure Mv (r : Rules) (p : Pos) (b t : Nat) : Prop where
  b : b ∈ p.own
  k : p.king ≠ TAKEN
  tc : r.isCell t = true
  tk : p.king ≠ t
  th : p.hunters.testBit t = false
  tm : p.men.testBit t = false
theorem free_iff {r : Rules} {p : Pos} {t : Nat} (h : r.free p t = true) : p.king ≠ t ∧ p.hunters.testBit t = false ∧ p.men.testBit t = false := by
  unfold Rules.free at h
  rw [Bool.and_eq_true, on_none] at h
  have h2 := h.2
  simp only [Bool.and_eq_true, Bool.not_eq_true', decide_eq_false_iff_not] at h2
  exact ⟨h2.1, h2.2.1, h2.2.2⟩
theorem mv_of {r : Rules} {p : Pos} (W : RulesWf r) (ok : PosOk r p) (hk : p.king ≠ TAKEN) {b t : Nat} (h : (b, t) ∈ movesL r p) : Mv r p b t := by
  obtain ⟨c, hc, hm⟩ := List.mem_flatMap.mp h
  obtain ⟨t', ht', e⟩ := List.mem_map.mp hm
  cases e
  have hr : t ∈ r.reach p b := List.contains_iff_mem.mp (List.mem_filter.mp ht').2
  obtain ⟨h1, h2⟩ := reach_mem W (own_mem W ok hc) hr
  obtain ⟨h3, h4, h5⟩ := free_iff h2
  exact ⟨hc, hk, h1, h3, h4, h5⟩
theorem mem_cellsIn {r : Rules} (W : RulesWf r) {n : Nat} (h : ∀ c, n.testBit c = true → r.isCell c = true) (c : Nat) : c ∈ cellsIn n ↔ n.testBit c = true := by
  unfold cellsIn
  rw [List.mem_filter, List.mem_range]
  exact ⟨fun z => z.2, fun z => ⟨Nat.lt_trans (cell_lt W (h c z)) (by decide), z⟩⟩
/-- who moves -/
theorem mv_cases {r : Rules} {p : Pos} (W : RulesWf r) (ok : PosOk r p) {b t : Nat} (M : Mv r p b t) :
    (p.king = b ∧ p.hunters.testBit b = false ∧ p.men.testBit b = false ∧ p.side ≠ 0) ∨ (p.king ≠ b ∧ p.side = 0 ∧ p.hunters.testBit b = true ∧ p.men.testBit b = false) ∨ (p.king ≠ b ∧ p.side ≠ 0 ∧ p.men.testBit b = true ∧ p.hunters.testBit b = false) := by
  have hb := M.b
  unfold Pos.own at hb
  by_cases h0 : p.side = 0
  · rw [if_pos h0] at hb
    have h1 := (mem_cellsIn W ok.h b).mp hb
    have hk : p.king ≠ b := fun z => by rw [(taken_no W ok z).1] at h1; cases h1
    exact .inr (.inl ⟨hk, h0, h1, ok.hm b h1⟩)
  · rw [if_neg h0] at hb
    have h2 : (p.men.testBit b || b == p.king) = true := (List.mem_filter.mp hb).2
    by_cases hk : p.king = b
    · exact .inl ⟨hk, (taken_no W ok hk).1, (taken_no W ok hk).2, h0⟩
    · rw [Bool.or_eq_true, beq_iff_eq] at h2
      have hm := h2.resolve_right fun z => hk z.symm
      refine .inr (.inr ⟨hk, h0, hm, ?_⟩)
      rw [Bool.eq_false_iff]
      intro z
      rw [ok.hm b z] at hm
      cases hm
theorem bset {r : Rules} {n b t : Nat} (W : RulesWf r) (h : ∀ c, n.testBit c = true → r.isCell c = true) (c : Nat) : (setFrom (t :: (cellsIn n).filter fun c => c != b)).testBit c = true ↔ c = t ∨ (n.testBit c = true ∧ c ≠ b) := by
  rw [mem_setFrom, List.mem_cons, List.mem_filter, mem_cellsIn W h, bne_iff_ne]
theorem bfalse {x : Bool} {P : Prop} (h : x = true ↔ P) (hn : ¬ P) : x = false := Bool.eq_false_iff.mpr fun z => hn (h.mp z)
theorem come_R {f f' : PF} {p : Pos} {r : Rules} {b t : Nat} (W : RulesWf r) (R : PoR f p r) (M : Mv r p b t) (e1 : f'.hs = f.hs.map (goneC b t)) (e2 : f'.ms = f.ms.map (goneC b t)) (e3 : f'.king = if f.king = (b : Int) then (t : Int) else f.king) (e4 : f'.turn = 1 - f.turn) :
    PoR f' (p.shifted (b, t)) r ∧ (p.shifted (b, t)).king ≠ TAKEN ∧ (p.shifted (b, t)).side = 1 - p.side := by
  have ok := R.ok
  have e255 : TAKEN = 255 := rfl
  have tlt := cell_lt W M.tc
  have fk : f.king = (p.king : Int) := R.king.trans (kingI_cell M.k)
  have th : t ∉ f.hs := fun z => by have := (R.h t).mp z; rw [M.th] at this; cases this
  have tm : t ∉ f.ms := fun z => by have := (R.m t).mp z; rw [M.tm] at this; cases this
  have kc : r.isCell p.king = true ∧ p.hunters.testBit p.king = false ∧ p.men.testBit p.king = false := ok.k.resolve_left M.k
  have hN : f'.hs.Nodup := by rw [e1]; exact gone_nodup R.hN th
  have mN : f'.ms.Nodup := by rw [e2]; exact gone_nodup R.mN tm
  have keepH : p.hunters.testBit b = false → ∀ c, c ∈ f'.hs ↔ p.hunters.testBit c = true := fun hb c => by
    rw [e1, mem_gone, R.h b, R.h c, hb]
    constructor
    · rintro (⟨z, _⟩ | ⟨z, _⟩)
      · cases z
      · exact z
    · exact fun z => .inr ⟨z, fun e => by rw [e, hb] at z; cases z⟩
  have keepM : p.men.testBit b = false → ∀ c, c ∈ f'.ms ↔ p.men.testBit c = true := fun hb c => by
    rw [e2, mem_gone, R.m b, R.m c, hb]
    constructor
    · rintro (⟨z, _⟩ | ⟨z, _⟩)
      · cases z
      · exact z
    · exact fun z => .inr ⟨z, fun e => by rw [e, hb] at z; cases z⟩
  rcases mv_cases W ok M with ⟨hk, hb1, hb2, hs⟩ | ⟨hk, hs, hb1, hb2⟩ | ⟨hk, hs, hb1, hb2⟩
  · have eq : p.shifted (b, t) = { p with king := t, side := 1 - p.side } := if_pos hk
    rw [eq]
    refine ⟨⟨hN, mN, keepH hb1, keepM hb2, ?_, by rw [e4, R.turn], ⟨by show 1 - p.side ≤ 1; omega, ok.h, ok.m, ok.hm, .inr ⟨M.tc, M.th, M.tm⟩⟩⟩, by show t ≠ TAKEN; omega, rfl⟩
    rw [e3, fk, if_pos (by rw [hk])]
    exact (kingI_cell (p := { p with king := t, side := 1 - p.side }) (by show t ≠ TAKEN; omega)).symm
  · have eq : p.shifted (b, t) = { p with hunters := setFrom (t :: (cellsIn p.hunters).filter fun c => c != b), side := 1 } := (if_neg hk).trans (if_pos hs)
    have bs := bset (b := b) (t := t) W ok.h
    rw [eq]
    refine ⟨⟨hN, mN, fun c => ?_, keepM hb2, ?_, by rw [e4, R.turn, hs], ⟨Nat.le_refl 1, fun c hc => ?_, ok.m, fun c hc => ?_, .inr ⟨kc.1, ?_, kc.2.2⟩⟩⟩, M.k, by rw [hs]⟩
    · rw [e1, mem_gone, R.h b, R.h c]
      show _ ↔ (setFrom (t :: (cellsIn p.hunters).filter fun c => c != b)).testBit c = true
      rw [bs c]
      exact or_congr ⟨fun z => z.2, fun z => ⟨hb1, z⟩⟩ Iff.rfl
    · rw [e3, fk, if_neg (by omega)]
      exact (kingI_cell M.k).symm
    · rcases (bs c).mp hc with rfl | ⟨h, _⟩
      · exact M.tc
      · exact ok.h c h
    · rcases (bs c).mp hc with rfl | ⟨h, _⟩
      · exact M.tm
      · exact ok.hm c h
    · exact bfalse (bs p.king) fun z => z.elim (fun z => M.tk z) fun z => by rw [kc.2.1] at z; cases z.1
  · have eq : p.shifted (b, t) = { p with men := setFrom (t :: (cellsIn p.men).filter fun c => c != b), side := 0 } := (if_neg hk).trans (if_neg hs)
    have bs := bset (b := b) (t := t) W ok.m
    have s1 : p.side = 1 := by have := ok.side; omega
    rw [eq]
    refine ⟨⟨hN, mN, keepH hb2, fun c => ?_, ?_, by rw [e4, R.turn, s1], ⟨Nat.zero_le 1, ok.h, fun c hc => ?_, fun c hc => ?_, .inr ⟨kc.1, kc.2.1, ?_⟩⟩⟩, M.k, by rw [s1]⟩
    · rw [e2, mem_gone, R.m b, R.m c]
      show _ ↔ (setFrom (t :: (cellsIn p.men).filter fun c => c != b)).testBit c = true
      rw [bs c]
      exact or_congr ⟨fun z => z.2, fun z => ⟨hb1, z⟩⟩ Iff.rfl
    · rw [e3, fk, if_neg (by omega)]
      exact (kingI_cell M.k).symm
    · rcases (bs c).mp hc with rfl | ⟨h, _⟩
      · exact M.tc
      · exact ok.m c h
    · refine bfalse (bs c) fun z => ?_
      rcases z with rfl | ⟨z, _⟩
      · rw [M.th] at hc; cases hc
      · rw [ok.hm c hc] at z; cases z
    · exact bfalse (bs p.king) fun z => z.elim (fun z => M.tk z) fun z => by rw [kc.2.2] at z; cases z.1
end TfP

set_option maxRecDepth 100000
set_option maxHeartbeats 400000
/-! # What a move comes to: plain Lean -/
namespace TfP
open Tafl Tf
/-- what the program finds to be taken, in its order -/
def takenL (r : Rules) (p q : Pos) (t : Nat) : List Nat := if p.side = 0 then takenM r q t else takenH r q t
theorem takenL_cell {r : Rules} {p q : Pos} (W : RulesWf r) {t c : Nat} (ht : r.isCell t = true) (h : c ∈ takenL r p q t) : r.isCell c = true := by
  unfold takenL at h
  split at h
  · obtain ⟨d, hd, hc⟩ := List.mem_flatMap.mp h
    exact (next_some W (mem03.mp hd) ht (takenM1_mem hc)).1
  · unfold takenH at h
    split at h
    · cases h
    · obtain ⟨d, hd, hc⟩ := List.mem_flatMap.mp h
      exact (next_some W (mem03.mp hd) ht (takenH1_mem hc)).1
theorem takenL_nodup {r : Rules} {p q : Pos} (W : RulesWf r) (ok : PosOk r q) {t : Nat} (ht : r.isCell t = true) : (takenL r p q t).Nodup := by
  unfold takenL
  split
  · exact takenM_nodup W ok ht
  · exact takenH_nodup W ht
def takesB (r : Rules) (p : Pos) (m : Nat × Nat) (c : Nat) : Bool := (r.menTaken (p.shifted m) (p.side == 0) m.2).contains c || ((p.side == 0 && r.kingTaken (p.shifted m) m.2) && c == (p.shifted m).king)
theorem takes_eq (r : Rules) (p : Pos) (m : Nat × Nat) : r.takes p m = (List.range GONE).filter (takesB r p m) := rfl
theorem takesB_iff {r : Rules} {p : Pos} {b t : Nat} (W : RulesWf r) (ok : PosOk r (p.shifted (b, t))) (c : Nat) : takesB r p (b, t) c = true ↔ c ∈ takenL r p (p.shifted (b, t)) t := by
  unfold takesB takenL
  rw [Bool.or_eq_true, List.contains_iff_mem, Bool.and_eq_true, Bool.and_eq_true, beq_iff_eq, beq_iff_eq]
  by_cases h : p.side = 0
  · rw [if_pos h, takenM_mem W ok, h]
    show c ∈ r.menTaken _ true t ∨ _ ↔ _
    refine or_congr Iff.rfl ⟨fun z => ⟨z.1.2, z.2⟩, fun z => ⟨⟨rfl, z.1⟩, z.2⟩⟩
  · rw [if_neg h, takenH_mem W ok]
    have e : (p.side == 0) = false := beq_eq_false_iff_ne.mpr h
    rw [e]
    exact ⟨fun z => z.elim id fun z => absurd z.1.1 h, .inl⟩
theorem takes_mem {r : Rules} {p : Pos} {b t : Nat} (W : RulesWf r) (ok : PosOk r (p.shifted (b, t))) (ht : r.isCell t = true) (c : Nat) : c ∈ r.takes p (b, t) ↔ c ∈ takenL r p (p.shifted (b, t)) t := by
  rw [takes_eq, List.mem_filter, List.mem_range, takesB_iff W ok]
  exact ⟨fun z => z.2, fun z => ⟨Nat.lt_trans (cell_lt W (takenL_cell W ht z)) (by decide), z⟩⟩
theorem takes_sorted {r : Rules} {p : Pos} {b t : Nat} (W : RulesWf r) (ok : PosOk r (p.shifted (b, t))) (ht : r.isCell t = true) {s : List Int} (hp : s.Perm ((takenL r p (p.shifted (b, t)) t).map fun (x : Nat) => (x : Int))) (hs : s.Pairwise (· ≤ ·)) : s = (r.takes p (b, t)).map fun (x : Nat) => (x : Int) := by
  rw [takes_eq]
  exact sorted_eq (takenL_nodup W ok ht) (fun x hx => Nat.lt_trans (cell_lt W (takenL_cell W ht hx)) (by decide)) (fun x _ => takesB_iff W ok x) hp hs
theorem fset {r : Rules} {n : Nat} {l : List Nat} (W : RulesWf r) (h : ∀ c, n.testBit c = true → r.isCell c = true) (c : Nat) : (setFrom ((cellsIn n).filter fun c => !l.contains c)).testBit c = true ↔ n.testBit c = true ∧ c ∉ l := by
  rw [mem_setFrom, List.mem_filter, mem_cellsIn W h, Bool.not_eq_true', ← Bool.not_eq_true, List.contains_iff_mem]
/-- the position that is left -/
theorem left_R {f f' : PF} {p : Pos} {r : Rules} {b t : Nat} (W : RulesWf r) (R : PoR f (p.shifted (b, t)) r) (hk : (p.shifted (b, t)).king ≠ TAKEN) (ht : r.isCell t = true)
    (e1 : f'.hs = f.hs.filter fun c => !decide (c ∈ takenL r p (p.shifted (b, t)) t)) (e2 : f'.ms = f.ms.filter fun c => !decide (c ∈ takenL r p (p.shifted (b, t)) t))
    (e3 : f'.king = if (p.shifted (b, t)).king ∈ takenL r p (p.shifted (b, t)) t then -1 else f.king) (e4 : f'.turn = f.turn) : PoR f' (r.comes p (b, t)) r := by
  have ok := R.ok
  have e255 : TAKEN = 255 := rfl
  have tm := takes_mem W ok ht
  have ec : r.comes p (b, t) = ⟨setFrom ((cellsIn (p.shifted (b, t)).hunters).filter fun c => !(r.takes p (b, t)).contains c), setFrom ((cellsIn (p.shifted (b, t)).men).filter fun c => !(r.takes p (b, t)).contains c), if (r.takes p (b, t)).contains (p.shifted (b, t)).king = true then TAKEN else (p.shifted (b, t)).king, (p.shifted (b, t)).side⟩ := rfl
  rw [ec]
  generalize p.shifted (b, t) = q at *
  have hs := fset (l := r.takes p (b, t)) W ok.h
  have ms := fset (l := r.takes p (b, t)) W ok.m
  have kc : r.isCell q.king = true ∧ q.hunters.testBit q.king = false ∧ q.men.testBit q.king = false := ok.k.resolve_left hk
  have fk : f.king = (q.king : Int) := R.king.trans (kingI_cell hk)
  have memf : ∀ (l : List Nat) c, c ∈ l.filter (fun c => !decide (c ∈ takenL r p q t)) ↔ c ∈ l ∧ c ∉ takenL r p q t := fun l c => by
    rw [List.mem_filter, Bool.not_eq_true', decide_eq_false_iff_not]
  refine ⟨by rw [e1]; exact R.hN.sublist List.filter_sublist, by rw [e2]; exact R.mN.sublist List.filter_sublist, fun c => ?_, fun c => ?_, ?_, e4.trans R.turn, ⟨ok.side, fun c hc => ok.h c ((hs c).mp hc).1, fun c hc => ok.m c ((ms c).mp hc).1, fun c hc => ?_, ?_⟩⟩
  · rw [e1, memf, R.h c]
    show _ ↔ (setFrom ((cellsIn q.hunters).filter fun c => !(r.takes p (b, t)).contains c)).testBit c = true
    rw [hs c, tm c]
  · rw [e2, memf, R.m c]
    show _ ↔ (setFrom ((cellsIn q.men).filter fun c => !(r.takes p (b, t)).contains c)).testBit c = true
    rw [ms c, tm c]
  · rw [e3]
    unfold kingI
    show _ = if (if (r.takes p (b, t)).contains q.king = true then TAKEN else q.king) = TAKEN then -1 else (((if (r.takes p (b, t)).contains q.king = true then TAKEN else q.king) : Nat) : Int)
    by_cases h : q.king ∈ takenL r p q t
    · rw [if_pos h, if_pos (List.contains_iff_mem.mpr ((tm _).mpr h)), if_pos rfl]
    · have h' : ¬ (r.takes p (b, t)).contains q.king = true := fun z => h ((tm _).mp (List.contains_iff_mem.mp z))
      rw [if_neg h, if_neg h', if_neg hk]
      exact fk
  · exact bfalse (ms c) fun z => by rw [ok.hm c ((hs c).mp hc).1] at z; cases z.1
  · show (if (r.takes p (b, t)).contains q.king = true then TAKEN else q.king) = TAKEN ∨ _
    by_cases h : (r.takes p (b, t)).contains q.king = true
    · exact .inl (if_pos h)
    · have ek : (if (r.takes p (b, t)).contains q.king = true then TAKEN else q.king) = q.king := if_neg h
      refine .inr ⟨by rw [ek]; exact kc.1, ?_, ?_⟩
      · show (setFrom _).testBit (if (r.takes p (b, t)).contains q.king = true then TAKEN else q.king) = false
        rw [ek]
        exact bfalse (hs q.king) fun z => by rw [kc.2.1] at z; cases z.1
      · show (setFrom _).testBit (if (r.takes p (b, t)).contains q.king = true then TAKEN else q.king) = false
        rw [ek]
        exact bfalse (ms q.king) fun z => by rw [kc.2.2] at z; cases z.1
end TfP

set_option maxRecDepth 100000
set_option maxHeartbeats 1000000
/-! # A move made; what is over -/
namespace Tf
open PySem PySem.Spec PyProof.Rows L2 TfP
/-- both ways of an if come to what G tells -/
theorem if_join {c : Bool} {ta tb : TS} {D : Ends} {σ : L2.St} {H : Hp} (G : L2.St → Hp → Prop) (h1 : c = true → ∀ D' : Ends, (∀ σ H, G σ H → D'.nx σ H) → ta D' σ H) (h2 : c = false → ∀ D' : Ends, (∀ σ H, G σ H → D'.nx σ H) → tb D' σ H) (hg : ∀ σ H, G σ H → D.nx σ H) : if c = true then ta D σ H else tb D σ H := by
  cases c with
  | true => exact if_t rfl (h1 rfl D hg)
  | false => exact if_f rfl (h2 rfl D hg)
/-- a position as an object, its lists at places of which F tells -/
def PoN (F : Addr → Prop) (A : Adr) (H : Hp) (a : Addr) (p : Tafl.Pos) (r : Tafl.Rules) : Prop := ∃ f, PoAt A H a f ∧ PoR f p r ∧ F f.hl ∧ F f.ml
theorem PoN.po {F : Addr → Prop} {A : Adr} {H : Hp} {a : Addr} {p : Tafl.Pos} {r : Tafl.Rules} (h : PoN F A H a p r) : Po A H a p r := by
  obtain ⟨f, h1, h2, _⟩ := h
  exact ⟨f, h1, h2⟩
section
variable {P : Program} {w : World} {K : PySem.W.Frag} {mg : Str → Option Value} {base : Heap} {A : Adr}
def sp_made (K : PySem.W.Frag) (A : Adr) : Sp := fun vs H Q _ => ∃ ra pa r p, ∃ b t : Nat, vs = [.ref ra, .ref pa, .int (b : Int), .int (t : Int)] ∧ Rl A H ra r ∧ Po A H pa p r ∧ Mv r p b t ∧
  ∀ H' q a l, Same H H' → SqT K H' q [.ref a, .ref l] → PoN (fun b => H b = none) A H' a (r.comes p (b, t)) r → H l = none → H' l = some (.lst ((r.takes p (b, t)).map natV)) → Q (.ref q) H'
theorem ok_made (T : Txt K mg A) : FnOk P w K mg base CX0 6 A.f_made A.d_made ["rules", "position", "begin", "to"] (sp_made K A) := by
  refine T.F_made.ok sc_made (fun vs H Q E h => ?_) (fun cdv B outer s H vs Q E hr h => ?_)
  · obtain ⟨ra, pa, r, p, b, t, rfl, _⟩ := h
    rfl
  · obtain ⟨ra, pa, r, p, b, t, rfl, ZR, ⟨g, ZP, RP⟩, M, q⟩ := h
    have W : RulesWf r := by obtain ⟨_, _, _, _, R⟩ := ZR; exact R.wf
    obtain ⟨dp, hpa⟩ := ZP.obj
    refine ⟨_, (pss_cons (ps_set (i := 4) sc_made.nd rfl (by first | exact .inl rfl | exact .inr rfl) (pe_fld (pv 1) rfl))
  (pss_cons (ps_if (pt_cmpR op_eq (pv 4) (pv 2) (nomark _)) (pss_one (ps_set (i := 4) sc_made.nd rfl (by first | exact .inl rfl | exact .inr rfl) (pv 3))) pss_nil)
  (pss_cons (ps_set (i := 5) sc_made.nd rfl (by first | exact .inl rfl | exact .inr rfl) (pe_call (ok_gone_to T) (hr.mono (by decide)) rfl T.g_gone_to T.F_gone_to.kp T.b_gone_to .nil pass0 (pa_cons (pe_fld (pv 1) rfl) (pa_cons (pv 2) (pa_cons (pv 3) pa_nil)))))
  (pss_cons (ps_set (i := 6) sc_made.nd rfl (by first | exact .inl rfl | exact .inr rfl) (pe_call (ok_gone_to T) (hr.mono (by decide)) rfl T.g_gone_to T.F_gone_to.kp T.b_gone_to .nil pass0 (pa_cons (pe_fld (pv 1) rfl) (pa_cons (pv 2) (pa_cons (pv 3) pa_nil)))))
  (pss_cons (ps_set (i := 7) sc_made.nd rfl (by first | exact .inl rfl | exact .inr rfl) (pe_make T.mk_Position (ok_Position___init__ T) (hr.mono (by decide)) rfl T.g_Position T.b_Position___init__ .nil pass0 (pa_cons (pv 5) (pa_cons (pv 6) (pa_cons (pv 4) (pa_cons (pe_op op_sub pe_int (pe_fld (pv 1) rfl)) pa_nil))))))
  (pss_cons (ps_if (pt_cmpR op_eq (pe_fld (pv 1) rfl) (pe_gi T.g_HUNTERS) (nomark _)) (pss_one (ps_set (i := 8) sc_made.nd rfl (by first | exact .inl rfl | exact .inr rfl) (pe_call (ok_taken_men T) (hr.mono (by decide)) rfl T.g_taken_men T.F_taken_men.kp T.b_taken_men .nil pass0 (pa_cons (pv 0) (pa_cons (pv 7) (pa_cons (pv 3) pa_nil)))))) (pss_one (ps_set (i := 8) sc_made.nd rfl (by first | exact .inl rfl | exact .inr rfl) (pe_call (ok_taken_hunters T) (hr.mono (by decide)) rfl T.g_taken_hunters T.F_taken_hunters.kp T.b_taken_hunters .nil pass0 (pa_cons (pv 0) (pa_cons (pv 7) (pa_cons (pv 3) pa_nil)))))))
  (pss_cons (ps_if (pt_cmpR op_in_seq (pv 4) (pv 8) (by rfl)) (pss_one (ps_set (i := 4) sc_made.nd rfl (by first | exact .inl rfl | exact .inr rfl) (pe_gi T.g_NO_KING))) pss_nil)
  (pss_cons (ps_set (i := 9) sc_made.nd rfl (by first | exact .inl rfl | exact .inr rfl) (pe_make T.mk_Position (ok_Position___init__ T) (hr.mono (by decide)) rfl T.g_Position T.b_Position___init__ .nil pass0 (pa_cons (pe_lc (own := [("cell", 10)]) rfl sc_made.nd (pi_list (pv 5)) (blkOk_by (N := ["rules", "position", "begin", "to", "king", "hunters", "men", "come", "taken", "left", "cell"]) (sc := defScope s_made) (own := [("cell", 10)]) (by decide +kernel)) (fun _ _ _ _ _ => (pg_name (i := 10) sc_made.nd rfl (by first | exact .inl rfl | exact .inr rfl))) (fun _ _ _ _ _ => (pts_one (pt_cmpR (op_notIn_seqK K) (pv 10) (pv 8) (by rfl)))) (fun _ _ _ _ _ => (pv 10))) (pa_cons (pe_lc (own := [("cell", 10)]) rfl sc_made.nd (pi_list (pv 6)) (blkOk_by (N := ["rules", "position", "begin", "to", "king", "hunters", "men", "come", "taken", "left", "cell"]) (sc := defScope s_made) (own := [("cell", 10)]) (by decide +kernel)) (fun _ _ _ _ _ => (pg_name (i := 10) sc_made.nd rfl (by first | exact .inl rfl | exact .inr rfl))) (fun _ _ _ _ _ => (pts_one (pt_cmpR (op_notIn_seqK K) (pv 10) (pv 8) (by rfl)))) (fun _ _ _ _ _ => (pv 10))) (pa_cons (pv 4) (pa_cons (pe_op op_sub pe_int (pe_fld (pv 1) rfl)) pa_nil))))))
  (pss_one (ps_ret (pe_tup (pa_cons (pv 9) (pa_cons (pe_callB cr_sortedI (by rfl) T.n_sorted (by decide +kernel) (pa_cons (pv 8) pa_nil)) pa_nil))))))))))))), ?_⟩
    have blt := cell_lt W (own_mem W RP.ok M.b)
    have kI : g.king = (p.king : Int) := RP.king.trans (kingI_cell M.k)
    obtain ⟨k', hk'⟩ : ∃ k' : Int, (if g.king = (b : Int) then (t : Int) else g.king) = k' := ⟨_, rfl⟩
    have ek : decide (V.int g.king = V.int (b : Int)) = decide (g.king = (b : Int)) := by rw [dec_int, Bool.eq_iff_iff, beq_iff_eq, decide_eq_true_iff]
    refine ⟨_, rfl, pa, A.c_Position, dp, _, _, rfl, hpa, T.cl_Position, T.n_Position_king, po_king _, _, rfl, _, rfl, rfl, _, rfl, ?_⟩
    refine if_join (fun σ H' => H' = H ∧ σ = [some (.ref ra), some (.ref pa), some (.int (b : Int)), some (.int (t : Int)), some (.int k'), none, none, none, none, none, none]) (fun hc D' hD => ⟨_, rfl, hD _ _ ⟨rfl, ?_⟩⟩) (fun hc D' hD => hD _ _ ⟨rfl, ?_⟩) (fun σ H1 hG => ?_)
    · rw [ek, decide_eq_true_iff] at hc
      rw [← hk', if_pos hc]
      rfl
    · rw [ek, decide_eq_false_iff_not] at hc
      rw [← hk', if_neg hc]
      rfl
    · obtain ⟨rfl, rfl⟩ := hG
      have t1 : g.turn ≤ 1 := by rw [RP.turn]; exact RP.ok.side
      refine ⟨_, rfl, pa, A.c_Position, dp, _, _, rfl, hpa, T.cl_Position, T.n_Position_hunters, po_hunters _, _, rfl, _, rfl, g.hl, g.hs, b, t, rfl, ZP.hl, ZP.hfew, fun H2 h2 s2 e2 => ?_⟩
      have hpa := s2 _ _ hpa
      refine ⟨_, rfl, pa, A.c_Position, dp, _, _, rfl, hpa, T.cl_Position, T.n_Position_men, po_men _, _, rfl, _, rfl, g.ml, g.ms, b, t, rfl, s2 _ _ ZP.ml, ZP.mfew, fun H3 m3 s3 e3 => ?_⟩
      have s13 := s2.trans s3
      have hpa := s3 _ _ hpa
      refine ⟨_, rfl, _, rfl, _, rfl, _, rfl, pa, A.c_Position, dp, _, _, rfl, hpa, T.cl_Position, T.n_Position_turn, po_turn _, _, _, rfl, rfl, fun a da na nda nad => ⟨a, da, h2, m3, g.hs.map (goneC b t), g.ms.map (goneC b t), k', 1 - g.turn, congrArg (fun z => [V.ref a, V.ref h2, V.ref m3, V.int k', V.int z]) (by omega), upd_same, ?_, ?_, by rw [List.length_map]; exact ZP.hfew, by rw [List.length_map]; exact ZP.mfew, fun pc H4 PC k4 => ⟨rfl, ?_⟩⟩⟩
      · exact ((same_new (o := .own a) nda).trans (same_new (o := .ins A.c_Position da []) (by rw [upd_ne (Ne.symm nad)]; exact na))) _ _ (s3 _ _ e2)
      · exact ((same_new (o := .own a) nda).trans (same_new (o := .ins A.c_Position da []) (by rw [upd_ne (Ne.symm nad)]; exact na))) _ _ e3
      · have s34 : Same H3 H4 := Kp.noneSame (p := (· = a)) (((Kp.new nda).trans (Kp.new (by rw [upd_ne (Ne.symm nad)]; exact na))).trans k4) fun b hb => by rw [hb]; exact na
        have s14 := s13.trans s34
        obtain ⟨CR, qk, qs⟩ := come_R (f' := ⟨h2, m3, pc, g.hs.map (goneC b t), g.ms.map (goneC b t), k', 1 - g.turn⟩) W RP M rfl rfl hk'.symm rfl
        have PoC : Po A H4 a (p.shifted (b, t)) r := ⟨_, PC, CR⟩
        have hpa := s34 _ _ hpa
        have et : decide (V.int ((g.turn : Nat) : Int) = V.int 0) = decide (p.side = 0) := by
          rw [dec_int, RP.turn, Bool.eq_iff_iff, beq_iff_eq, decide_eq_true_iff]; omega
        refine ⟨_, rfl, pa, A.c_Position, dp, _, _, rfl, hpa, T.cl_Position, T.n_Position_turn, po_turn _, rfl, _, rfl, ?_⟩
        refine if_join (fun σ H' => Same H4 H' ∧ ∃ l, σ = [some (.ref ra), some (.ref pa), some (.int (b : Int)), some (.int (t : Int)), some (.int k'), some (.ref h2), some (.ref m3), some (.ref a), some (.ref l), none, none] ∧ H' l = some (.lst ((takenL r p (p.shifted (b, t)) t).map natV)))
          (fun hc D' hD => ⟨_, rfl, _, rfl, _, rfl, ra, a, r, p.shifted (b, t), t, rfl, ZR.same s14, PoC, M.tc, fun H5 l s5 _ hl => hD _ _ ⟨s5, l, rfl, ?_⟩⟩) (fun hc D' hD => ⟨_, rfl, _, rfl, _, rfl, ra, a, r, p.shifted (b, t), t, rfl, ZR.same s14, PoC, M.tc, fun H5 l s5 _ hl => hD _ _ ⟨s5, l, rfl, ?_⟩⟩) (fun σ H5 hG => ?_)
        · rw [et, decide_eq_true_iff] at hc
          unfold takenL; rw [if_pos hc]; exact hl
        · rw [et, decide_eq_false_iff_not] at hc
          unfold takenL; rw [if_neg hc]; exact hl
        · obtain ⟨s5, l, rfl, hl⟩ := hG
          obtain ⟨tl, htl⟩ : ∃ tl, takenL r p (p.shifted (b, t)) t = tl := ⟨_, rfl⟩
          have kq : k' = (((p.shifted (b, t)).king : Nat) : Int) := CR.king.trans (kingI_cell qk)
          obtain ⟨k2, hk2⟩ : ∃ k2 : Int, (if (p.shifted (b, t)).king ∈ takenL r p (p.shifted (b, t)) t then (-1 : Int) else k') = k2 := ⟨_, rfl⟩
          rw [htl] at hl hk2
          have hin : (if false = true then !inV (.int k') (tl.map natV) else inV (.int k') (tl.map natV)) = decide ((p.shifted (b, t)).king ∈ tl) := by rw [if_neg Bool.false_ne_true, kq, inV_nats]
          refine ⟨_, rfl, _, rfl, l, _, rfl, .inl (SqL.of hl), rfl, flat_nats _, _, rfl, ?_⟩
          refine if_join (fun σ H' => H' = H5 ∧ σ = [some (.ref ra), some (.ref pa), some (.int (b : Int)), some (.int (t : Int)), some (.int k2), some (.ref h2), some (.ref m3), some (.ref a), some (.ref l), none, none]) (fun hc D' hD => hD _ _ ⟨rfl, ?_⟩) (fun hc D' hD => hD _ _ ⟨rfl, ?_⟩) (fun σ H6 hG => ?_)
          · rw [hin, decide_eq_true_iff] at hc
            rw [← hk2, if_pos hc]
            rfl
          · rw [hin, decide_eq_false_iff_not] at hc
            rw [← hk2, if_neg hc]
          · obtain ⟨rfl, rfl⟩ := hG
            have hh6 : H6 h2 = some (.lst ((g.hs.map (goneC b t)).map natV)) := s5 _ _ PC.hl
            have hm6 : H6 m3 = some (.lst ((g.ms.map (goneC b t)).map natV)) := s5 _ _ PC.ml
            have hpa := s5 _ _ hpa
            have lenH : (g.hs.map (goneC b t)).length ≤ 200 := by rw [List.length_map]; exact ZP.hfew
            have lenM : (g.ms.map (goneC b t)).length ≤ 200 := by rw [List.length_map]; exact ZP.mfew
            generalize hHS : g.hs.map (goneC b t) = HS at hh6 lenH
            generalize hMS : g.ms.map (goneC b t) = MS at hm6 lenM
            have notin : ∀ c : Nat, (if true = true then !inV (.int (c : Int)) (tl.map natV) else inV (.int (c : Int)) (tl.map natV)) = !decide (c ∈ tl) := fun c => by rw [if_pos rfl, inV_nats]
            refine ⟨_, rfl, h2, rfl, ⟨_, SqL.of hh6⟩, fun D1 nD1 => lcR (wv_list (xs := HS.map natV)) nD1 (fun H7 s7 => s7.seq (SqL.of hh6)) HS (List.length_map _) (fun (c : Nat) => if (!decide (c ∈ tl)) = true then [natV c] else []) (fun i x c ys H7 Nx hx hc s7 d7 lt hN hN0 => ?_) (by rw [flat_if]; exact small (by rw [List.length_map]; exact Nat.le_trans (List.length_filter_le _ _) (by omega))) fun H7 s7 d7 => ?_⟩
            · rw [List.getElem?_map, hc] at hx
              obtain rfl : natV c = x := Option.some.inj hx
              refine ⟨rfl, ?_⟩
              refine ⟨_, rfl, _, rfl, l, _, rfl, .inl (SqL.of (s7 _ _ hl)), rfl, flat_nats _, _, rfl, ?_⟩
              by_cases hb : (!decide (c ∈ tl)) = true
              · exact if_t ((notin c).trans hb) ⟨_, rfl, ys, d7, lt, hN _ _ (if_pos hb) (same_put s7 nD1) upd_same⟩
              · exact if_f ((notin c).trans (Bool.eq_false_iff.mpr hb)) (hN0 _ (if_neg hb) s7 d7)
            · rw [flat_if] at d7
              have hm7 := s7 _ _ hm6
              refine ⟨_, rfl, m3, rfl, ⟨_, SqL.of hm7⟩, fun D2 nD2 => lcR (wv_list (xs := MS.map natV)) nD2 (fun H8 s8 => s8.seq (SqL.of hm7)) MS (List.length_map _) (fun (c : Nat) => if (!decide (c ∈ tl)) = true then [natV c] else []) (fun i x c ys H8 Nx hx hc s8 d8 lt hN hN0 => ?_) (by rw [flat_if]; exact small (by rw [List.length_map]; exact Nat.le_trans (List.length_filter_le _ _) (by omega))) fun H8 s8 d8 => ?_⟩
              · rw [List.getElem?_map, hc] at hx
                obtain rfl : natV c = x := Option.some.inj hx
                refine ⟨rfl, ?_⟩
                refine ⟨_, rfl, _, rfl, l, _, rfl, .inl (SqL.of (s8 _ _ (s7 _ _ hl))), rfl, flat_nats _, _, rfl, ?_⟩
                by_cases hb : (!decide (c ∈ tl)) = true
                · exact if_t ((notin c).trans hb) ⟨_, rfl, ys, d8, lt, hN _ _ (if_pos hb) (same_put s8 nD2) upd_same⟩
                · exact if_f ((notin c).trans (Bool.eq_false_iff.mpr hb)) (hN0 _ (if_neg hb) s8 d8)
              · rw [flat_if] at d8
                have s78 := s7.trans s8
                have hpa := s78 _ _ hpa
                refine ⟨_, rfl, _, rfl, pa, A.c_Position, dp, _, _, rfl, hpa, T.cl_Position, T.n_Position_turn, po_turn _, _, _, rfl, rfl, fun a2 da2 na2 nda2 nad2 => ?_⟩
                have sN := (same_new (o := .own a2) nda2).trans (same_new (o := .ins A.c_Position da2 []) (by rw [upd_ne (Ne.symm nad2)]; exact na2))
                refine ⟨a2, da2, D1, D2, HS.filter fun c => !decide (c ∈ tl), MS.filter fun c => !decide (c ∈ tl), k2, 1 - g.turn, congrArg (fun z => [V.ref a2, V.ref D1, V.ref D2, V.int k2, V.int z]) (by omega), upd_same, sN _ _ (s8 _ _ d7), sN _ _ d8, Nat.le_trans (List.length_filter_le _ _) lenH, Nat.le_trans (List.length_filter_le _ _) lenM, fun pc2 H9 PL k9 => ⟨rfl, ?_⟩⟩
                have s89 : Same H8 H9 := Kp.noneSame (p := (· = a2)) ((Kp.of sN).trans k9) fun b hb => by rw [hb]; exact na2
                have LR := left_R (f' := ⟨D1, D2, pc2, HS.filter fun c => !decide (c ∈ tl), MS.filter fun c => !decide (c ∈ tl), k2, 1 - g.turn⟩) W CR qk M.tc (by rw [htl]; show HS.filter _ = (g.hs.map (goneC b t)).filter _; rw [hHS]) (by rw [htl]; show MS.filter _ = (g.ms.map (goneC b t)).filter _; rw [hMS]) (by rw [htl]; exact hk2.symm) rfl
                have hl9 := s89 _ _ (s78 _ _ hl)
                refine ⟨_, rfl, _, rfl, l, tl.map fun (x : Nat) => (x : Int), rfl, SqL.of (by rw [hl9, List.map_map]; rfl), fun ns' q' hp hs nq => ?_⟩
                have hts := takes_sorted W CR.ok M.tc (by rw [htl]; exact hp) hs
                refine ⟨(by show 2 ≤ sizeLine; exact smallE (by decide)), fun p10 n10 => ?_⟩
                have s10 := (same_new (o := .lst (ns'.map V.int)) nq).trans (same_new (o := .tup [.ref a2, .ref q']) n10)
                refine q _ p10 a2 q' (s14.trans (s5.trans (s78.trans (s89.trans s10)))) (.inl (.inl upd_same)) ⟨_, PL.same s10, LR, (s14.trans s5).free nD1, ((s14.trans s5).trans s7).free nD2⟩ ((s14.trans (s5.trans (s78.trans s89))).free nq) ?_
                have n' : q' ≠ p10 := fun z => by rw [z, upd_same] at n10; cases n10
                rw [upd_ne n', upd_same, hts, List.map_map]
                rfl
end
end Tf

set_option maxRecDepth 100000
set_option maxHeartbeats 1000000
/-! # What is over -/
namespace TfP
open Tafl Tf
theorem over_taken {r : Rules} {p : Pos} (h : p.king = TAKEN) : r.over p = 1 := by
  unfold Rules.over Rules.ended
  rw [if_pos h]
  rfl
theorem over_goal {r : Rules} {p : Pos} (h : p.king ≠ TAKEN) (h2 : r.onGoal p.king = true) : r.over p = 2 := by
  unfold Rules.over Rules.ended
  rw [if_neg h, if_pos h2]
  rfl
theorem ended_no {r : Rules} {p : Pos} (h : p.king ≠ TAKEN) (h2 : ¬ r.onGoal p.king = true) : r.ended p = 0 := by
  unfold Rules.ended
  rw [if_neg h, if_neg h2]
theorem over_moves {r : Rules} {p : Pos} (h : r.ended p = 0) : r.over p = if (movesL r p).isEmpty = true then 3 else 0 := by
  have hn : ¬ r.ended p ≠ 0 := fun z => z h
  have hm : r.moves p = movesL r p := by rw [moves_eq, if_neg hn]
  unfold Rules.over
  rw [if_neg hn, hm]
  by_cases e : movesL r p = []
  · rw [if_pos e, if_pos (List.isEmpty_iff.mpr e)]
  · rw [if_neg e, if_neg (fun z => e (List.isEmpty_iff.mp z))]
theorem over_zero {r : Rules} {p : Pos} (h : r.over p = 0) : p.king ≠ TAKEN ∧ r.ended p = 0 ∧ r.moves p = movesL r p := by
  have hk : p.king ≠ TAKEN := fun z => by rw [over_taken z] at h; cases h
  have hg : ¬ r.onGoal p.king = true := fun z => by rw [over_goal hk z] at h; cases h
  have he := ended_no hk hg
  exact ⟨hk, he, by rw [moves_eq, if_neg (show ¬ r.ended p ≠ 0 from fun z => z he)]⟩
end TfP
namespace Tf
open PySem PySem.Spec PyProof.Rows L2 TfP
section
variable {P : Program} {w : World} {K : PySem.W.Frag} {mg : Str → Option Value} {base : Heap} {A : Adr}
def sp_over_by (A : Adr) : Sp := fun vs H Q _ => ∃ ra pa r p, vs = [.ref ra, .ref pa] ∧ Rl A H ra r ∧ Po A H pa p r ∧ ∀ H', Same H H' → Q (.int ((r.over p : Nat) : Int)) H'
theorem ok_over_by (T : Txt K mg A) : FnOk P w K mg base CX0 5 A.f_over_by A.d_over_by ["rules", "position"] (sp_over_by A) := by
  refine T.F_over_by.ok sc_over_by (fun vs H Q E h => ?_) (fun cdv B outer s H vs Q E hr h => ?_)
  · obtain ⟨ra, pa, r, p, rfl, _⟩ := h
    rfl
  · obtain ⟨ra, pa, r, p, rfl, ⟨f, pe, pw, Z, R⟩, ⟨g, ZP, RP⟩, q⟩ := h
    obtain ⟨dr, hra⟩ := Z.obj
    obtain ⟨dp, hpa⟩ := ZP.obj
    have W := R.wf
    have W5 := W.w5
    have H5 := W.h5
    refine ⟨_, (pss_cons (ps_if (pt_cmpR op_eq (pe_fld (pv 1) rfl) (pe_gi T.g_NO_KING) (nomark _)) (pss_one (ps_ret (pe_gi T.g_KING_TAKEN))) pss_nil)
  (pss_cons (ps_if (pt_val (pe_meth (pv 0) T.cl_Rules T.m_Rules_is_goal (ok_Rules_is_goal T) (hr.mono (by decide)) T.b_Rules_is_goal .nil pass0 (pa_cons (pe_fld (pv 1) rfl) pa_nil))) (pss_one (ps_ret (pe_gi T.g_AT_GOAL))) pss_nil)
  (pss_cons (ps_if (pt_not (pt_val (pe_call (ok_has_move T) (hr.mono (by decide)) rfl T.g_has_move T.F_has_move.kp T.b_has_move .nil pass0 (pa_cons (pv 0) (pa_cons (pv 1) pa_nil))))) (pss_one (ps_ret (pe_gi T.g_NO_MOVE))) pss_nil)
  (pss_one (ps_ret (pe_gi T.g_NOT_OVER)))))), ?_⟩
    refine ⟨_, rfl, pa, A.c_Position, dp, _, _, rfl, hpa, T.cl_Position, T.n_Position_king, po_king _, rfl, _, rfl, ?_⟩
    by_cases hk : p.king = Tafl.TAKEN
    · refine if_t ?_ ?_
      · rw [RP.king, kingI_taken hk]; rfl
      · have := q H (Same.refl _)
        rw [over_taken hk] at this
        exact this
    · have ek := kingI_cell hk
      refine if_f ?_ ?_
      · rw [RP.king, ek, dec_int, beq_eq_false_iff_ne]; omega
      refine ⟨_, rfl, ra, dr, _, rfl, hra, ru_m_is_goal f, _, rfl, pa, A.c_Position, dp, _, _, rfl, hpa, T.cl_Position, T.n_Position_king, po_king _, ra, f, pe, pw, p.king, congrArg (fun z => [V.ref ra, V.int z]) (RP.king.trans ek), Z, by rw [R.wide]; omega, by rw [R.high]; omega, fun H1 s1 => ⟨_, rfl, ?_⟩⟩
      rw [onGoal_eq R]
      by_cases hg : r.onGoal p.king = true
      · refine if_t hg ?_
        have := q H1 s1
        rw [over_goal hk hg] at this
        exact this
      · refine if_f (Bool.eq_false_iff.mpr hg) ?_
        refine ⟨_, rfl, _, rfl, ra, pa, r, p, rfl, ⟨f, pe, pw, Z.same s1, R⟩, ⟨g, ZP.same s1, RP⟩, fun H2 s2 => ⟨_, rfl, ?_⟩⟩
        have q := q H2 (s1.trans s2)
        rw [over_moves (ended_no hk hg)] at q
        cases he : (movesL r p).isEmpty with
        | true => rw [he] at q; exact if_t rfl q
        | false => rw [he] at q; exact if_f rfl q
def wonB (o : Nat) (p : Tafl.Pos) : Bool := o == 1 || (o == 3 && p.side == 1)
def sp_won (A : Adr) : Sp := fun vs H Q _ => ∃ pa r p, ∃ o : Nat, vs = [.ref pa, .int (o : Int)] ∧ Po A H pa p r ∧ Q (.bl (wonB o p)) H
theorem ok_have_hunters_won (T : Txt K mg A) : FnOk P w K mg base CX0 1 A.f_have_hunters_won A.d_have_hunters_won ["position", "over"] (sp_won A) := by
  refine T.F_have_hunters_won.ok sc_have_hunters_won (fun vs H Q E h => ?_) (fun cdv B outer s H vs Q E hr h => ?_)
  · obtain ⟨pa, r, p, o, rfl, _⟩ := h
    rfl
  · obtain ⟨pa, r, p, o, rfl, ⟨g, ZP, RP⟩, q⟩ := h
    obtain ⟨dp, hpa⟩ := ZP.obj
    refine ⟨_, (pss_one (ps_ret (pe_or (pe_cmpR op_eq (pv 1) (pe_gi T.g_KING_TAKEN) (nomark _)) (pe_one (pe_and (pe_cmpR op_eq (pv 1) (pe_gi T.g_NO_MOVE) (nomark _)) (pe_one (pe_cmpR op_eq (pe_fld (pv 0) rfl) (pe_gi T.g_KING) (nomark _)))))))), ?_⟩
    have e1 : decide (V.int (o : Int) = V.int 1) = (o == 1) := by rw [dec_int, Bool.eq_iff_iff, beq_iff_eq, beq_iff_eq]; omega
    have e3 : decide (V.int (o : Int) = V.int 3) = (o == 3) := by rw [dec_int, Bool.eq_iff_iff, beq_iff_eq, beq_iff_eq]; omega
    have et : decide (V.int ((g.turn : Nat) : Int) = V.int 1) = (p.side == 1) := by rw [dec_int, RP.turn, Bool.eq_iff_iff, beq_iff_eq, beq_iff_eq]; omega
    unfold wonB at q
    refine ⟨_, rfl, rfl, _, rfl, ?_⟩
    rw [e1]
    cases h1 : (o == 1) with
    | true => rw [h1] at q; exact if_t rfl q
    | false =>
      rw [h1, Bool.false_or] at q
      refine if_f rfl ⟨_, rfl, rfl, _, rfl, ?_⟩
      rw [e3]
      cases h3 : (o == 3) with
      | false => rw [h3] at q; exact if_f rfl q
      | true =>
        rw [h3, Bool.true_and] at q
        refine if_t rfl ⟨_, rfl, pa, A.c_Position, dp, _, _, rfl, hpa, T.cl_Position, T.n_Position_turn, po_turn _, rfl, ?_⟩
        rw [et]
        exact q
end
end Tf

set_option maxRecDepth 100000
set_option maxHeartbeats 400000
/-! # Looking ahead: plain Lean -/
namespace TfP
open Tafl Tf
/-! ### how many moves are made -/
def cnt (r : Rules) : Nat → Pos → Nat
  | 0, _ => 0
  | n + 1, p => ((r.moves p).map fun m => 1 + cnt r n (r.comes p m)).sum
theorem cnt_succ (r : Rules) (n : Nat) (p : Pos) : cnt r (n + 1) p = ((r.moves p).map fun m => 1 + cnt r n (r.comes p m)).sum := rfl
theorem foldl_sum : ∀ (l : List Nat) (a : Nat), l.foldl (fun (a b : Nat) => a + b) a = a + l.sum
  | [], a => rfl
  | x :: l, a => by
    rw [List.foldl_cons, foldl_sum l, List.sum_cons, Nat.add_assoc]
theorem sum_app : ∀ (l k : List Nat), (l ++ k).sum = l.sum + k.sum
  | [], k => by rw [List.nil_append, List.sum_nil, Nat.zero_add]
  | x :: l, k => by rw [List.cons_append, List.sum_cons, List.sum_cons, sum_app l, Nat.add_assoc]
theorem sum_add {α : Type} (f g : α → Nat) : ∀ l : List α, (l.map fun a => f a + g a).sum = (l.map f).sum + (l.map g).sum
  | [] => rfl
  | x :: l => by
    rw [List.map_cons, List.map_cons, List.map_cons, List.sum_cons, List.sum_cons, List.sum_cons, sum_add f g l]
    omega
theorem sum_one {α : Type} (g : α → Nat) : ∀ l : List α, (l.map fun a => 1 + g a).sum = l.length + (l.map g).sum
  | [] => rfl
  | x :: l => by
    rw [List.map_cons, List.map_cons, List.sum_cons, List.sum_cons, sum_one g l, List.length_cons]
    omega
theorem sum_flat {α β : Type} (f : α → List β) (g : β → Nat) : ∀ l : List α, ((l.flatMap f).map g).sum = (l.map fun a => ((f a).map g).sum).sum
  | [] => rfl
  | x :: l => by rw [List.flatMap_cons, List.map_append, sum_app, sum_flat f g l, List.map_cons, List.sum_cons]
theorem within_iff (r : Rules) : ∀ (n room : Nat) (ps : List Pos), TaflLook.within r n room ps = decide ((ps.map (cnt r n)).sum ≤ room)
  | 0, room, ps => by
    have e : ∀ l : List Pos, (l.map (cnt r 0)).sum = 0 := fun l => by
      induction l with
      | nil => rfl
      | cons x l ih => rw [List.map_cons, List.sum_cons, ih]; rfl
    rw [e, decide_eq_true (Nat.zero_le _)]
    rfl
  | n + 1, room, ps => by
    show (decide ((ps.map fun (p : Pos) => (r.moves p).length).foldl (fun (a b : Nat) => a + b) 0 ≤ room) && TaflLook.within r n (room - (ps.map fun (p : Pos) => (r.moves p).length).foldl (fun (a b : Nat) => a + b) 0) (ps.flatMap fun (p : Pos) => (r.moves p).map fun (m : Nat × Nat) => r.comes p m)) = _
    rw [foldl_sum, Nat.zero_add, within_iff r n, sum_flat]
    have e : (ps.map (cnt r (n + 1))).sum = (ps.map fun (p : Pos) => (r.moves p).length).sum + (ps.map fun p => (((r.moves p).map fun m => r.comes p m).map (cnt r n)).sum).sum := by
      rw [← sum_add]
      congr 1
      refine List.map_congr_left fun p _ => ?_
      rw [cnt_succ, sum_one, List.map_map]
      rfl
    rw [e, Bool.eq_iff_iff, Bool.and_eq_true, decide_eq_true_iff, decide_eq_true_iff, decide_eq_true_iff]
    omega
theorem within_one (r : Rules) (n room : Nat) (p : Pos) : TaflLook.within r n room [p] = decide (cnt r n p ≤ room) := by
  rw [within_iff, List.map_cons, List.map_nil, List.sum_cons, List.sum_nil, Nat.add_zero]
/-- of the moves taken so far and the rest -/
theorem sum_take {α : Type} (g : α → Nat) {l : List α} {i : Nat} {x : α} (h : l[i]? = some x) : ((l.take (i + 1)).map g).sum = ((l.take i).map g).sum + g x := by
  rw [take_more h, List.map_append, sum_app, List.map_cons, List.map_nil, List.sum_cons, List.sum_nil, Nat.add_zero]
theorem sum_take_le {α : Type} (g : α → Nat) (l : List α) (i : Nat) : ((l.take i).map g).sum ≤ (l.map g).sum := by
  have e : (l.map g).sum = ((l.take i).map g).sum + ((l.drop i).map g).sum := by rw [← sum_app, ← List.map_append, List.take_append_drop]
  omega
/-! ### what is over -/
theorem moves_none {r : Rules} {p : Pos} (h : r.over p ≠ 0) : r.moves p = [] := by
  unfold Rules.over at h
  by_cases he : r.ended p ≠ 0
  · rw [moves_eq, if_pos he]
  · rw [if_neg he] at h
    by_cases hm : r.moves p = []
    · exact hm
    · rw [if_neg hm] at h
      exact absurd rfl h
theorem moves_some {r : Rules} {p : Pos} (h : r.over p = 0) : r.moves p ≠ [] := fun hm => by
  unfold Rules.over at h
  by_cases he : r.ended p ≠ 0
  · rw [if_pos he] at h
    exact he h
  · rw [if_neg he, if_pos hm] at h
    cases h
theorem ended_few (r : Rules) (p : Pos) : r.ended p ≤ 2 := by
  unfold Rules.ended
  split
  · decide
  · split <;> decide
theorem over_few (r : Rules) (p : Pos) : r.over p ≤ 3 := by
  have := ended_few r p
  unfold Rules.over
  split
  · omega
  · split <;> decide
theorem endWorth_eq (r : Rules) (p : Pos) (d : Nat) (h : r.over p ≠ 0) : r.endWorth p d = if wonB (r.over p) p = true then (1000000 : Int) - d else (d : Int) - 1000000 := by
  have h3 := over_few r p
  have eB : BIG = 1000000 := rfl
  unfold Rules.endWorth wonB
  have hc : r.over p = 1 ∨ r.over p = 2 ∨ r.over p = 3 := by omega
  rcases hc with e | e | e <;> rw [e]
  · exact (if_pos rfl).symm
  · exact (if_neg (by cases (p.side == 1) <;> decide)).symm
  · show (if p.side = 1 then BIG - (d : Int) else (d : Int) - BIG) = if (p.side == 1) = true then _ else _
    by_cases hs : p.side = 1
    · rw [if_pos hs, if_pos (beq_iff_eq.mpr hs), eB]
    · rw [if_neg hs, if_neg (fun z => hs (beq_iff_eq.mp z)), eB]
theorem worth_over {r : Rules} {w : Weights} {p : Pos} (h : r.over p ≠ 0) (n d : Nat) : r.worth w n d p = r.endWorth p d := by
  cases n with
  | zero => exact if_pos h
  | succ n => exact if_pos h
theorem worth_zero {r : Rules} {w : Weights} {p : Pos} (h : r.over p = 0) (d : Nat) : r.worth w 0 d p = r.weigh w p := if_neg fun z => z h
/-- what the moves come to -/
def branchW (r : Rules) (w : Weights) (n d : Nat) (p : Pos) : List Int := (r.moves p).map fun m => r.worth w n (d + 1) (r.comes p m)
theorem worth_succ {r : Rules} {w : Weights} {p : Pos} (h : r.over p = 0) (n d : Nat) : r.worth w (n + 1) d p = bestOf p.side (branchW r w n d p) := if_neg fun z => z h
/-! ### the best -/
theorem max_all : ∀ (l : List Int) (a : Int), (l.foldl max a = a ∨ l.foldl max a ∈ l) ∧ a ≤ l.foldl max a ∧ ∀ y ∈ l, y ≤ l.foldl max a
  | [], a => ⟨.inl rfl, Int.le_refl _, fun y h => by cases h⟩
  | x :: l, a => by
    obtain ⟨h1, h2, h3⟩ := max_all l (max a x)
    rw [List.foldl_cons]
    refine ⟨?_, by omega, fun y hy => ?_⟩
    · rcases h1 with h1 | h1
      · rcases Int.le_total a x with q | q
        · rw [Int.max_eq_right q] at h1 ⊢
          exact .inr (by rw [h1]; exact List.mem_cons_self)
        · rw [Int.max_eq_left q] at h1 ⊢
          exact .inl h1
      · exact .inr (List.mem_cons_of_mem _ h1)
    · rcases List.mem_cons.mp hy with rfl | hy
      · omega
      · exact h3 y hy
theorem min_all : ∀ (l : List Int) (a : Int), (l.foldl min a = a ∨ l.foldl min a ∈ l) ∧ l.foldl min a ≤ a ∧ ∀ y ∈ l, l.foldl min a ≤ y
  | [], a => ⟨.inl rfl, Int.le_refl _, fun y h => by cases h⟩
  | x :: l, a => by
    obtain ⟨h1, h2, h3⟩ := min_all l (min a x)
    rw [List.foldl_cons]
    refine ⟨?_, by omega, fun y hy => ?_⟩
    · rcases h1 with h1 | h1
      · rcases Int.le_total a x with q | q
        · rw [Int.min_eq_left q] at h1 ⊢
          exact .inl h1
        · rw [Int.min_eq_right q] at h1 ⊢
          exact .inr (by rw [h1]; exact List.mem_cons_self)
      · exact .inr (List.mem_cons_of_mem _ h1)
    · rcases List.mem_cons.mp hy with rfl | hy
      · omega
      · exact h3 y hy
theorem best_max {l : List Int} (h : l ≠ []) : bestOf 0 l ∈ l ∧ ∀ y ∈ l, y ≤ bestOf 0 l := by
  match l, h with
  | a :: l, _ =>
    have e : bestOf 0 (a :: l) = l.foldl max a := rfl
    obtain ⟨h1, h2, h3⟩ := max_all l a
    rw [e]
    refine ⟨?_, fun y hy => ?_⟩
    · rcases h1 with h1 | h1
      · rw [h1]; exact List.mem_cons_self
      · exact List.mem_cons_of_mem _ h1
    · rcases List.mem_cons.mp hy with rfl | hy
      · exact h2
      · exact h3 y hy
theorem best_min {s : Nat} {l : List Int} (hs : s ≠ 0) (h : l ≠ []) : bestOf s l ∈ l ∧ ∀ y ∈ l, bestOf s l ≤ y := by
  match l, h with
  | a :: l, _ =>
    have e : bestOf s (a :: l) = l.foldl min a := by
      show l.foldl (fun (a b : Int) => if s = 0 then max a b else min a b) a = _
      congr 1
      funext x y
      exact if_neg hs
    obtain ⟨h1, h2, h3⟩ := min_all l a
    rw [e]
    refine ⟨?_, fun y hy => ?_⟩
    · rcases h1 with h1 | h1
      · rw [h1]; exact List.mem_cons_self
      · exact List.mem_cons_of_mem _ h1
    · rcases List.mem_cons.mp hy with rfl | hy
      · exact h2
      · exact h3 y hy
theorem best_mem (s : Nat) {l : List Int} (h : l ≠ []) : bestOf s l ∈ l := by
  by_cases hs : s = 0
  · rw [hs]; exact (best_max h).1
  · exact (best_min hs h).1
/-! ### the row -/
def rowsL (r : Rules) (w : Weights) (n d : Nat) (p : Pos) : List (List Nat) := (r.rowOn w n d p).map fun x => TaflLook.toldMove r x.2 x.1
theorem rows_over {r : Rules} {w : Weights} {p : Pos} (h : r.over p ≠ 0) (n d : Nat) : rowsL r w n d p = [] := by
  cases n with
  | zero => rfl
  | succ n =>
    unfold rowsL Rules.rowOn
    rw [if_pos h]
    rfl
theorem rows_zero (r : Rules) (w : Weights) (d : Nat) (p : Pos) : rowsL r w 0 d p = [] := rfl
theorem rows_succ {r : Rules} {w : Weights} {p : Pos} (h : r.over p = 0) {n d i : Nat} {m : Nat × Nat} (hm : (r.moves p)[i]? = some m) (hw : r.worth w n (d + 1) (r.comes p m) = r.worth w (n + 1) d p)
    (hb : ∀ j m', j < i → (r.moves p)[j]? = some m' → r.worth w n (d + 1) (r.comes p m') ≠ r.worth w (n + 1) d p) : rowsL r w (n + 1) d p = TaflLook.toldMove r p m :: rowsL r w n (d + 1) (r.comes p m) := by
  have hf : (r.moves p).find? (fun m => r.worth w n (d + 1) (r.comes p m) == r.worth w (n + 1) d p) = some m := by
    refine find_first (i := i) (fun y hy => ?_) hm (beq_iff_eq.mpr hw)
    obtain ⟨j, hj⟩ := List.getElem?_of_mem hy
    have lt : j < i := by
      have := (List.getElem?_eq_some_iff.mp hj).1
      rw [List.length_take] at this
      omega
    rw [List.getElem?_take_of_lt lt] at hj
    exact beq_eq_false_iff_ne.mpr (hb j y lt hj)
  unfold rowsL
  have e : r.rowOn w (n + 1) d p = (m, p) :: r.rowOn w n (d + 1) (r.comes p m) := by
    show (if r.over p ≠ 0 then [] else match (r.moves p).find? (fun m => r.worth w n (d + 1) (r.comes p m) == r.worth w (n + 1) d p) with
      | none => []
      | some m => (m, p) :: r.rowOn w n (d + 1) (r.comes p m)) = _
    rw [if_neg (fun z => z h), hf]
  rw [e]
  rfl
theorem rows_few (r : Rules) (w : Weights) : ∀ (n d : Nat) (p : Pos), (rowsL r w n d p).length ≤ n
  | 0, d, p => Nat.le_refl _
  | n + 1, d, p => by
    unfold rowsL
    rw [List.length_map]
    show (if r.over p ≠ 0 then [] else match (r.moves p).find? (fun m => r.worth w n (d + 1) (r.comes p m) == r.worth w (n + 1) d p) with
      | none => []
      | some m => (m, p) :: r.rowOn w n (d + 1) (r.comes p m)).length ≤ _
    split
    · exact Nat.zero_le _
    · split
      · exact Nat.zero_le _
      · rw [List.length_cons]
        have := rows_few r w n (d + 1)
        next m _ =>
        have := this (r.comes p m)
        unfold rowsL at this
        rw [List.length_map] at this
        omega
theorem takes_few (r : Rules) (p : Pos) (m : Nat × Nat) : (r.takes p m).length ≤ 192 := by
  unfold Rules.takes
  exact Nat.le_trans (List.length_filter_le _ _) (by rw [List.length_range]; decide)
theorem rows_each (r : Rules) (w : Weights) (n d : Nat) (p : Pos) : ∀ x ∈ rowsL r w n d p, x.length ≤ 200 := fun x hx => by
  obtain ⟨y, _, rfl⟩ := List.mem_map.mp hx
  show (_ :: _ :: _ :: r.takes _ _).length ≤ 200
  rw [List.length_cons, List.length_cons, List.length_cons]
  have := takes_few r y.2 y.1
  omega
theorem moves_few (r : Rules) (p : Pos) : (r.moves p).length ≤ 40000 := by
  rw [moves_eq]
  split
  · exact Nat.zero_le _
  · exact movesL_few r p _ (own_few p)
end TfP

set_option maxRecDepth 100000
set_option maxHeartbeats 1000000
/-! # The tree of what is looked at: its objects -/
namespace Tf
open PySem PySem.Spec PyProof.Rows L2 TfP
def ndF (pa : Addr) (o : Nat) (bl : Addr) : List (Str × V) := [("position", .ref pa), ("over", .int ((o : Nat) : Int)), ("branches", .ref bl)]
def lkF (ra : Addr) (left : Int) : List (Str × V) := [("rules", .ref ra), ("left", .int left)]
theorem nd_position (a : Addr) (o : Nat) (b : Addr) : (ndF a o b).lookup ("position" : Str) = some (.ref a) := by kernel_rfl
theorem nd_over (a : Addr) (o : Nat) (b : Addr) : (ndF a o b).lookup ("over" : Str) = some (.int ((o : Nat) : Int)) := by kernel_rfl
theorem nd_branches (a : Addr) (o : Nat) (b : Addr) : (ndF a o b).lookup ("branches" : Str) = some (.ref b) := by kernel_rfl
theorem lk_rules (a : Addr) (l : Int) : (lkF a l).lookup ("rules" : Str) = some (.ref a) := by kernel_rfl
theorem lk_left (a : Addr) (l : Int) : (lkF a l).lookup ("left" : Str) = some (.int l) := by kernel_rfl
theorem lk_m_node (a : Addr) (l : Int) : (lkF a l).lookup ("node" : Str) = none := by kernel_rfl
theorem lk_no_over (a : Addr) (l : Int) : (lkF a l).lookup ("over" : Str) = none := by kernel_rfl
theorem lk_no_turn (a : Addr) (l : Int) : (lkF a l).lookup ("turn" : Str) = none := by kernel_rfl
theorem lk_no_wide (a : Addr) (l : Int) : (lkF a l).lookup ("wide" : Str) = none := by kernel_rfl
theorem lkp_left (a : Addr) (l k : Int) : putF "left" (.int k) (lkF a l) = lkF a k := by kernel_rfl
theorem lkF_few (a : Addr) (l : Int) : (lkF a l).length < 1000 := by show 2 < 1000; decide
/-- what a turn of looking changes: an older list, the object that counts -/
def Off (F : Addr → Prop) (H : Hp) (b : Addr) : Prop := (¬ F b ∧ ∃ xs, H b = some (.lst xs)) ∨ ∃ C dx ra left, H b = some (.ins C dx (lkF ra left))
theorem Off.ins {F : Addr → Prop} {H : Hp} {b C dx : Addr} {fs : List (Str × V)} {k : Str} {v : V} (h : Off F H b) (e : H b = some (.ins C dx fs)) (l : fs.lookup k = some v) (n : ∀ ra left, (lkF ra left).lookup k = none) : False := by
  rcases h with ⟨_, xs, h⟩ | ⟨_, _, ra, left, h⟩
  · rw [h] at e; cases e
  · rw [h] at e
    cases e
    rw [n] at l
    cases l
theorem Off.lst {F : Addr → Prop} {H : Hp} {b : Addr} {xs : List V} (h : Off F H b) (e : H b = some (.lst xs)) (f : F b) : False := by
  rcases h with ⟨n, _⟩ | ⟨_, _, ra, left, h⟩
  · exact n f
  · rw [h] at e; cases e
theorem Off.dk {F : Addr → Prop} {H : Hp} {b : Addr} {ks : List (Key × V)} (h : Off F H b) (e : H b = some (.dK ks)) : False := by
  rcases h with ⟨_, xs, h⟩ | ⟨_, _, ra, left, h⟩ <;> rw [h] at e <;> cases e
theorem Off.tup {F z : Addr → Prop} {H : Hp} (h : ∀ b, z b → Off F H b) : NoTup z H := fun b o hb e => by
  rcases h b hb with ⟨_, xs, h⟩ | ⟨_, _, ra, left, h⟩ <;> rw [h] at e <;> cases e <;> rfl
theorem Off.weak {F G : Addr → Prop} {H : Hp} {b : Addr} (h : Off F H b) (w : ∀ b, G b → F b) : Off G H b := h.imp (fun z => ⟨fun g => z.1 (w b g), z.2⟩) id
section
variable {A : Adr} {K : PySem.W.Frag}
theorem PoN.keep {F z : Addr → Prop} {H H' : Hp} {a : Addr} {p : Tafl.Pos} {r : Tafl.Rules} (h : PoN F A H a p r) (k : Kp z H H') (o : ∀ b, z b → Off F H b) : PoN F A H' a p r := by
  obtain ⟨f, ⟨⟨dx, h1⟩, h2, h3, ⟨kvs, h4, h5⟩, h6, h7⟩, R, f1, f2⟩ := h
  exact ⟨f, ⟨⟨dx, k.keep _ _ h1 fun z => (o _ z).ins h1 (po_turn f) lk_no_turn⟩, k.keep _ _ h2 fun z => (o _ z).lst h2 f1, k.keep _ _ h3 fun z => (o _ z).lst h3 f2, ⟨kvs, k.keep _ _ h4 fun z => (o _ z).dk h4, h5⟩, h6, h7⟩, R, f1, f2⟩
theorem PoN.mono {F G : Addr → Prop} {H : Hp} {a : Addr} {p : Tafl.Pos} {r : Tafl.Rules} (h : PoN F A H a p r) (w : ∀ b, F b → G b) : PoN G A H a p r := by
  obtain ⟨f, h1, R, f1, f2⟩ := h
  exact ⟨f, h1, R, w _ f1, w _ f2⟩
theorem Po.n {H : Hp} {a : Addr} {p : Tafl.Pos} {r : Tafl.Rules} (h : Po A H a p r) : PoN (fun _ => True) A H a p r := by
  obtain ⟨f, h1, R⟩ := h
  exact ⟨f, h1, R, trivial, trivial⟩
theorem DkAt.keep {F z : Addr → Prop} {H H' : Hp} {d : Addr} {n : Nat} {p : Int → Bool} (h : DkAt H d n p) (k : Kp z H H') (o : ∀ b, z b → Off F H b) : DkAt H' d n p := by
  obtain ⟨kvs, e, hl⟩ := h
  exact ⟨kvs, k.keep _ _ e fun z => (o _ z).dk e, hl⟩
theorem Rl.keep {F z : Addr → Prop} {H H' : Hp} {a : Addr} {r : Tafl.Rules} (h : Rl A H a r) (k : Kp z H H') (o : ∀ b, z b → Off F H b) : Rl A H' a r := by
  obtain ⟨f, pe, pw, ⟨⟨dx, h1⟩, h2, h3⟩, R⟩ := h
  exact ⟨f, pe, pw, ⟨⟨dx, k.keep _ _ h1 fun z => (o _ z).ins h1 (ru_wide f) lk_no_wide⟩, h2.keep k o, h3.keep k o⟩, R⟩
/-- a node: of its position and what it's over by, its branches' list -/
def NdAt (A : Adr) (F : Addr → Prop) (H : Hp) (r : Tafl.Rules) (p : Tafl.Pos) (q bl : Addr) (xs : List V) : Prop := ∃ dx pa, H q = some (.ins A.c_Node dx (ndF pa (r.over p) bl)) ∧ PoN F A H pa p r ∧ F bl ∧ H bl = some (.lst xs)
/-- branches: of each move a tuple -/
def BrAt (K : PySem.W.Frag) (F : Addr → Prop) (H : Hp) (r : Tafl.Rules) (N : Tafl.Pos → Addr → Prop) (p : Tafl.Pos) (xs : List V) (ms : List (Nat × Nat)) : Prop := xs.length = ms.length ∧ ∀ (i : Nat) x m, xs[i]? = some x → ms[i]? = some m →
  ∃ t tl qn, x = .ref t ∧ SqT K H t [.int (m.1 : Nat), .int (m.2 : Nat), .ref tl, .ref qn] ∧ F tl ∧ H tl = some (.lst ((r.takes p m).map natV)) ∧ N (r.comes p m) qn
def NodeAt (K : PySem.W.Frag) (A : Adr) (F : Addr → Prop) (H : Hp) (r : Tafl.Rules) : Nat → Tafl.Pos → Addr → Prop
  | 0, p, q => ∃ bl, NdAt A F H r p q bl []
  | n + 1, p, q => ∃ bl xs, NdAt A F H r p q bl xs ∧ BrAt K F H r (NodeAt K A F H r n) p xs (r.moves p)
theorem NdAt.keep {F z : Addr → Prop} {H H' : Hp} {r : Tafl.Rules} {p : Tafl.Pos} {q bl : Addr} {xs : List V} (h : NdAt A F H r p q bl xs) (k : Kp z H H') (o : ∀ b, z b → Off F H b) : NdAt A F H' r p q bl xs := by
  obtain ⟨dx, pa, h1, h2, h3, h4⟩ := h
  exact ⟨dx, pa, k.keep _ _ h1 fun z => (o _ z).ins h1 (nd_over _ _ _) lk_no_over, h2.keep k o, h3, k.keep _ _ h4 fun z => (o _ z).lst h4 h3⟩
theorem BrAt.keep {F z : Addr → Prop} {H H' : Hp} {r : Tafl.Rules} {N N' : Tafl.Pos → Addr → Prop} {p : Tafl.Pos} {xs : List V} {ms : List (Nat × Nat)} (h : BrAt K F H r N p xs ms) (k : Kp z H H') (o : ∀ b, z b → Off F H b) (hN : ∀ p q, N p q → N' p q) : BrAt K F H' r N' p xs ms := ⟨h.1, fun i x m h1 h2 => by
  obtain ⟨t, tl, qn, e, g1, g2, g3, g4⟩ := h.2 i x m h1 h2
  exact ⟨t, tl, qn, e, k.sqTN (Off.tup o) g1, g2, k.keep _ _ g3 fun z => (o _ z).lst g3 g2, hN _ _ g4⟩⟩
theorem NodeAt.keep {F z : Addr → Prop} {H H' : Hp} {r : Tafl.Rules} (k : Kp z H H') (o : ∀ b, z b → Off F H b) : ∀ (n : Nat) {p : Tafl.Pos} {q : Addr}, NodeAt K A F H r n p q → NodeAt K A F H' r n p q
  | 0, p, q, ⟨bl, h⟩ => ⟨bl, h.keep k o⟩
  | n + 1, p, q, ⟨bl, xs, h, b⟩ => ⟨bl, xs, h.keep k o, b.keep k o fun _ _ => NodeAt.keep k o n⟩
theorem NodeAt.same {F : Addr → Prop} {H H' : Hp} {r : Tafl.Rules} {n : Nat} {p : Tafl.Pos} {q : Addr} (h : NodeAt K A F H r n p q) (s : Same H H') : NodeAt K A F H' r n p q := NodeAt.keep (Kp.of (p := fun _ => False) s) (fun _ z => z.elim) n h
theorem NdAt.mono {F G : Addr → Prop} {H : Hp} {r : Tafl.Rules} {p : Tafl.Pos} {q bl : Addr} {xs : List V} (w : ∀ b, F b → G b) (h : NdAt A F H r p q bl xs) : NdAt A G H r p q bl xs := by
  obtain ⟨dx, pa, h1, h2, h3, h4⟩ := h
  exact ⟨dx, pa, h1, h2.mono w, w _ h3, h4⟩
theorem BrAt.mono {F G : Addr → Prop} {H : Hp} {r : Tafl.Rules} {N N' : Tafl.Pos → Addr → Prop} {p : Tafl.Pos} {xs : List V} {ms : List (Nat × Nat)} (w : ∀ b, F b → G b) (h : BrAt K F H r N p xs ms) (hN : ∀ p q, N p q → N' p q) : BrAt K G H r N' p xs ms := ⟨h.1, fun i x m h1 h2 => by
  obtain ⟨t, tl, qn, e, g1, g2, g3, g4⟩ := h.2 i x m h1 h2
  exact ⟨t, tl, qn, e, g1, w _ g2, g3, hN _ _ g4⟩⟩
theorem NodeAt.mono {F G : Addr → Prop} {H : Hp} {r : Tafl.Rules} (w : ∀ b, F b → G b) : ∀ (n : Nat) {p : Tafl.Pos} {q : Addr}, NodeAt K A F H r n p q → NodeAt K A G H r n p q
  | 0, p, q, ⟨bl, h⟩ => ⟨bl, h.mono w⟩
  | n + 1, p, q, ⟨bl, xs, h, b⟩ => ⟨bl, xs, h.mono w, b.mono w fun _ _ => NodeAt.mono w n⟩
theorem BrAt.snoc {F : Addr → Prop} {H : Hp} {r : Tafl.Rules} {N : Tafl.Pos → Addr → Prop} {p : Tafl.Pos} {xs : List V} {ms : List (Nat × Nat)} {m : Nat × Nat} {t tl qn : Addr} (h : BrAt K F H r N p xs ms)
    (h1 : SqT K H t [.int (m.1 : Nat), .int (m.2 : Nat), .ref tl, .ref qn]) (h2 : F tl) (h3 : H tl = some (.lst ((r.takes p m).map natV))) (h4 : N (r.comes p m) qn) : BrAt K F H r N p (xs ++ [.ref t]) (ms ++ [m]) := by
  refine ⟨by rw [List.length_append, List.length_append, h.1]; rfl, fun i x m' e1 e2 => ?_⟩
  by_cases hi : i < ms.length
  · rw [List.getElem?_append_left (by rw [h.1]; exact hi)] at e1
    rw [List.getElem?_append_left hi] at e2
    exact h.2 i x m' e1 e2
  · rw [List.getElem?_append_right (by omega)] at e2
    rw [List.getElem?_append_right (by rw [h.1]; omega), h.1] at e1
    cases e : i - ms.length with
    | zero => rw [e] at e1 e2; cases e1; cases e2; exact ⟨t, tl, qn, rfl, h1, h2, h3, h4⟩
    | succ j => rw [e] at e2; cases e2
end
section
variable {P : Program} {w : World} {K : PySem.W.Frag} {mg : Str → Option Value} {base : Heap} {A : Adr}
def sp_Node_init (A : Adr) : Sp := fun vs H Q _ => ∃ p dx pa, ∃ o : Nat, vs = [.ref p, .ref pa, .int (o : Int)] ∧ H p = some (.ins A.c_Node dx []) ∧ ∀ bl H', H' p = some (.ins A.c_Node dx (ndF pa o bl)) → H bl = none → H' bl = some (.lst []) → Kp (· = p) H H' → Q .non H'
theorem ok_Node___init__ (T : Txt K mg A) : FnOk P w K mg base CX0 1 A.f_Node___init__ A.d_Node___init__ ["self", "position", "over"] (sp_Node_init A) := by
  refine T.F_Node___init__.ok sc_Node___init__ (fun vs H Q E h => ?_) (fun cdv B outer s H vs Q E hr h => ?_)
  · obtain ⟨p, dx, pa, o, rfl, _⟩ := h
    rfl
  · obtain ⟨p, dx, pa, o, rfl, hp, q⟩ := h
    refine ⟨_, (pss_cons (ps_fld (pv 0) (pv 1) rfl)
  (pss_cons (ps_fld (pv 0) (pv 2) rfl)
  (pss_one (ps_fld (pv 0) (pe_lst pa_nil) rfl)))), ?_⟩
    have l0 : ([] : List (Str × V)).length < 1 := by decide
    refine ⟨_, rfl, _, rfl, p, _, dx, _, rfl, hp, T.cl_Node, T.n_Node_position, pl9 l0, ?_⟩
    have l1 := pl (g := "position") (v := .ref pa) l0
    refine ⟨_, rfl, _, rfl, p, _, dx, _, rfl, upd_same, T.cl_Node, T.n_Node_over, pl9 l1, ?_⟩
    rw [upd_upd]
    have l2 := pl (g := "over") (v := .int (o : Nat)) l1
    generalize hG : putF "over" (.int (o : Nat)) (putF "position" (.ref pa) []) = G at l2 ⊢
    have k1 : Kp (· = p) H (upd H p (.ins A.c_Node dx G)) := Kp.upd rfl
    have o1 : (upd H p (.ins A.c_Node dx G)) p = some (.ins A.c_Node dx G) := upd_same
    generalize upd H p (.ins A.c_Node dx G) = H1 at k1 o1 ⊢
    refine ⟨by decide, fun bl nbl => ?_⟩
    have np : p ≠ bl := ne_of_none o1 nbl
    have o2 : (upd H1 bl (.lst [])) p = some (.ins A.c_Node dx G) := (upd_ne np).trans o1
    refine ⟨_, rfl, p, _, dx, _, rfl, o2, T.cl_Node, T.n_Node_branches, pl9 l2, ?_⟩
    have e : putF "branches" (.ref bl) G = ndF pa o bl := by rw [← hG]; kernel_rfl
    rw [e]
    exact q bl _ upd_same (k1.dom _ nbl) ((upd_ne (Ne.symm np)).trans upd_same) ((k1.trans (Kp.new nbl)).trans (Kp.upd rfl))
def sp_Looking_init (A : Adr) : Sp := fun vs H Q _ => ∃ p dx ra, ∃ most : Int, vs = [.ref p, .ref ra, .int most] ∧ H p = some (.ins A.c_Looking dx []) ∧ ∀ H', H' p = some (.ins A.c_Looking dx (lkF ra most)) → Kp (· = p) H H' → Q .non H'
theorem ok_Looking___init__ (T : Txt K mg A) : FnOk P w K mg base CX0 1 A.f_Looking___init__ A.d_Looking___init__ ["self", "rules", "most"] (sp_Looking_init A) := by
  refine T.F_Looking___init__.ok sc_Looking___init__ (fun vs H Q E h => ?_) (fun cdv B outer s H vs Q E hr h => ?_)
  · obtain ⟨p, dx, ra, most, rfl, _⟩ := h
    rfl
  · obtain ⟨p, dx, ra, most, rfl, hp, q⟩ := h
    refine ⟨_, (pss_cons (ps_fld (pv 0) (pv 1) rfl)
  (pss_one (ps_fld (pv 0) (pv 2) rfl))), ?_⟩
    have l0 : ([] : List (Str × V)).length < 1 := by decide
    refine ⟨_, rfl, _, rfl, p, _, dx, _, rfl, hp, T.cl_Looking, T.n_Looking_rules, pl9 l0, ?_⟩
    have l1 := pl (g := "rules") (v := .ref ra) l0
    refine ⟨_, rfl, _, rfl, p, _, dx, _, rfl, upd_same, T.cl_Looking, T.n_Looking_left, pl9 l1, ?_⟩
    rw [upd_upd]
    have e : putF "left" (.int most) (putF "rules" (.ref ra) []) = lkF ra most := by kernel_rfl
    rw [e]
    exact q _ upd_same (Kp.upd rfl)
end
end Tf

set_option maxRecDepth 100000
set_option maxHeartbeats 1000000
/-! # Looking ahead: the tree is made -/
namespace Tf
open PySem PySem.Spec PyProof.Rows L2 TfP
section
variable {P : Program} {w : World} {K : PySem.W.Frag} {mg : Str → Option Value} {base : Heap} {A : Adr}
def sp_nodeP (K : PySem.W.Frag) (A : Adr) (n : Nat) : Sp := fun vs H Q E => ∃ la lx ra r pa p F, ∃ left : Nat, vs = [.ref la, .ref pa, .int (n : Int)] ∧ H la = some (.ins A.c_Looking lx (lkF ra (left : Int))) ∧ Rl A H ra r ∧ PoN F A H pa p r ∧ (∀ b, H b = none → F b) ∧
  (cnt r n p ≤ left → ∀ H' q, NodeAt K A F H' r n p q → H' la = some (.ins A.c_Looking lx (lkF ra ((left - cnt r n p : Nat) : Int))) → Kp (· = la) H H' → Q (.ref q) H') ∧
  (¬ cnt r n p ≤ left → ∀ H', Kp (· = la) H H' → E (.ref A.c_TooMany) none H')
def sp_node (K : PySem.W.Frag) (A : Adr) : Nat → Sp
  | 0 => fun _ _ _ _ => False
  | n + 1 => sp_nodeP K A n
theorem ok_nodeB (T : Txt K mg A) : ∀ n : Nat, FnOk P w K mg base (L2N.CX P w) (7 + n) A.f_Looking_node A.d_Looking_node ["self", "position", "n"] (sp_node K A n)
  | 0 => okG T.F_Looking_node sc_Looking_node (fun vs H Q E h => h.elim) (fun cdv B outer s H vs Q E hr h => h.elim)
  | n + 1 => by
    have ok_Looking_node := fun (_ : Txt K mg A) => ok_nodeB T n
    refine okG (k := 7 + n) T.F_Looking_node sc_Looking_node (fun vs H Q E h => ?_) (fun cdv B outer s H vs Q E hr h => ?_)
    · obtain ⟨la, lx, ra, r, pa, p, F, left, rfl, _⟩ := h
      rfl
    · obtain ⟨la, lx, ra, r, pa, p, F, left, rfl, hla, ZR, ZP, hF, qT, qF⟩ := h
      refine ⟨_, (pss_cons (ps_set (i := 3) sc_Looking_node.nd rfl (by first | exact .inl rfl | exact .inr rfl) (pe_make T.mk_Node (ok_Node___init__ T) (hr.mono (by omega)) rfl T.g_Node T.b_Node___init__ .nil pass0 (pa_cons (pv 1) (pa_cons (pe_call (ok_over_by T) (hr.mono (by omega)) rfl T.g_over_by T.F_over_by.kp T.b_over_by .nil pass0 (pa_cons (pe_fld (pv 0) rfl) (pa_cons (pv 1) pa_nil))) pa_nil))))
  (pss_cons (ps_if (PW.pt (pw_and (pt_cmpR op_gt (pv 2) pe_int (nomark _)) (pw_and1 (pt_cmpR op_eq (pe_fld (pv 3) rfl) (pe_gi T.g_NOT_OVER) (nomark _))))) (pss_one (ps_for (L2.passes_of rfl) rfl (pi_list (pe_call (ok_moves_of T) (hr.mono (by omega)) rfl T.g_moves_of T.F_moves_of.kp T.b_moves_of .nil pass0 (pa_cons (pe_fld (pv 0) rfl) (pa_cons (pv 1) pa_nil)))) (pg_tup rfl (pgs_cons (pg_name (i := 4) sc_Looking_node.nd rfl (by first | exact .inl rfl | exact .inr rfl)) (pgs_cons (pg_name (i := 5) sc_Looking_node.nd rfl (by first | exact .inl rfl | exact .inr rfl)) pgs_nil)))
  (pss_cons (ps_fld (pv 0) (pe_op op_sub (pe_fld (pv 0) rfl) pe_int) rfl)
  (pss_cons (ps_if (pt_cmpR op_lt (pe_fld (pv 0) rfl) pe_int (nomark _)) (pss_one (L2N.ps_raise rfl (L2N.takes_of rfl rfl rfl rfl) (L2N.pmk_own PySem.F.excBase_ValueError T.xTM T.g_TooMany T.kTM (raises_own T.bTM T.tTM) (by rfl)))) pss_nil)
  (pss_cons (ps_asg (pe_call (ok_made T) (hr.mono (by omega)) rfl T.g_made T.F_made.kp T.b_made .nil pass0 (pa_cons (pe_fld (pv 0) rfl) (pa_cons (pv 1) (pa_cons (pv 4) (pa_cons (pv 5) pa_nil))))) (pg_tup rfl (pgs_cons (pg_name (i := 6) sc_Looking_node.nd rfl (by first | exact .inl rfl | exact .inr rfl)) (pgs_cons (pg_name (i := 7) sc_Looking_node.nd rfl (by first | exact .inl rfl | exact .inr rfl)) pgs_nil))))
  (pss_one (ps_expr (pe_bm PySem.F.plainAttrs_list PySem.F.slot_list_append PySem.F.type_list_append mt_append (pe_fld (pv 3) rfl) (pa_cons (pe_tup (pa_cons (pv 4) (pa_cons (pv 5) (pa_cons (pv 7) (pa_cons (pe_meth (pv 0) T.cl_Looking T.m_Looking_node (ok_Looking_node T) (hr.mono (by omega)) T.b_Looking_node .nil (pxN (L2N.takes_of rfl rfl rfl rfl)) (pa_cons (pv 6) (pa_cons (pe_op op_sub (pv 2) pe_int) pa_nil))) pa_nil))))) pa_nil))))))))) pss_nil)
  (pss_one (ps_ret (pv 3))))), ?_⟩
      have W : RulesWf r := by obtain ⟨_, _, _, _, R⟩ := ZR; exact R.wf
      have hla0 := hla
      have offLa : ∀ {G : Addr → Prop} b, b = la → Off G H b := fun {G} b e => .inr ⟨_, _, _, _, (congrArg H e).trans hla0⟩
      refine ⟨_, rfl, _, rfl, la, A.c_Looking, lx, _, _, rfl, hla, T.cl_Looking, T.n_Looking_rules, lk_rules _ _, _, rfl, ra, pa, r, p, rfl, ZR, ZP.po, fun H1 s1 => ?_⟩
      refine fun q dx nq ndx nqd => ⟨q, dx, pa, r.over p, rfl, upd_same, fun bl H2 o2 nbl hbl k2 => ⟨rfl, ?_⟩⟩
      have nq' : (upd H1 dx (.own q)) q = none := by rw [upd_ne (Ne.symm nqd)]; exact nq
      have s12 : Same H1 H2 := Kp.noneSame (p := (· = q)) (((Kp.new ndx).trans (Kp.new nq')).trans k2) fun b hb => by rw [hb]; exact nq
      have s02 : Same H H2 := s1.trans s12
      have nbl0 : H bl = none := s1.free ((Kp.new (p := (· = q)) ndx).dom bl ((Kp.new (p := (· = q)) nq').dom bl nbl))
      have hla := s02 _ _ hla
      have ZR2 := ZR.same s02
      have ZP2 : PoN F A H2 pa p r := ZP.keep (Kp.of (p := fun _ => False) s02) (fun _ z => z.elim)
      have nd0 : NdAt A F H2 r p q bl [] := ⟨dx, pa, o2, ZP2, hF bl nbl0, hbl⟩
      refine ⟨_, rfl, _, _, rfl, rfl, _, rfl, ?_⟩
      cases n with
      | zero =>
        refine if_f (decide_eq_false (by decide)) ⟨_, rfl, qT (Nat.zero_le _) H2 q ⟨bl, nd0⟩ hla (Kp.of s02)⟩
      | succ n =>
      refine if_t (decide_eq_true (by omega)) ⟨_, rfl, q, A.c_Node, dx, _, _, rfl, o2, T.cl_Node, T.n_Node_over, nd_over _ _ _, rfl, _, rfl, ?_⟩
      by_cases ho : r.over p = 0
      case neg =>
        refine if_f (by rw [dec_int, beq_eq_false_iff_ne]; omega) ⟨_, rfl, ?_⟩
        have em := moves_none ho
        have ec : cnt r (n + 1) p = 0 := by rw [cnt_succ, em]; rfl
        rw [ec] at qT
        exact qT (Nat.zero_le _) H2 q ⟨bl, [], nd0, by rw [em]; exact ⟨rfl, fun i x m h => by cases h⟩⟩ hla (Kp.of s02)
      refine if_t (by rw [ho]; rfl) ?_
      obtain ⟨hk, he, hmv⟩ := over_zero ho
      refine ⟨_, rfl, la, A.c_Looking, lx, _, _, rfl, hla, T.cl_Looking, T.n_Looking_rules, lk_rules _ _, _, rfl, ra, pa, r, p, rfl, ZR2, ZP2.po, fun H3 lo mxs s3 nlo hlo tm => ⟨lo, rfl, ⟨_, SqL.of hlo⟩, ?_⟩⟩
      rw [← hmv] at tm
      have s03 := s02.trans s3
      have hbl3 := s3 _ _ hbl
      have hla3 := s3 _ _ hla
      have o3 := s3 _ _ o2
      have nlb : lo ≠ bl := fun z => by rw [z, hbl] at nlo; cases nlo
      have nll : lo ≠ la := fun z => by rw [z, hla] at nlo; cases nlo
      have off3 : ∀ b, (b = bl ∨ b = la) → Off (fun b => b ≠ bl ∧ H b = none) H3 b := fun b hb => by
        rcases hb with rfl | rfl
        · exact .inl ⟨fun z => z.1 rfl, _, hbl3⟩
        · exact .inr ⟨_, _, _, _, hla3⟩
      have nqx : ¬ (q = bl ∨ q = la) := fun z => z.elim (fun y => by rw [y, hbl3] at o3; cases o3) (fun y => (off3 _ (.inr y)).ins o3 (nd_over _ _ _) lk_no_over)
      refine forS (wv_list (xs := mxs)) (fun i σ H' => ∃ v4 v5 v6 v7 xs, σ = [some (.ref la), some (.ref pa), some (.int ((n + 1 : Nat) : Int)), some (.ref q), v4, v5, v6, v7] ∧ Kp (fun b => b = bl ∨ b = la) H3 H' ∧ (((r.moves p).take i).map fun m => 1 + cnt r n (r.comes p m)).sum ≤ left ∧
        H' la = some (.ins A.c_Looking lx (lkF ra ((left - (((r.moves p).take i).map fun m => 1 + cnt r n (r.comes p m)).sum : Nat) : Int))) ∧ H' bl = some (.lst xs) ∧ BrAt K (fun b => b ≠ bl ∧ H b = none) H' r (NodeAt K A (fun b => b ≠ bl ∧ H b = none) H' r n) p xs ((r.moves p).take i))
        ⟨none, none, none, none, [], rfl, Kp.refl, Nat.zero_le _, hla3, hbl3, ⟨rfl, fun i x m h => by cases h⟩⟩ (fun i σ H' hP => ?_) (fun i x σ H' hx hP => ?_) (fun σ H' hP => ?_)
      · obtain ⟨_, _, _, _, _, _, k, _⟩ := hP
        exact SqL.of (k.keep _ _ hlo fun z => z.elim nlb nll)
      · obtain ⟨v4, v5, v6, v7, xs, rfl, k, hS, hla, hbl, hB⟩ := hP
        have k0 : Kp (· = la) H H' := ((Kp.of s03).fresh (p := (· = bl)) k fun x hx => by rw [hx]; exact nbl0)
        have ZR' := ZR.keep (F := F) k0 offLa
        have ZP' : PoN F A H' pa p r := ZP.keep k0 offLa
        obtain ⟨m, t, hm, rfl, ht⟩ := (tm.keep k (Off.tup off3)).get hx
        have hmem : (m.1, m.2) ∈ movesL r p := by rw [← hmv]; exact List.mem_of_getElem? hm
        have hfew : i < 40000 := Nat.lt_of_lt_of_le (List.getElem?_eq_some_iff.mp hm).1 (moves_few r p)
        have hlen : xs.length ≤ i := by rw [hB.1, List.length_take]; exact Nat.min_le_left _ _
        have hS1 := sum_take (fun m => 1 + cnt r n (r.comes p m)) hm
        have hSt := sum_take_le (fun m => 1 + cnt r n (r.comes p m)) (r.moves p) (i + 1)
        rw [← cnt_succ] at hSt
        obtain ⟨S, hSe⟩ : ∃ S, (((r.moves p).take i).map fun m => 1 + cnt r n (r.comes p m)).sum = S := ⟨_, rfl⟩
        rw [hSe] at hS hla hS1
        rw [hS1] at hSt
        refine ⟨t, _, rfl, ht, rfl, _, _, rfl, _, _, rfl, rfl, ?_⟩
        refine ⟨_, rfl, la, A.c_Looking, lx, _, _, rfl, hla, T.cl_Looking, T.n_Looking_left, lk_left _ _, _, _, rfl, rfl, _, rfl, la, A.c_Looking, lx, _, rfl, hla, T.cl_Looking, T.n_Looking_left, lkF_few _ _, ?_⟩
        rw [lkp_left]
        have k1 : Kp (· = la) H' (upd H' la (.ins A.c_Looking lx (lkF ra (((left - S : Nat) : Int) - 1)))) := Kp.upd rfl
        have hla1 : (upd H' la (.ins A.c_Looking lx (lkF ra (((left - S : Nat) : Int) - 1)))) la = some (.ins A.c_Looking lx (lkF ra (((left - S : Nat) : Int) - 1))) := upd_same
        have hbl1 : (upd H' la (.ins A.c_Looking lx (lkF ra (((left - S : Nat) : Int) - 1)))) bl = some (.lst xs) := k1.keep _ _ hbl fun z => by rw [z, hla] at hbl; cases hbl
        generalize upd H' la (.ins A.c_Looking lx (lkF ra (((left - S : Nat) : Int) - 1))) = H4 at k1 hla1 hbl1 ⊢
        have hla' := hla
        have hla := hla1
        have k04 := k0.trans k1
        refine ⟨_, rfl, la, A.c_Looking, lx, _, _, rfl, hla, T.cl_Looking, T.n_Looking_left, lk_left _ _, _, _, rfl, rfl, _, rfl, ?_⟩
        by_cases hneg : left ≤ S
        · refine if_t (decide_eq_true (by omega)) ?_
          exact qF (by omega) H4 k04
        refine if_f (decide_eq_false (by omega)) ?_
        have ZR4 := ZR.keep (F := F) k04 offLa
        have ZP4 : PoN F A H4 pa p r := ZP.keep k04 offLa
        have M : Mv r p m.1 m.2 := by
          obtain ⟨g, _, R, _⟩ := ZP4
          exact mv_of W R.ok hk hmem
        refine ⟨_, rfl, la, A.c_Looking, lx, _, _, rfl, hla, T.cl_Looking, T.n_Looking_rules, lk_rules _ _, _, rfl, _, rfl, _, rfl, ra, pa, r, p, m.1, m.2, rfl, ZR4, ZP4.po, M, fun H5 tq a tl s5 htq ZC ntl htl => ⟨tq, _, rfl, htq, rfl, _, _, rfl, _, _, rfl, rfl, ?_⟩⟩
        have hla5 := s5 _ _ hla
        have hbl5 := s5 _ _ hbl1
        have F0 : ∀ b, H4 b = none → b ≠ bl ∧ H b = none := fun b hb => ⟨fun z => (by rw [z, hbl1] at hb; cases hb), k04.dom _ hb⟩
        have k05 : Kp (· = la) H H5 := k04.trans (Kp.of s5)
        have ZR5 := ZR.keep (F := F) k05 offLa
        have o5 : H5 q = some (.ins A.c_Node dx (ndF pa (r.over p) bl)) := s5 _ _ (k1.keep _ _ (k.keep _ _ o3 nqx) fun z => nqx (.inr z))
        refine ⟨_, rfl, q, A.c_Node, dx, _, _, rfl, o5, T.cl_Node, T.n_Node_branches, nd_branches _ _ _, .inl ⟨rfl, _, SqL.of hbl5⟩, ?_⟩
        refine ⟨_, rfl, _, rfl, _, rfl, _, rfl, la, lx, _, rfl, hla5, lk_m_node _ _, _, rfl, _, rfl, _, _, rfl, rfl, ?_⟩
        refine ⟨la, lx, ra, r, a, r.comes p m, (fun b => b ≠ bl ∧ H b = none), left - S - 1, ?_, ?_, ZR5, ZC.mono F0, fun b hb => F0 b (s5.free hb), fun hc H6 qn NA hla6 k6 => ?_, fun hc H6 k6 => ?_⟩
        · exact congrArg (fun z => [V.ref la, V.ref a, V.int z]) (by omega)
        · rw [hla5]
          exact congrArg (fun z => some (HO.ins A.c_Looking lx (lkF ra z))) (by omega)
        · have nbla : bl ≠ la := fun z => by rw [z, hla5] at hbl5; cases hbl5
          have hbl6 := k6.keep _ _ hbl5 nbla
          have htl6 := k6.keep _ _ htl fun z => by rw [z, hla5] at htl; cases htl
          refine ⟨(by show 4 ≤ sizeLine; exact smallE (by decide)), fun t2 nt2 => ⟨bl, xs, _, rfl, rfl, same_new nt2 _ _ hbl6, small (by omega), ?_⟩⟩
          have s7 := same_new (o := .tup [.int (m.1 : Nat), .int (m.2 : Nat), .ref tl, .ref qn]) nt2
          have hbl7 := s7 _ _ hbl6
          have hla7 := s7 _ _ hla6
          have htl7 := s7 _ _ htl6
          have ht7 : (upd H6 t2 (.tup [.int (m.1 : Nat), .int (m.2 : Nat), .ref tl, .ref qn])) t2 = some (.tup [.int (m.1 : Nat), .int (m.2 : Nat), .ref tl, .ref qn]) := upd_same
          generalize upd H6 t2 (.tup [.int (m.1 : Nat), .int (m.2 : Nat), .ref tl, .ref qn]) = H7 at s7 hbl7 hla7 htl7 ht7 ⊢
          -- from H' to H7, then the list
          have kA : Kp (· = la) H' H7 := ((k1.trans (Kp.of s5)).trans k6).trans (Kp.of s7)
          have offA : ∀ b, b = la → Off (fun b => b ≠ bl ∧ H b = none) H' b := fun b e => .inr ⟨_, _, _, _, (congrArg H' e).trans hla'⟩
          have off7 : ∀ b, b = bl → Off (fun b => b ≠ bl ∧ H b = none) H7 b := fun b e => .inl ⟨fun z => z.1 e, _, (congrArg H7 e).trans hbl7⟩
          have kB : Kp (· = bl) H7 (upd H7 bl (.lst (xs ++ [.ref t2]))) := Kp.upd rfl
          refine ⟨_, _, _, _, xs ++ [.ref t2], rfl, ?_, ?_, ?_, upd_same, ?_⟩
          · exact (k.trans (kA.mono fun b z => .inr z)).trans (kB.mono fun b z => .inl z)
          · rw [hS1]; omega
          · rw [upd_ne (Ne.symm nbla), hla7, hS1]
            exact congrArg (fun z : Nat => some (HO.ins A.c_Looking lx (lkF ra (z : Int)))) (by omega)
          · rw [take_more hm]
            have b1 := hB.keep (N' := NodeAt K A (fun b => b ≠ bl ∧ H b = none) H7 r n) kA offA fun _ _ => NodeAt.keep kA offA n
            exact (b1.snoc (.inl (.inl ht7)) (F0 _ ntl) htl7 (NA.same s7)).keep kB off7 fun _ _ => NodeAt.keep kB off7 n
        · exact qF (by omega) H6 (k05.trans k6)
      · obtain ⟨v4, v5, v6, v7, xs, rfl, k, hS, hla, hbl, hB⟩ := hP
        have e : mxs.length = (r.moves p).length := tm.1
        rw [e, List.take_length] at hS hla hB
        rw [← cnt_succ] at hS hla
        have k0 : Kp (· = la) H H' := ((Kp.of s03).fresh (p := (· = bl)) k fun x hx => by rw [hx]; exact nbl0)
        have ZP' : PoN F A H' pa p r := ZP.keep k0 offLa
        have o' := k.keep _ _ o3 nqx
        exact ⟨_, rfl, qT hS H' q ⟨bl, xs, ⟨dx, pa, o', ZP', hF bl nbl0, hbl⟩, hB.mono (fun b z => hF b z.2) fun _ _ => NodeAt.mono (fun b z => hF b z.2) n⟩ hla k0⟩
end
end Tf

set_option maxRecDepth 100000
set_option maxHeartbeats 1000000
/-! # What nodes are worth -/
namespace TfP
open Tafl Tf
theorem cells_len {l : List Nat} {n : Nat} (hl : l.Nodup) (h : ∀ c, c ∈ l ↔ n.testBit c = true) (lt : ∀ c ∈ l, c < 192) : l.length = (cellsIn n).length := by
  have hp : l.Perm (cellsIn n) := (List.perm_ext_iff_of_nodup hl (List.nodup_range.filter _)).mpr fun c => by
    rw [List.mem_filter, List.mem_range, h c]
    exact ⟨fun z => ⟨lt c ((h c).mpr z), z⟩, fun z => z.2⟩
  exact hp.length_eq
theorem first_at : ∀ {l : List Int} {y : Int}, y ∈ l → ∃ j : Nat, l[j]? = some y ∧ ∀ (m : Nat) z, m < j → l[m]? = some z → z ≠ y
  | x :: l, y, h => by
    by_cases e : x = y
    · exact ⟨0, by rw [e]; rfl, fun m z hm => absurd hm (Nat.not_lt_zero _)⟩
    · obtain ⟨j, h1, h2⟩ := first_at ((List.mem_cons.mp h).resolve_left fun z => e z.symm)
      refine ⟨j + 1, h1, fun m z hm hz => ?_⟩
      cases m with
      | zero => cases hz; exact e
      | succ m => exact h2 m z (Nat.lt_of_succ_lt_succ hm) hz
theorem right_small {w : Weights} (h : w.right = true) : w.hunter.natAbs ≤ 1000 ∧ w.man.natAbs ≤ 1000 ∧ w.road.natAbs ≤ 1000 := by
  unfold Weights.right at h
  rw [Bool.and_eq_true, Bool.and_eq_true, decide_eq_true_iff, decide_eq_true_iff, decide_eq_true_iff] at h
  exact h
end TfP
namespace Tf
open PySem PySem.Spec PyProof.Rows L2 TfP
def wtV (w : Tafl.Weights) : List V := [.int w.hunter, .int w.man, .int w.road]
section
variable {P : Program} {w : World} {K : PySem.W.Frag} {mg : Str → Option Value} {base : Heap} {A : Adr}
def sp_weighed (A : Adr) : Sp := fun vs H Q _ => ∃ ra pa wa r p wt, vs = [.ref ra, .ref pa, .ref wa] ∧ Rl A H ra r ∧ Po A H pa p r ∧ H wa = some (.lst (wtV wt)) ∧ wt.right = true ∧ ∀ H', Same H H' → Q (.int (r.weigh wt p)) H'
theorem ok_weighed (T : Txt K mg A) : FnOk P w K mg base CX0 5 A.f_weighed A.d_weighed ["rules", "position", "weights"] (sp_weighed A) := by
  refine T.F_weighed.ok sc_weighed (fun vs H Q E h => ?_) (fun cdv B outer s H vs Q E hr h => ?_)
  · obtain ⟨ra, pa, wa, r, p, wt, rfl, _⟩ := h
    rfl
  · obtain ⟨ra, pa, wa, r, p, wt, rfl, ZR, ⟨g, ZP, RP⟩, hw, hR, q⟩ := h
    have W : RulesWf r := by obtain ⟨_, _, _, _, R⟩ := ZR; exact R.wf
    obtain ⟨dp, hpa⟩ := ZP.obj
    obtain ⟨h1, h2, h3⟩ := right_small hR
    refine ⟨_, (pss_cons (ps_asg (pv 2) (pg_lst rfl (pgs_cons (pg_name (i := 3) sc_weighed.nd rfl (by first | exact .inl rfl | exact .inr rfl)) (pgs_cons (pg_name (i := 4) sc_weighed.nd rfl (by first | exact .inl rfl | exact .inr rfl)) (pgs_cons (pg_name (i := 5) sc_weighed.nd rfl (by first | exact .inl rfl | exact .inr rfl)) pgs_nil)))))
  (pss_cons (ps_set (i := 6) sc_weighed.nd rfl (by first | exact .inl rfl | exact .inr rfl) (pe_op op_sub (pe_op op_mul (pv 3) (pe_callB call_len (by rfl) T.n_len PySem.boot_len (pa_cons (pe_fld (pv 1) rfl) pa_nil))) (pe_op op_mul (pv 4) (pe_callB call_len (by rfl) T.n_len PySem.boot_len (pa_cons (pe_fld (pv 1) rfl) pa_nil)))))
  (pss_one (ps_ret (pe_op op_sub (pv 6) (pe_op op_mul (pv 5) (pe_callB call_len (by rfl) T.n_len PySem.boot_len (pa_cons (pe_call (ok_king_goals T) (hr.mono (by decide)) rfl T.g_king_goals T.F_king_goals.kp T.b_king_goals .nil pass0 (pa_cons (pv 0) (pa_cons (pv 1) pa_nil))) pa_nil)))))))), ?_⟩
    refine ⟨_, rfl, wa, _, rfl, SqL.of hw, rfl, _, _, rfl, _, _, rfl, _, _, rfl, rfl, ?_⟩
    refine ⟨_, rfl, _, rfl, pa, A.c_Position, dp, _, _, rfl, hpa, T.cl_Position, T.n_Position_hunters, po_hunters _, _, g.hs.length, rfl, .inl ⟨_, SqL.of ZP.hl, (List.length_map _).symm⟩, _, _, rfl, rfl, .inl ⟨by omega, by omega⟩, ?_⟩
    refine ⟨_, rfl, _, rfl, pa, A.c_Position, dp, _, _, rfl, hpa, T.cl_Position, T.n_Position_men, po_men _, _, g.ms.length, rfl, .inl ⟨_, SqL.of ZP.ml, (List.length_map _).symm⟩, _, _, rfl, rfl, .inl ⟨by omega, by omega⟩, _, _, rfl, rfl, ?_⟩
    refine ⟨_, rfl, _, rfl, _, rfl, _, rfl, ra, pa, r, p, rfl, ZR, ⟨g, ZP, RP⟩, fun H1 zq zs s1 hz lz => ⟨_, zs.length, rfl, .inl ⟨_, SqL.of hz, rfl⟩, _, _, rfl, rfl, .inl ⟨by omega, by omega⟩, _, _, rfl, rfl, ?_⟩⟩
    have q := q H1 s1
    unfold Tafl.Rules.weigh at q
    rw [← cells_len RP.hN RP.h fun c hc => Nat.lt_trans (cell_lt W (RP.ok.h c ((RP.h c).mp hc))) (by decide), ← cells_len RP.mN RP.m fun c hc => Nat.lt_trans (cell_lt W (RP.ok.m c ((RP.m c).mp hc))) (by decide), ← lz] at q
    exact q
def sp_worthP (K : PySem.W.Frag) (A : Adr) (n : Nat) : Sp := fun vs H Q _ => ∃ ra wa qa r p wt F, ∃ d : Nat, vs = [.ref ra, .ref wa, .ref qa, .int (d : Int)] ∧ Rl A H ra r ∧ H wa = some (.lst (wtV wt)) ∧ wt.right = true ∧ NodeAt K A F H r n p qa ∧ ∀ H', Same H H' → Q (.int (r.worth wt n d p)) H'
def sp_branchP (K : PySem.W.Frag) (A : Adr) (n : Nat) : Sp := fun vs H Q _ => ∃ ra wa qa r p wt F, ∃ d : Nat, vs = [.ref ra, .ref wa, .ref qa, .int (d : Int)] ∧ Rl A H ra r ∧ H wa = some (.lst (wtV wt)) ∧ wt.right = true ∧ NodeAt K A F H r (n + 1) p qa ∧
  ∀ H' so, Same H H' → H so = none → H' so = some (.lst ((branchW r wt n d p).map V.int)) → Q (.ref so) H'
def sp_worthN (K : PySem.W.Frag) (A : Adr) : Nat → Sp
  | 0 => fun _ _ _ _ => False
  | n + 1 => sp_worthP K A n
def sp_branchN (K : PySem.W.Frag) (A : Adr) : Nat → Sp
  | 0 => fun _ _ _ _ => False
  | n + 1 => sp_branchP K A n
theorem ok_branchN (T : Txt K mg A) (n : Nat) (ok : FnOk P w K mg base CX0 (6 + 2 * n) A.f_worth A.d_worth ["rules", "weights", "node", "d"] (sp_worthN K A n)) : FnOk P w K mg base CX0 (6 + 2 * n + 1) A.f_branch_worths A.d_branch_worths ["rules", "weights", "node", "d"] (sp_branchN K A n) := by
  cases n with
  | zero => exact okG T.F_branch_worths sc_branch_worths (fun vs H Q E h => h.elim) (fun cdv B outer s H vs Q E hr h => h.elim)
  | succ n =>
    have ok_worth := fun (_ : Txt K mg A) => ok
    refine T.F_branch_worths.ok sc_branch_worths (fun vs H Q E h => ?_) (fun cdv B outer s H vs Q E hr h => ?_)
    · obtain ⟨ra, wa, qa, r, p, wt, F, d, rfl, _⟩ := h
      rfl
    · obtain ⟨ra, wa, qa, r, p, wt, F, d, rfl, ZR, hw, hR, ⟨bl, xs, ⟨dq, pa, hqa, ZP, _, hbl⟩, hB⟩, q⟩ := h
      refine ⟨_, (pss_one (ps_ret (pe_lc (own := [("branch", 4)]) rfl sc_branch_worths.nd (pi_list (pe_fld (pv 2) rfl)) (blkOk_by (N := ["rules", "weights", "node", "d", "branch"]) (sc := defScope s_branch_worths) (own := [("branch", 4)]) (by decide +kernel)) (fun _ _ _ _ _ => (pg_name (i := 4) sc_branch_worths.nd rfl (by first | exact .inl rfl | exact .inr rfl))) (fun _ _ _ _ _ => pts_nil) (fun _ _ _ _ _ => (pe_call (ok_worth T) (hr.mono (by omega)) rfl T.g_worth T.F_worth.kp T.b_worth .nil pass0 (pa_cons (pv 0) (pa_cons (pv 1) (pa_cons (pe_ix (ix_tupK K) (pv 4) pe_int (fun _ _ => rfl)) (pa_cons (pe_op op_add (pv 3) pe_int) pa_nil))))))))), ?_⟩
      refine ⟨_, rfl, qa, A.c_Node, dq, _, _, rfl, hqa, T.cl_Node, T.n_Node_branches, nd_branches _ _ _, bl, rfl, ⟨_, SqL.of hbl⟩, fun D nD => lcR (wv_list (xs := xs)) nD (fun H1 s1 => s1.seq (SqL.of hbl)) (r.moves p) hB.1 (fun m => [V.int (r.worth wt n (d + 1) (r.comes p m))]) (fun i x m ys H1 Nx hx hm s1 d1 lt hN hN0 => ?_) ?_ fun H1 s1 d1 => ?_⟩
      · obtain ⟨t, tl, qn, rfl, ht, _, htl, NA⟩ := hB.2 i x m hx hm
        refine ⟨rfl, ?_⟩
        refine ⟨_, rfl, _, rfl, _, rfl, _, _, 3, _, rfl, rfl, Same.sqT s1 ht, atI_nat (j := 3) rfl, _, rfl, _, _, rfl, rfl, ?_⟩
        refine ⟨ra, wa, qn, r, r.comes p m, wt, F, d + 1, rfl, ZR.same s1, s1 _ _ hw, hR, NA.same s1, fun H2 s2 => ⟨ys, s2 _ _ d1, lt, ?_⟩⟩
        exact hN _ _ rfl (same_put (s1.trans s2) nD) upd_same
      · rw [flat_map]
        exact small (by rw [List.length_map]; have := moves_few r p; omega)
      · rw [flat_map] at d1
        refine q H1 D s1 nD ?_
        rw [d1]
        unfold branchW
        rw [List.map_map]
        rfl
theorem ok_worthN (T : Txt K mg A) : ∀ n : Nat, FnOk P w K mg base CX0 (6 + 2 * n) A.f_worth A.d_worth ["rules", "weights", "node", "d"] (sp_worthN K A n)
  | 0 => okG T.F_worth sc_worth (fun vs H Q E h => h.elim) (fun cdv B outer s H vs Q E hr h => h.elim)
  | n + 1 => by
    have okb := ok_branchN T n (ok_worthN T n)
    have ok_branch_worths := fun (_ : Txt K mg A) => okb
    refine okG (k := 6 + 2 * n + 1) T.F_worth sc_worth (fun vs H Q E h => ?_) (fun cdv B outer s H vs Q E hr h => ?_)
    · obtain ⟨ra, wa, qa, r, p, wt, F, d, rfl, _⟩ := h
      rfl
    · obtain ⟨ra, wa, qa, r, p, wt, F, d, rfl, ZR, hw, hR, NA, q⟩ := h
      refine ⟨_, (pss_cons (ps_if (pt_cmpR op_ne (pe_fld (pv 2) rfl) (pe_gi T.g_NOT_OVER) (nomark _)) (pss_cons (ps_if (pt_val (pe_call (ok_have_hunters_won T) (hr.mono (by omega)) rfl T.g_have_hunters_won T.F_have_hunters_won.kp T.b_have_hunters_won .nil pass0 (pa_cons (pe_fld (pv 2) rfl) (pa_cons (pe_fld (pv 2) rfl) pa_nil)))) (pss_one (ps_ret (pe_op op_sub (pe_gi T.g_END) (pv 3)))) pss_nil)
  (pss_one (ps_ret (pe_op op_sub (pv 3) (pe_gi T.g_END))))) pss_nil)
  (pss_cons (ps_if (pt_cmpR (op_eqNil hr.units0) (pe_fld (pv 2) rfl) (pe_lst pa_nil) (nomark _)) (pss_one (ps_ret (pe_call (ok_weighed T) (hr.mono (by omega)) rfl T.g_weighed T.F_weighed.kp T.b_weighed .nil pass0 (pa_cons (pv 0) (pa_cons (pe_fld (pv 2) rfl) (pa_cons (pv 1) pa_nil)))))) pss_nil)
  (pss_cons (ps_set (i := 4) sc_worth.nd rfl (by first | exact .inl rfl | exact .inr rfl) (pe_call (ok_branch_worths T) (hr.mono (by omega)) rfl T.g_branch_worths T.F_branch_worths.kp T.b_branch_worths .nil pass0 (pa_cons (pv 0) (pa_cons (pv 1) (pa_cons (pv 2) (pa_cons (pv 3) pa_nil))))))
  (pss_cons (ps_if (pt_cmpR op_eq (pe_fld (pe_fld (pv 2) rfl) rfl) (pe_gi T.g_HUNTERS) (nomark _)) (pss_one (ps_ret (pe_callB (cr_max rfl) (by rfl) T.n_max (by decide +kernel) (pa_cons (pv 4) pa_nil)))) pss_nil)
  (pss_one (ps_ret (pe_callB (cr_min rfl) (by rfl) T.n_min (by decide +kernel) (pa_cons (pv 4) pa_nil)))))))), ?_⟩
      obtain ⟨bl, xs, ⟨dq, pa, hqa, ZP, _, hbl⟩, hxs⟩ : ∃ bl xs, NdAt A F H r p qa bl xs ∧ xs.isEmpty = decide (n = 0 ∨ r.over p ≠ 0) := by
        cases n with
        | zero =>
          obtain ⟨bl, h⟩ := NA
          exact ⟨bl, [], h, (decide_eq_true (.inl rfl)).symm⟩
        | succ n =>
          obtain ⟨bl, xs, h, hB⟩ := NA
          refine ⟨bl, xs, h, ?_⟩
          by_cases ho : r.over p = 0
          · rw [decide_eq_false (fun z => z.elim (fun z => by cases z) fun z => z ho)]
            have hm := moves_some ho
            cases xs with
            | nil => exact absurd (List.eq_nil_of_length_eq_zero hB.1.symm) hm
            | cons _ _ => rfl
          · rw [decide_eq_true (.inr ho)]
            have := hB.1
            rw [moves_none ho] at this
            rw [List.eq_nil_of_length_eq_zero this]
            rfl
      refine ⟨_, rfl, qa, A.c_Node, dq, _, _, rfl, hqa, T.cl_Node, T.n_Node_over, nd_over _ _ _, rfl, _, rfl, ?_⟩
      by_cases ho : r.over p = 0
      case neg =>
        refine if_t (by rw [dec_int]; exact (by rw [Bool.not_eq_true', beq_eq_false_iff_ne]; omega)) ?_
        refine ⟨_, rfl, qa, A.c_Node, dq, _, _, rfl, hqa, T.cl_Node, T.n_Node_position, nd_position _ _ _, _, rfl, qa, A.c_Node, dq, _, _, rfl, hqa, T.cl_Node, T.n_Node_over, nd_over _ _ _, pa, r, p, r.over p, rfl, ZP.po, _, rfl, ?_⟩
        have q := q H (Same.refl _)
        rw [worth_over ho, endWorth_eq _ _ _ ho] at q
        cases hb : wonB (r.over p) p with
        | true =>
          rw [hb] at q
          exact if_t rfl ⟨_, rfl, _, _, rfl, rfl, q⟩
        | false =>
          rw [hb] at q
          exact if_f rfl ⟨_, rfl, _, _, rfl, rfl, q⟩
      refine if_f (by rw [ho]; rfl) ?_
      refine ⟨_, rfl, qa, A.c_Node, dq, _, _, rfl, hqa, T.cl_Node, T.n_Node_branches, nd_branches _ _ _, by decide, fun l nl => ⟨_, _, _, rfl, rfl, SqL.of (same_new nl _ _ hbl), SqL.of upd_same, _, rfl, ?_⟩⟩
      have s1 := same_new (o := .lst []) nl
      generalize upd H l (.lst []) = H1 at s1
      have hqa := s1 _ _ hqa
      rw [hxs]
      cases n with
      | zero =>
        refine if_t (decide_eq_true (.inl rfl)) ⟨_, rfl, _, rfl, qa, A.c_Node, dq, _, _, rfl, hqa, T.cl_Node, T.n_Node_position, nd_position _ _ _, _, rfl, ra, pa, wa, r, p, wt, rfl, ZR.same s1, ZP.po.same s1, s1 _ _ hw, hR, fun H2 s2 => ?_⟩
        have q := q H2 (s1.trans s2)
        rw [worth_zero ho] at q
        exact q
      | succ n =>
        refine if_f (decide_eq_false fun z => z.elim (fun z => by cases z) fun z => z ho) ?_
        refine ⟨_, rfl, _, rfl, _, rfl, _, rfl, ra, wa, qa, r, p, wt, F, d, rfl, ZR.same s1, s1 _ _ hw, hR, NA.same s1, fun H2 so s2 nso hso => ?_⟩
        have s12 := s1.trans s2
        have hqa := s2 _ _ hqa
        obtain ⟨g, ZP2, RP⟩ := ZP.po.same s12
        obtain ⟨dp, hpa⟩ := ZP2.obj
        have q := q H2 s12
        rw [worth_succ ho] at q
        have hne : branchW r wt n d p ≠ [] := fun z => moves_some ho (List.map_eq_nil_iff.mp z)
        have hlen : 0 < (branchW r wt n d p).length := by
          cases hb : branchW r wt n d p with
          | nil => exact absurd hb hne
          | cons _ _ => exact Nat.succ_pos _
        refine ⟨_, rfl, qa, A.c_Node, dq, _, _, rfl, hqa, T.cl_Node, T.n_Node_position, nd_position _ _ _, pa, A.c_Position, dp, _, _, rfl, hpa, T.cl_Position, T.n_Position_turn, po_turn _, rfl, _, rfl, ?_⟩
        by_cases hs : p.side = 0
        · refine if_t (by rw [dec_int, RP.turn, hs]; rfl) ⟨_, rfl, so, _, rfl, SqL.of hso, hlen, fun m hm hy => ?_⟩
          rw [hs] at q
          obtain ⟨b1, b2⟩ := best_max hne
          rw [Int.le_antisymm (b2 m hm) (hy _ b1)]
          exact q
        · refine if_f (by rw [dec_int, RP.turn, beq_eq_false_iff_ne]; omega) ⟨_, rfl, so, _, rfl, SqL.of hso, hlen, fun m hm hy => ?_⟩
          obtain ⟨b1, b2⟩ := best_min hs hne
          rw [Int.le_antisymm (hy _ b1) (b2 m hm)]
          exact q
def sp_worth (K : PySem.W.Frag) (A : Adr) : Sp := fun vs H Q E => ∃ n, n ≤ 4 ∧ sp_worthP K A n vs H Q E
def sp_branch_worths (K : PySem.W.Frag) (A : Adr) : Sp := fun vs H Q E => ∃ n, n ≤ 3 ∧ sp_branchP K A n vs H Q E
theorem ok_any {CX : CXT} {f : Addr} {fd : FuncData} {ps : List Str} {k m : Nat} {sp : Nat → Sp} (h : ∀ n, n ≤ m → FnOk P w K mg base CX k f fd ps (sp n)) : FnOk P w K mg base CX k f fd ps (fun vs H Q E => ∃ n, n ≤ m ∧ sp n vs H Q E) :=
  ⟨fun vs H Q E ⟨n, hn, z⟩ => (h n hn).len vs H Q E z, fun B outer s H args us vs Q E hr he hb hv ⟨n, hn, z⟩ => (h n hn).run B outer s H args us vs Q E hr he hb hv z⟩
theorem ok_worth (T : Txt K mg A) : FnOk P w K mg base CX0 16 A.f_worth A.d_worth ["rules", "weights", "node", "d"] (sp_worth K A) :=
  ok_any fun n hn => (show FnOk P w K mg base CX0 (6 + 2 * (n + 1)) A.f_worth A.d_worth ["rules", "weights", "node", "d"] (sp_worthP K A n) from ok_worthN T (n + 1)).mono (by omega)
theorem ok_branch_worths (T : Txt K mg A) : FnOk P w K mg base CX0 16 A.f_branch_worths A.d_branch_worths ["rules", "weights", "node", "d"] (sp_branch_worths K A) :=
  ok_any fun n hn => (show FnOk P w K mg base CX0 (6 + 2 * (n + 1) + 1) A.f_branch_worths A.d_branch_worths ["rules", "weights", "node", "d"] (sp_branchP K A n) from ok_branchN T (n + 1) (ok_worthN T (n + 1))).mono (by omega)
end
end Tf

set_option maxRecDepth 100000
set_option maxHeartbeats 1000000
/-! # The row of a position -/
namespace Tf
open PySem PySem.Spec PyProof.Rows L2 TfP
/-- lists of numbers in a list -/
def LsAt (fo : Addr) (H : Hp) (xs : List V) (rs : List (List Nat)) : Prop := xs.length = rs.length ∧ ∀ (i : Nat) x r, xs[i]? = some x → rs[i]? = some r → ∃ a, x = .ref a ∧ a ≠ fo ∧ H a = some (.lst (r.map natV))
theorem LsAt.keep {fo : Addr} {z : Addr → Prop} {H H' : Hp} {xs : List V} {rs : List (List Nat)} (h : LsAt fo H xs rs) (k : Kp z H H') (hz : ∀ b, z b → b = fo) : LsAt fo H' xs rs := ⟨h.1, fun i x r h1 h2 => by
  obtain ⟨a, e, n, g⟩ := h.2 i x r h1 h2
  exact ⟨a, e, n, k.keep _ _ g fun y => n (hz _ y)⟩⟩
theorem LsAt.same {fo : Addr} {H H' : Hp} {xs : List V} {rs : List (List Nat)} (h : LsAt fo H xs rs) (s : Same H H') : LsAt fo H' xs rs := h.keep (Kp.of (p := fun _ => False) s) fun _ y => y.elim
theorem LsAt.snoc {fo a : Addr} {H : Hp} {xs : List V} {rs : List (List Nat)} {r : List Nat} (h : LsAt fo H xs rs) (n : a ≠ fo) (g : H a = some (.lst (r.map natV))) : LsAt fo H (xs ++ [.ref a]) (rs ++ [r]) := by
  refine ⟨by rw [List.length_append, List.length_append, h.1]; rfl, fun i x r' e1 e2 => ?_⟩
  by_cases hi : i < rs.length
  · rw [List.getElem?_append_left (by rw [h.1]; exact hi)] at e1
    rw [List.getElem?_append_left hi] at e2
    exact h.2 i x r' e1 e2
  · rw [List.getElem?_append_right (by omega)] at e2
    rw [List.getElem?_append_right (by rw [h.1]; omega), h.1] at e1
    cases e : i - rs.length with
    | zero => rw [e] at e1 e2; cases e1; cases e2; exact ⟨a, rfl, n, g⟩
    | succ j => rw [e] at e2; cases e2
section
variable {P : Program} {w : World} {K : PySem.W.Frag} {mg : Str → Option Value} {base : Heap} {A : Adr}
def sp_row_of (K : PySem.W.Frag) (A : Adr) : Sp := fun vs H Q _ => ∃ ra wa qa r p wt F n, vs = [.ref ra, .ref wa, .ref qa] ∧ n ≤ 4 ∧ Rl A H ra r ∧ H wa = some (.lst (wtV wt)) ∧ wt.right = true ∧ NodeAt K A F H r n p qa ∧
  ∀ H' fo xs, Same H H' → H fo = none → H' fo = some (.lst xs) → LsAt fo H' xs (rowsL r wt n 0 p) → Q (.ref fo) H'
theorem ok_row_of (T : Txt K mg A) : FnOk P w K mg base CX0 17 A.f_row_of A.d_row_of ["rules", "weights", "node"] (sp_row_of K A) := by
  refine T.F_row_of.ok sc_row_of (fun vs H Q E h => ?_) (fun cdv B outer s H vs Q E hr h => ?_)
  · obtain ⟨ra, wa, qa, r, p, wt, F, n, rfl, _⟩ := h
    rfl
  · obtain ⟨ra, wa, qa0, r, p0, wt, F, n0, rfl, hn, ZR, hw, hR, NA0, q⟩ := h
    refine ⟨_, (pss_cons (ps_set (i := 3) sc_row_of.nd rfl (by first | exact .inl rfl | exact .inr rfl) (pe_lst pa_nil))
  (pss_cons (ps_set (i := 4) sc_row_of.nd rfl (by first | exact .inl rfl | exact .inr rfl) pe_int)
  (pss_cons (ps_while PassesOwn.never (pt_cmpR (op_neNil hr.units0) (pe_fld (pv 2) rfl) (pe_lst pa_nil) (nomark _))
  (pss_cons (ps_set (i := 5) sc_row_of.nd rfl (by first | exact .inl rfl | exact .inr rfl) (pe_call (ok_branch_worths T) (hr.mono (by decide)) rfl T.g_branch_worths T.F_branch_worths.kp T.b_branch_worths .nil pass0 (pa_cons (pv 0) (pa_cons (pv 1) (pa_cons (pv 2) (pa_cons (pv 4) pa_nil))))))
  (pss_cons (ps_asg (pe_ix ix_list (pe_fld (pv 2) rfl) (pe_bm PySem.F.plainAttrs_list PySem.F.slot_list_index PySem.F.type_list_index mt_index (pv 5) (pa_cons (pe_call (ok_worth T) (hr.mono (by decide)) rfl T.g_worth T.F_worth.kp T.b_worth .nil pass0 (pa_cons (pv 0) (pa_cons (pv 1) (pa_cons (pv 2) (pa_cons (pv 4) pa_nil))))) pa_nil)) (fun _ _ => rfl)) (pg_tup rfl (pgs_cons (pg_name (i := 6) sc_row_of.nd rfl (by first | exact .inl rfl | exact .inr rfl)) (pgs_cons (pg_name (i := 7) sc_row_of.nd rfl (by first | exact .inl rfl | exact .inr rfl)) (pgs_cons (pg_name (i := 8) sc_row_of.nd rfl (by first | exact .inl rfl | exact .inr rfl)) (pgs_cons (pg_name (i := 9) sc_row_of.nd rfl (by first | exact .inl rfl | exact .inr rfl)) pgs_nil))))))
  (pss_cons (ps_expr (pe_bm PySem.F.plainAttrs_list PySem.F.slot_list_append PySem.F.type_list_append mt_append (pv 3) (pa_cons (pe_op op_cat (pe_lst (pa_cons (pv 6) (pa_cons (pv 7) (pa_cons (pe_fld (pv 9) rfl) pa_nil)))) (pv 8)) pa_nil)))
  (pss_cons (ps_set (i := 2) sc_row_of.nd rfl (by first | exact .inl rfl | exact .inr rfl) (pv 9))
  (pss_one (ps_set (i := 4) sc_row_of.nd rfl (by first | exact .inl rfl | exact .inr rfl) (pe_op op_add (pv 4) pe_int))))))))
  (pss_one (ps_ret (pv 3)))))), ?_⟩
    refine ⟨by decide, fun fo nfo => ?_⟩
    refine ⟨fun m σ H' => ∃ (d : Nat) (qa : Addr) (p : Tafl.Pos) (xs : List V) (rows : List (List Nat)) (v5 v6 v7 v8 v9 : Option V), σ = [some (.ref ra), some (.ref wa), some (.ref qa), some (.ref fo), some (.int (d : Int)), v5, v6, v7, v8, v9] ∧ Same H H' ∧ NodeAt K A F H r m p qa ∧ H' fo = some (.lst xs) ∧ LsAt fo H' xs rows ∧ rowsL r wt n0 0 p0 = rows ++ rowsL r wt m d p ∧ m ≤ 4 ∧ rows.length + m ≤ 4,
      ⟨n0, 0, qa0, p0, [], [], none, none, none, none, none, rfl, same_new nfo, NA0, upd_same, ⟨rfl, fun i x r h => by cases h⟩, rfl, hn, by rw [List.length_nil]; omega⟩, fun m σ H1 hW => ?_⟩
    obtain ⟨d, qa, p, xs, rows, v5, v6, v7, v8, v9, rfl, s1, NAH, hfo, hL, hrows, hm, hlen⟩ := hW
    have NA := NAH.same s1
    have stop : rowsL r wt m d p = [] → ∀ H2, Same H1 H2 → Q (.ref fo) H2 := fun e H2 s2 => by
      rw [e, List.append_nil] at hrows
      exact q H2 fo xs (s1.trans s2) nfo (s2 _ _ hfo) (by rw [hrows]; exact hL.same s2)
    cases m with
    | zero =>
      obtain ⟨bl, dq, pa, hqa, _, _, hbl⟩ := NA
      refine ⟨_, rfl, qa, A.c_Node, dq, _, _, rfl, hqa, T.cl_Node, T.n_Node_branches, nd_branches _ _ _, by decide, fun l nl => ⟨_, _, _, rfl, rfl, SqL.of (same_new nl _ _ hbl), SqL.of upd_same, _, rfl, ?_⟩⟩
      exact if_f rfl ⟨_, rfl, stop rfl _ (same_new nl)⟩
    | succ m =>
      obtain ⟨bl, ys, ⟨dq, pa, hqa, ZP, hFb, hbl⟩, hB⟩ := id NA
      obtain ⟨blH, ysH, ⟨dqH, paH, hqaH, _, _, hblH⟩, hBH⟩ := id NAH
      refine ⟨_, rfl, qa, A.c_Node, dq, _, _, rfl, hqa, T.cl_Node, T.n_Node_branches, nd_branches _ _ _, by decide, fun l nl => ⟨_, _, _, rfl, rfl, SqL.of (same_new nl _ _ hbl), SqL.of upd_same, _, rfl, ?_⟩⟩
      have hqa0' := hqa
      have s2 := same_new (o := .lst []) nl
      generalize upd H1 l (.lst []) = H2 at s2 ⊢
      by_cases ho : r.over p = 0
      case neg =>
        have e : ys = [] := List.eq_nil_of_length_eq_zero (by rw [hB.1, moves_none ho]; rfl)
        rw [e]
        exact if_f rfl ⟨_, rfl, stop (rows_over ho _ _) _ s2⟩
      have hne : ys.isEmpty = false := by
        cases hy : ys with
        | nil => have := hB.1; rw [hy] at this; exact absurd (List.eq_nil_of_length_eq_zero this.symm) (moves_some ho)
        | cons _ _ => rfl
      refine if_t (by rw [hne]; rfl) ⟨_, fun σ' H' hN => ⟨m, Nat.lt_succ_self m, hN⟩, ?_⟩
      have s02 := s1.trans s2
      have hw2 := s02 _ _ hw
      have NA2 := NA.same s2
      refine ⟨_, rfl, _, rfl, _, rfl, _, rfl, m, by omega, ra, wa, qa, r, p, wt, F, d, rfl, ZR.same s02, hw2, hR, NA2, fun H3 so s3 nso hso => ?_⟩
      have s13 := s2.trans s3
      have s03 := s1.trans s13
      have hqa := s13 _ _ hqa
      have ebr : r.worth wt (m + 1) d p = Tafl.bestOf p.side (branchW r wt m d p) := worth_succ ho m d
      have hbne : branchW r wt m d p ≠ [] := fun z => moves_some ho (List.map_eq_nil_iff.mp z)
      obtain ⟨j, hj, hjb⟩ := first_at (best_mem p.side hbne)
      rw [← ebr] at hj hjb
      obtain ⟨mv, hmv, ewv⟩ : ∃ mv, (r.moves p)[j]? = some mv ∧ r.worth wt m (d + 1) (r.comes p mv) = r.worth wt (m + 1) d p := by
        unfold branchW at hj
        rw [List.getElem?_map] at hj
        cases e : (r.moves p)[j]? with
        | none => rw [e] at hj; cases hj
        | some mv => rw [e] at hj; exact ⟨mv, rfl, Option.some.inj hj⟩
      have hb2 : ∀ i m', i < j → (r.moves p)[i]? = some m' → r.worth wt m (d + 1) (r.comes p m') ≠ r.worth wt (m + 1) d p := fun i m' hi hm' => hjb i _ hi (by
        unfold branchW
        rw [List.getElem?_map, hm']
        rfl)
      have hrs := rows_succ (w := wt) ho hmv ewv hb2
      have jlt : j < ys.length := by rw [hB.1]; exact (List.getElem?_eq_some_iff.mp hmv).1
      obtain ⟨x, hx⟩ : ∃ x, ys[j]? = some x := ⟨_, List.getElem?_eq_getElem jlt⟩
      obtain ⟨rfl, rfl⟩ : bl = blH ∧ ys = ysH := by
        have e1 := (s1 _ _ hqaH).symm.trans hqa0'
        have e2 := congrArg (fun o => match o with | some (HO.ins _ _ fs) => fs.lookup ("branches" : Str) | _ => none) e1
        have e3 : some (V.ref blH) = some (V.ref bl) := (nd_branches _ _ _).symm.trans (e2.trans (nd_branches _ _ _))
        cases e3
        have e4 := (s1 _ _ hblH).symm.trans hbl
        cases e4
        exact ⟨rfl, rfl⟩
      obtain ⟨t, tl, qn, rfl, htH, _, htlH, NAnH⟩ := hBH.2 j x mv hx hmv
      have NAn := NAnH.same s1
      have ht := Same.sqT s1 htH
      have htl := s1 _ _ htlH
      refine ⟨_, rfl, qa, A.c_Node, dq, _, _, rfl, hqa, T.cl_Node, T.n_Node_branches, nd_branches _ _ _, _, rfl, .inl ⟨rfl, _, SqL.of hso⟩, _, rfl, _, rfl, _, rfl, _, rfl, m + 1, by omega, ra, wa, qa, r, p, wt, F, d, rfl, ZR.same s03, s03 _ _ hw, hR, NA.same s13, fun H4 s4 => ?_⟩
      have s14 := s13.trans s4
      refine ⟨so, _, .int (r.worth wt (m + 1) d p), j, .int (r.worth wt (m + 1) d p), rfl, rfl, SqL.of (s4 _ _ hso), rfl, flat_ints _, by rw [List.getElem?_map, hj]; rfl, beq_self_eq_true _, fun i z hi hz => ?_, ?_⟩
      · rw [List.getElem?_map] at hz
        cases e : (branchW r wt m d p)[i]? with
        | none => rw [e] at hz; cases hz
        | some u =>
          rw [e] at hz
          obtain rfl : V.int u = z := Option.some.inj hz
          exact beq_eq_false_iff_ne.mpr (hjb i u hi e)
      refine ⟨bl, ys, _, _, rfl, rfl, SqL.of (s14 _ _ hbl), atI_nat hx, ?_⟩
      refine ⟨t, _, rfl, Same.sqT s14 ht, rfl, _, _, rfl, _, _, rfl, _, _, rfl, _, _, rfl, rfl, ?_⟩
      have hfo4 := s14 _ _ hfo
      have NA4 := NAn.same s14
      obtain ⟨dqn, pan, bln, hqn⟩ : ∃ dqn pan bln, H4 qn = some (.ins A.c_Node dqn (ndF pan (r.over (r.comes p mv)) bln)) := by
        cases m with
        | zero => obtain ⟨bln, dqn, pan, h, _⟩ := NA4; exact ⟨dqn, pan, bln, h⟩
        | succ m => obtain ⟨bln, _, ⟨dqn, pan, h, _⟩, _⟩ := NA4; exact ⟨dqn, pan, bln, h⟩
      refine ⟨_, rfl, .inl ⟨rfl, _, SqL.of hfo4⟩, _, rfl, _, rfl, _, rfl, qn, A.c_Node, dqn, _, _, rfl, hqn, T.cl_Node, T.n_Node_over, nd_over _ _ _, (by show 3 ≤ sizeLine; exact smallE (by decide)), fun l5 n5 => ⟨_, rfl, l5, tl, _, (r.takes p mv).map natV, rfl, rfl, upd_same, ?_, ?_, fun l6 n6 => ?_⟩⟩
      · exact same_new n5 _ _ (s14 _ _ htl)
      · refine smallE ?_
        rw [List.length_map]
        have := takes_few r p mv
        show 3 + _ ≤ _
        omega
      · have s5 := same_new (o := .lst [.int (mv.1 : Nat), .int (mv.2 : Nat), .int (r.over (r.comes p mv) : Nat)]) n5
        have e6 : ([.int (mv.1 : Nat), .int (mv.2 : Nat), .int (r.over (r.comes p mv) : Nat)] ++ (r.takes p mv).map natV : List V) = (TaflLook.toldMove r p mv).map natV := rfl
        have s6 := same_new (o := .lst ([.int (mv.1 : Nat), .int (mv.2 : Nat), .int (r.over (r.comes p mv) : Nat)] ++ (r.takes p mv).map natV)) n6
        have h6 : (upd (upd H4 l5 (.lst [.int (mv.1 : Nat), .int (mv.2 : Nat), .int (r.over (r.comes p mv) : Nat)])) l6 (.lst ([.int (mv.1 : Nat), .int (mv.2 : Nat), .int (r.over (r.comes p mv) : Nat)] ++ (r.takes p mv).map natV))) l6 = some (.lst ([.int (mv.1 : Nat), .int (mv.2 : Nat), .int (r.over (r.comes p mv) : Nat)] ++ (r.takes p mv).map natV)) := upd_same
        have s46 := s5.trans s6
        rw [e6] at h6
        have hfo6 := s46 _ _ hfo4
        have n6f : l6 ≠ fo := Ne.symm (ne_of_none (s5 _ _ hfo4) n6)
        have L6 := (hL.same (s14.trans s46)).snoc n6f h6
        have s06 := s1.trans (s14.trans s46)
        generalize upd (upd H4 l5 (.lst [.int (mv.1 : Nat), .int (mv.2 : Nat), .int (r.over (r.comes p mv) : Nat)])) l6 (.lst ([.int (mv.1 : Nat), .int (mv.2 : Nat), .int (r.over (r.comes p mv) : Nat)] ++ (r.takes p mv).map natV)) = H6 at h6 hfo6 L6 s06 ⊢
        refine ⟨fo, xs, _, rfl, rfl, hfo6, small (by rw [hL.1]; omega), ?_⟩
        refine ⟨_, rfl, _, rfl, _, _, rfl, rfl, ?_⟩
        have kF : Kp (· = fo) H6 (upd H6 fo (.lst (xs ++ [.ref l6]))) := Kp.upd rfl
        refine ⟨d + 1, qn, r.comes p mv, xs ++ [.ref l6], rows ++ [TaflLook.toldMove r p mv], _, _, _, _, _, rfl, same_put s06 nfo, NAnH, upd_same, L6.keep kF fun b h => h, ?_, by omega, by rw [List.length_append]; show _ + 1 + _ ≤ _; omega⟩
        · rw [hrows, hrs, List.append_assoc]
          rfl
end
end Tf

set_option maxRecDepth 100000
set_option maxHeartbeats 1000000
/-! # The desk: refusals, rules -/
namespace Tf
open PySem PySem.Spec PyProof.Rows L2 TfP
/-- what a refusal asks of the caller -/
def RfE (A : Adr) (p : Addr → Prop) (H : Hp) (E : XK) (ns : List Int) : Prop := ∀ (d l : Addr) (H' : Hp), Kp p H H' → H l = none → H' d = some (.xd [("told", .ref l)]) → H' l = some (.lst (ns.map V.int)) → E (.ref A.c_Refused) (some d) H'
theorem ps_fldK {X : Cx} (K : PySem.W.Frag) {o value : Expr} {f : Str} {pos pos' : Pos} {ta tv : TE} (ha : PE X o ta) (hv : PE X value tv) (hs : swapsWith value (some (.Attribute o f pos')) pos.line X.env = pure false) (hK : X.K = K := by rfl) : PS X (.Assign [.Attribute o f pos'] value pos) (sFld K ta tv f) := by
  subst hK
  exact ps_fld ha hv hs
theorem RfE.up {A : Adr} {p q : Addr → Prop} {H0 H : Hp} {E : XK} {ns : List Int} (h : RfE A p H0 E ns) (kp : Kp p H0 H) (hq : ∀ b, q b → p b) : RfE A q H E ns := fun d l H' k n1 e1 e2 => h d l H' (kp.trans (k.mono hq)) (kp.dom l n1) e1 e2
section
variable {P : Program} {w : World} {K : PySem.W.Frag} {mg : Str → Option Value} {base : Heap} {A : Adr}
def sp_Refused (A : Adr) : Sp := fun vs H Q _ => ∃ (p : Addr) (x : V), vs = [.ref p, x] ∧ H p = some (exo p A.c_Refused none) ∧
  ∀ (dx : Addr) (H' : Hp), dx ≠ p → H dx = none → H' p = some (exo p A.c_Refused (some dx)) → H' dx = some (exd dx [("told", x)]) → (∀ b, b ≠ p → b ≠ dx → H' b = H b) → Q .non H'
theorem ok_Refused___init__ (T : Txt K mg A) : FnOk P w K mg base CX0 1 A.f_Refused___init__ A.d_Refused___init__ ["self", "told"] (sp_Refused A) := by
  refine T.F_Refused___init__.ok sc_Refused___init__ (fun vs H Q E h => ?_) (fun cdv B outer s H vs Q E hr h => ?_)
  · obtain ⟨p, x, rfl, _⟩ := h
    rfl
  · obtain ⟨p, x, rfl, hp, q⟩ := h
    refine ⟨_, (pss_cons (ps_expr (pe_veinit (by rfl) T.n_ValueError T.ve (pa_cons (pv 0) (pa_cons pe_str pa_nil))))
  (pss_one (ps_ost (pv 0) (pv 1)))), ?_⟩
    refine ⟨_, rfl, p, A.c_Refused, _, rfl, (by decide), T.ox_Refused, hp, ?_⟩
    refine ⟨_, rfl, _, rfl, p, A.c_Refused, rfl, T.ox_Refused, T.nf_told, .inl ⟨hp, fun dx nd ne => ?_⟩⟩
    refine q dx _ ne nd upd_same ((upd_ne ne).trans upd_same) fun b h1 h2 => ?_
    rw [upd_ne h1, upd_ne h2]
theorem okH_Refused___init__ (T : Txt K mg A) : L2H.FnH P w K mg base CX0 1 A.f_Refused___init__ A.d_Refused___init__ ["self", "told"] (sp_Refused A) := by
  refine okH T.F_Refused___init__ sc_Refused___init__ (fun vs H Q E h => ?_) (fun cdv B outer s H vs Q E pp hh hr h => ?_)
  · obtain ⟨p, x, rfl, _⟩ := h
    rfl
  · obtain ⟨p, x, rfl, hp, q⟩ := h
    refine ⟨_, (pss_cons (ps_expr (pe_veinit (by rfl) T.n_ValueError T.ve (pa_cons (pv 0) (pa_cons pe_str pa_nil))))
  (pss_one (ps_ost (pv 0) (pv 1)))), ?_⟩
    refine ⟨_, rfl, p, A.c_Refused, _, rfl, (by decide), T.ox_Refused, hp, ?_⟩
    refine ⟨_, rfl, _, rfl, p, A.c_Refused, rfl, T.ox_Refused, T.nf_told, .inl ⟨hp, fun dx nd ne => ?_⟩⟩
    refine q dx _ ne nd upd_same ((upd_ne ne).trans upd_same) fun b h1 h2 => ?_
    rw [upd_ne h1, upd_ne h2]
theorem refused_up {H1 : Hp} {Q : XK} {x : V} (q : ∀ (d : Addr) (H' : Hp), Same H1 H' → H1 d = none → H' d = some (.xd [("told", x)]) → Q (.ref A.c_Refused) (some d) H') :
    [x].length ≤ 1000 ∧ ∀ a, H1 a = none → sp_Refused A (.ref a :: ([x] ++ [])) (upd H1 a (exo a A.c_Refused none))
      (fun v H2 => v = .non ∧ ∃ (d : Addr) (fs : List (Str × V)), H2 a = some (exo a A.c_Refused (some d)) ∧ H2 d = some (exd d fs) ∧ H1 d = none ∧ Q (.ref A.c_Refused) (some d) (upd (del H2 a) d (.xd fs))) (fun _ _ _ => False) := by
  refine ⟨by show 1 ≤ 1000; decide, fun a na => ⟨a, x, rfl, upd_same, fun dx H' ne nd e1 e2 kp => ⟨rfl, dx, _, e1, e2, ?_, ?_⟩⟩⟩
  · rwa [upd_ne ne] at nd
  · have nd' : H1 dx = none := by rwa [upd_ne ne] at nd
    refine q dx _ (fun b o e => ?_) nd' upd_same
    have ba : b ≠ a := ne_of_none e na
    have bd : b ≠ dx := ne_of_none e nd'
    rw [upd_ne bd, del_ne ba, kp b ba bd, upd_ne ba]
    exact e
/-- raise Refused([..]) -/
theorem RfE.go {p : Addr → Prop} {H : Hp} {E : XK} {ns : List Int} (h : RfE A p H E ns) {xs : List V} (hx : xs = ns.map V.int) (few : ns.length ≤ 1000) : xs.length ≤ sizeLine ∧ ∀ l, H l = none → [V.ref l].length ≤ 1000 ∧ ∀ a, (upd H l (.lst xs)) a = none → sp_Refused A (.ref a :: ([.ref l] ++ [])) (upd (upd H l (.lst xs)) a (exo a A.c_Refused none))
      (fun v H2 => v = .non ∧ ∃ (d : Addr) (fs : List (Str × V)), H2 a = some (exo a A.c_Refused (some d)) ∧ H2 d = some (exd d fs) ∧ (upd H l (.lst xs)) d = none ∧ E (.ref A.c_Refused) (some d) (upd (del H2 a) d (.xd fs))) (fun _ _ _ => False) :=
  ⟨smallE (by rw [hx, List.length_map]; omega), fun l nl => refused_up fun d H' s nd hd => h d l H' (Kp.of ((same_new nl).trans s)) nl hd (s _ _ (by rw [hx]; exact upd_same))⟩
def sp_wantG (A : Adr) : Sp := fun vs H Q E => ∃ (b : Bool) (n : Int), vs = [.bl b, .int n] ∧ (b = true → Q .non H) ∧ (b = false → RfE A (fun _ => False) H E [n])
theorem ok_want (T : Txt K mg A) : FnOk P w K mg base (L2.CX P w) 3 A.f_want A.d_want ["truth", "number"] (sp_wantG A) := by
  refine okG T.F_want sc_want (fun vs H Q E h => ?_) (fun cdv B outer s H vs Q E hr h => ?_)
  · obtain ⟨b, n, rfl, _⟩ := h
    rfl
  · obtain ⟨b, n, rfl, qT, qF⟩ := h
    refine ⟨_, (pss_one (ps_if (pt_not (pt_val (pv 0))) (pss_one (L2.ps_raise rfl (L2.takes_of rfl rfl rfl rfl) (pmk_oex T.ox_Refused T.i_Refused T.ti_Refused (ok_Refused___init__ T) (hr.mono (by decide)) T.b_Refused___init__ .nil passF (by rfl) T.g_Refused (pa_cons (pe_lst (pa_cons (pv 1) pa_nil)) pa_nil)))) pss_nil)), ?_⟩
    refine ⟨_, rfl, _, rfl, ?_⟩
    cases b with
    | true => exact iteF (qT rfl)
    | false =>
      refine iteT ?_
      refine ⟨_, rfl, ?_⟩
      exact (qF rfl).go rfl (by show 1 ≤ 1000; decide)
theorem fF_place (k p : Nat) : (fF k p).lookup ("place" : Str) = some (.int (p : Int)) := lk_here
theorem fF_kind (k p : Nat) : (fF k p).lookup ("kind" : Str) = some (.int (k : Int)) := (lk_past (by decide +kernel)).trans lk_here
/-! ### the desk -/
def deF (v : V) : List (Str × V) := [("rules", v)]
theorem de_rules (v : V) : (deF v).lookup ("rules" : Str) = some v := by kernel_rfl
theorem dep_rules (v x : V) : putF "rules" x (deF v) = deF x := by kernel_rfl
theorem de_few (v : V) : (deF v).length < 1000 := by show 1 < 1000; decide
theorem de_no_wide (v : V) : (deF v).lookup ("wide" : Str) = none := by kernel_rfl
def RlV (A : Adr) (H : Hp) : Option Tafl.Rules → V → Prop
  | none, v => v = .non
  | some r, v => ∃ ra, v = .ref ra ∧ Rl A H ra r
theorem RlV.same {H H' : Hp} {s : Option Tafl.Rules} {v : V} (h : RlV A H s v) (k : Same H H') : RlV A H' s v := by
  cases s with
  | none => exact h
  | some r => obtain ⟨ra, e, z⟩ := h; exact ⟨ra, e, z.same k⟩
def DeskAt (A : Adr) (H : Hp) (a : Addr) (s : Option Tafl.Rules) : Prop := ∃ dx v, H a = some (.ins A.c_Desk dx (deF v)) ∧ RlV A H s v
theorem DeskAt.same {H H' : Hp} {a : Addr} {s : Option Tafl.Rules} (h : DeskAt A H a s) (k : Same H H') : DeskAt A H' a s := by
  obtain ⟨dx, v, h1, h2⟩ := h
  exact ⟨dx, v, k _ _ h1, h2.same k⟩
def sp_Desk_init (A : Adr) : Sp := fun vs H Q _ => ∃ p dx, vs = [.ref p] ∧ H p = some (.ins A.c_Desk dx []) ∧ ∀ H', DeskAt A H' p none → Kp (· = p) H H' → Q .non H'
theorem ok_Desk___init__ (T : Txt K mg A) : FnOk P w K mg base CX0 1 A.f_Desk___init__ A.d_Desk___init__ ["self"] (sp_Desk_init A) := by
  refine T.F_Desk___init__.ok sc_Desk___init__ (fun vs H Q E h => ?_) (fun cdv B outer s H vs Q E hr h => ?_)
  · obtain ⟨p, dx, rfl, _⟩ := h
    rfl
  · obtain ⟨p, dx, rfl, hp, q⟩ := h
    refine ⟨_, (pss_one (ps_fld (pv 0) pe_non rfl)), ?_⟩
    refine ⟨_, rfl, p, _, dx, _, rfl, hp, T.cl_Desk, T.n_Desk_rules, (by show 0 < 1000; decide), ?_⟩
    have e : putF "rules" V.non [] = deF .non := by kernel_rfl
    rw [e]
    exact q _ ⟨dx, .non, upd_same, rfl⟩ (Kp.upd rfl)
/-- the desk's own object changes -/
theorem Rl.put {H : Hp} {a C dx ra : Addr} {v x : V} {r : Tafl.Rules} (h : Rl A H ra r) (e : H a = some (.ins C dx (deF v))) : Rl A (upd H a (.ins C dx (deF x))) ra r := by
  obtain ⟨f, pe, pw, ⟨⟨dr, h1⟩, ⟨k1, e1, g1⟩, ⟨k2, e2, g2⟩⟩, R⟩ := h
  have n1 : ra ≠ a := fun z => by
    rw [z, e] at h1
    have e2 := congrArg (fun o => match o with | some (HO.ins _ _ fs) => fs.lookup ("wide" : Str) | _ => none) h1
    have e3 : (none : Option V) = some (.int ((f.wide : Nat) : Int)) := (de_no_wide v).symm.trans (e2.trans (ru_wide f))
    cases e3
  have n2 : f.ex ≠ a := ne_of e1 e (by intro z; cases z)
  have n3 : f.wl ≠ a := ne_of e2 e (by intro z; cases z)
  exact ⟨f, pe, pw, ⟨⟨dr, (upd_ne n1).trans h1⟩, ⟨k1, (upd_ne n2).trans e1, g1⟩, ⟨k2, (upd_ne n3).trans e2, g2⟩⟩, R⟩
def sp_set_rules (K : PySem.W.Frag) (A : Adr) : Sp := fun vs H Q E => ∃ a s t bs, vs = [.ref a, .ref t] ∧ DeskAt A H a s ∧ SqL K H t (bV bs) ∧ bs.length ≤ 30000 ∧
  (∀ r, Tafl.judge bs = .ok r → ∀ H' l, DeskAt A H' a (some r) → Kp (· = a) H H' → H l = none → H' l = some (.lst [.int 0]) → Q (.ref l) H') ∧ (∀ k p : Nat, Tafl.judge bs = .error (k, p) → RfE A (fun _ => False) H E [-6, (k : Int), (p : Int)])
theorem ok_Desk_set_rules (T : Txt K mg A) : FnOk P w K mg base (L2.CX P w) 9 A.f_Desk_set_rules A.d_Desk_set_rules ["self", "text"] (sp_set_rules K A) := by
  refine okG T.F_Desk_set_rules sc_Desk_set_rules (fun vs H Q E h => ?_) (fun cdv B outer s H vs Q E hr h => ?_)
  · obtain ⟨a, s, t, bs, rfl, _⟩ := h
    rfl
  · obtain ⟨a, s, t, bs, rfl, ⟨dx, v, ho, hv⟩, ht, few, qT, qF⟩ := h
    refine ⟨_, (pss_cons (ps_try_asX (i := 2) rfl rfl rfl sc_Desk_set_rules.nd rfl rfl ⟨rfl, by decide, .inl T.g_Fault⟩ rfl (fun W pn xe tk hpo => by exact (pss_one (ps_fldK K (pv 0) (by exact (pe_callS (ok_read_rules T) (hr.mono (by decide)) rfl T.g_read_rules T.F_read_rules.kp T.b_read_rules (fun σ => L2N.passAt tk σ) (pa_cons (pv 1) pa_nil))) rfl))) (fun a oe cls d pn xe hz hf tkS hot => by exact (pss_one (L2H.ps_raiseHN hot tkS (L2H.pmk5_oexH T.ox_Refused T.i_Refused T.ti_Refused (okH_Refused___init__ T) (L2H.roomH_mark (hr.mono (by decide)) _) hot T.b_Refused___init__ passF (by rfl) T.g_Refused (pa_cons (pe_lst (pa_cons (pe_gi T.g_BAD_RULES) (pa_cons (PE.nox (pe_xf T.xf_Fault T.nf_kind hz.zc hf (pv 2))) (pa_cons (PE.nox (pe_xf T.xf_Fault T.nf_place hz.zc hf (pv 2))) pa_nil)))) pa_nil))))))
  (pss_one (ps_ret (pe_lst (pa_cons pe_int pa_nil))))), ?_⟩
    refine ⟨_, rfl, t, bs, rfl, ht, few, fun r hj ra f pe pw H1 Z R s1 => ?_, fun k p hj => ?_⟩
    · have ho1 := s1 _ _ ho
      refine ⟨_, rfl, a, _, dx, _, rfl, ho1, T.cl_Desk, T.n_Desk_rules, de_few _, ?_⟩
      rw [dep_rules]
      refine ⟨by decide, fun l nl => ?_⟩
      have ZZ : Rl A H1 ra r := ⟨f, pe, pw, Z, R⟩
      have sl := same_new (o := .lst [.int 0]) nl
      have kk : Kp (· = a) H (upd H1 a (.ins A.c_Desk dx (deF (.ref ra)))) := (Kp.of s1).trans (Kp.upd rfl)
      refine qT r hj _ l ⟨dx, .ref ra, sl _ _ upd_same, ra, rfl, (ZZ.put ho1).same sl⟩ (kk.trans (Kp.of sl)) (kk.dom _ nl) upd_same
    · intro d H' k1 nd hd
      refine ⟨T.ex_Fault, fun a2 na2 => ?_⟩
      refine ⟨_, rfl, rfl, rfl, d, _, _, rfl, hd, fF_kind _ _, _, rfl, rfl, rfl, d, _, _, rfl, hd, fF_place _ _, ?_⟩
      exact ((qF k p hj).up k1 fun b h => h).go rfl (by show 3 ≤ 1000; decide)
end
end Tf

set_option maxRecDepth 100000
set_option maxHeartbeats 1000000
/-! # The desk: a position of a line, weighed, looked at -/
namespace TfP
open Tafl Tf
theorem in_range (x : Int) : (decide (-1000 ≤ x) && decide (x ≤ 1000)) = decide (x.natAbs ≤ 1000) := by
  rw [Bool.eq_iff_iff, Bool.and_eq_true, decide_eq_true_iff, decide_eq_true_iff, decide_eq_true_iff]
  omega
def rightBs (w : Weights) : List Bool := [w.hunter, w.man, w.road].map fun x => decide (-1000 ≤ x) && decide (x ≤ 1000)
theorem right_eq (w : Weights) : (rightBs w).all id = w.right := by
  unfold rightBs Weights.right
  show (_ && (_ && (_ && true))) = _
  rw [Bool.and_true]
  show ((decide (-1000 ≤ w.hunter) && decide (w.hunter ≤ 1000)) && ((decide (-1000 ≤ w.man) && decide (w.man ≤ 1000)) && (decide (-1000 ≤ w.road) && decide (w.road ≤ 1000)))) = _
  rw [in_range, in_range, in_range]
  rfl
end TfP
namespace Tf
open PySem PySem.Spec PyProof.Rows L2 TfP
section
variable {P : Program} {w : World} {K : PySem.W.Frag} {mg : Str → Option Value} {base : Heap} {A : Adr}
/-- what is answered, or told with a refusal -/
def AnsQ (A : Adr) (H : Hp) (Q : VK) (E : XK) (ns : List Int) : Prop := (∀ H' l, Same H H' → H l = none → H' l = some (.lst (ns.map V.int)) → Q (.ref l) H') ∧ RfE A (fun _ => False) H E ns
def sp_position_in (K : PySem.W.Frag) (A : Adr) : Sp := fun vs H Q E => ∃ a s t bs wa wt, vs = [.ref a, .ref t, .ref wa] ∧ DeskAt A H a s ∧ SqL K H t (bV bs) ∧ bs.length ≤ 30000 ∧ H wa = some (.lst (wtV wt)) ∧ (s = none → RfE A (fun _ => False) H E [-3]) ∧
  ∀ r, s = some r → (∀ k p : Nat, r.readLine bs = .error (k, p) → RfE A (fun _ => False) H E [-5, (k : Int), (p : Int)]) ∧ ∀ p, r.readLine bs = .ok p → (wt.right = false → RfE A (fun _ => False) H E [-8]) ∧ (wt.right = true → ∀ H' pa, Po A H' pa p r → Same H H' → Q (.ref pa) H')
theorem ok_Desk_position_in (T : Txt K mg A) : FnOk P w K mg base (L2.CX P w) 9 A.f_Desk_position_in A.d_Desk_position_in ["self", "line", "weights"] (sp_position_in K A) := by
  refine okG T.F_Desk_position_in sc_Desk_position_in (fun vs H Q E h => ?_) (fun cdv B outer s H vs Q E hr h => ?_)
  · obtain ⟨a, s, t, bs, wa, wt, rfl, _⟩ := h
    rfl
  · obtain ⟨a, s, t, bs, wa, wt, rfl, ⟨da, v, ha, hv⟩, ht, few, hw, qN, qS⟩ := h
    refine ⟨_, (pss_cons (ps_expr (pe_call (ok_want T) (hr.mono (by decide)) rfl T.g_want T.F_want.kp T.b_want .nil (pxL (L2.takes_of rfl rfl rfl rfl)) (pa_cons (pe_cmpR op_notN (pe_fld (pv 0) rfl) pe_non (nomark _)) (pa_cons (pe_gi T.g_NO_RULES) pa_nil))))
  (pss_cons (ps_try_asX (i := 4) rfl rfl rfl sc_Desk_position_in.nd rfl rfl ⟨rfl, by decide, .inl T.g_Fault⟩ rfl (fun W pn xe tk hpo => by exact (pss_one (ps_set (i := 3) sc_Desk_position_in.nd rfl (by first | exact .inl rfl | exact .inr rfl) (by exact (pe_callS (ok_read_position T) (hr.mono (by decide)) rfl T.g_read_position T.F_read_position.kp T.b_read_position (fun σ => L2N.passAt tk σ) (pa_cons (pe_fldK K (pv 0) rfl) (pa_cons (pv 1) pa_nil))))))) (fun a oe cls d pn xe hz hf tkS hot => by exact (pss_one (L2H.ps_raiseHN hot tkS (L2H.pmk5_oexH T.ox_Refused T.i_Refused T.ti_Refused (okH_Refused___init__ T) (L2H.roomH_mark (hr.mono (by decide)) _) hot T.b_Refused___init__ passF (by rfl) T.g_Refused (pa_cons (pe_lst (pa_cons (pe_gi T.g_BAD_LINE) (pa_cons (PE.nox (pe_xf T.xf_Fault T.nf_kind hz.zc hf (pv 4))) (pa_cons (PE.nox (pe_xf T.xf_Fault T.nf_place hz.zc hf (pv 4))) pa_nil)))) pa_nil))))))
  (pss_cons (ps_expr (pe_call (ok_want T) (hr.mono (by decide)) rfl T.g_want T.F_want.kp T.b_want .nil (pxL (L2.takes_of rfl rfl rfl rfl)) (pa_cons (pe_callB (cr_all rfl) (by rfl) T.n_all (by decide +kernel) (pa_cons (pe_lc (own := [("weight", 5)]) rfl sc_Desk_position_in.nd (pi_list (pv 2)) (blkOk_by (N := ["self", "line", "weights", "found", "e", "weight"]) (sc := defScope s_Desk_position_in) (own := [("weight", 5)]) (by decide +kernel)) (fun _ _ _ _ _ => (pg_name (i := 5) sc_Desk_position_in.nd rfl (by first | exact .inl rfl | exact .inr rfl))) (fun _ _ _ _ _ => pts_nil) (fun _ _ _ _ _ => (pe_chain op_le op_le (pe_un un_neg (pe_gi T.g_MOST_WEIGHT)) (pv 5) (pe_gi T.g_MOST_WEIGHT)))) pa_nil)) (pa_cons (pe_gi T.g_BAD_WEIGHT) pa_nil))))
  (pss_one (ps_ret (pv 3)))))), ?_⟩
    refine ⟨_, rfl, a, A.c_Desk, da, _, _, rfl, ha, T.cl_Desk, T.n_Desk_rules, de_rules _, rfl, _, -3, rfl, fun hb => ?_, fun hb => ?_⟩
    · cases s with
      | none =>
        cases (show v = .non from hv)
        cases hb
      | some r =>
        obtain ⟨ra, rfl, ⟨f, pe, pw, Z, R⟩⟩ := hv
        obtain ⟨qL, qP⟩ := qS r rfl
        refine ⟨_, rfl, a, A.c_Desk, da, _, _, rfl, ha, T.cl_Desk, T.n_Desk_rules, de_rules _, _, rfl, ra, f, pe, pw, r, t, bs, rfl, Z, R, ht, few, fun p hp pa po H1 ZP RP s1 => ?_, fun k p hp => ?_⟩
        · obtain ⟨qW, qR⟩ := qP p hp
          have hw1 := s1 _ _ hw
          refine ⟨_, rfl, wa, rfl, ⟨_, SqL.of hw1⟩, fun D nD => lcR (wv_list (xs := wtV wt)) nD (fun H2 s2 => s2.seq (SqL.of hw1)) [wt.hunter, wt.man, wt.road] rfl (fun x => [V.bl (decide (-1000 ≤ x) && decide (x ≤ 1000))]) (fun i x k ys H2 Nx hx hk s2 d2 lt hN hN0 => ?_) (by show 3 < sizeLine; exact small (by decide)) fun H2 s2 d2 => ?_⟩
          · have ex : x = V.int k := by
              have e : wtV wt = [wt.hunter, wt.man, wt.road].map V.int := rfl
              rw [e, List.getElem?_map, hk] at hx
              exact (Option.some.inj hx).symm
            subst ex
            refine ⟨rfl, ?_⟩
            refine ⟨_, rfl, _, rfl, _, _, rfl, rfl, _, rfl, ?_⟩
            by_cases h1 : -1000 ≤ k
            · refine if_t (decide_eq_true h1) ⟨_, _, rfl, rfl, ys, d2, lt, hN _ _ ?_ (same_put s2 nD) upd_same⟩
              rw [decide_eq_true h1, Bool.true_and]
            · refine if_f (decide_eq_false h1) ⟨ys, d2, lt, hN _ _ ?_ (same_put s2 nD) upd_same⟩
              rw [decide_eq_false h1, Bool.false_and]
          · have s12 := s1.trans s2
            refine ⟨D, rightBs wt, rfl, SqL.of (by rw [d2]; rfl), _, -8, rfl, fun hb => ⟨_, rfl, ?_⟩, fun hb => ?_⟩
            · rw [right_eq] at hb
              exact qR hb H2 pa ⟨po, ZP.same s2, RP⟩ s12
            · rw [right_eq] at hb
              exact (qW hb).up (Kp.of s12) fun b h => h
        · intro d H' k1 nd hd
          refine ⟨T.ex_Fault, fun a2 na2 => ?_⟩
          refine ⟨_, rfl, rfl, rfl, d, _, _, rfl, hd, fF_kind _ _, _, rfl, rfl, rfl, d, _, _, rfl, hd, fF_place _ _, ?_⟩
          exact ((qL k p hp).up k1 fun b h => h).go rfl (by show 3 ≤ 1000; decide)
    · cases s with
      | none => exact qN rfl
      | some r =>
        obtain ⟨ra, rfl, _⟩ := hv
        cases hb
def sp_weigh (K : PySem.W.Frag) (A : Adr) : Sp := fun vs H Q E => ∃ a s t bs wa wt, vs = [.ref a, .ref wa, .ref t] ∧ DeskAt A H a s ∧ SqL K H t (bV bs) ∧ bs.length ≤ 30000 ∧ H wa = some (.lst (wtV wt)) ∧
  AnsQ A H Q E (TaflLook.step s (.weigh bs wt.hunter wt.man wt.road)).2.nums
theorem ok_Desk_weigh (T : Txt K mg A) : FnOk P w K mg base (L2.CX P w) 10 A.f_Desk_weigh A.d_Desk_weigh ["self", "weights", "line"] (sp_weigh K A) := by
  refine okG T.F_Desk_weigh sc_Desk_weigh (fun vs H Q E h => ?_) (fun cdv B outer s H vs Q E hr h => ?_)
  · obtain ⟨a, s, t, bs, wa, wt, rfl, _⟩ := h
    rfl
  · obtain ⟨a, s, t, bs, wa, wt, rfl, ZD, ht, few, hw, qQ, qE⟩ := h
    refine ⟨_, (pss_cons (ps_set (i := 3) sc_Desk_weigh.nd rfl (by first | exact .inl rfl | exact .inr rfl) (pe_meth (pv 0) T.cl_Desk T.m_Desk_position_in (ok_Desk_position_in T) (hr.mono (by decide)) T.b_Desk_position_in .nil (pxL (L2.takes_of rfl rfl rfl rfl)) (pa_cons (pv 2) (pa_cons (pv 1) pa_nil))))
  (pss_one (ps_ret (pe_lst (pa_cons pe_int (pa_cons (pe_call (ok_weighed T) (hr.mono (by decide)) rfl T.g_weighed T.F_weighed.kp T.b_weighed .nil pass0 (pa_cons (pe_fld (pv 0) rfl) (pa_cons (pv 3) (pa_cons (pv 1) pa_nil)))) pa_nil)))))), ?_⟩
    obtain ⟨da, v, ha, hv⟩ := id ZD
    refine ⟨_, rfl, a, da, _, rfl, ha, (by kernel_rfl), _, rfl, _, rfl, a, s, t, bs, wa, wt, rfl, ZD, ht, few, hw, fun e => ?_, fun r e => ⟨fun k p hp => ?_, fun p hp => ⟨fun hR => ?_, fun hR H1 pa ZP s1 => ?_⟩⟩⟩
    · subst e; exact qE
    · subst e
      have en : (TaflLook.step (some r) (.weigh bs wt.hunter wt.man wt.road)).2 = Tafl.fault (-5) k p := by
        show (match r.readLine bs with | .error (k, p) => Tafl.fault (-5) k p | .ok p => _) = _
        rw [hp]
      rw [en] at qE
      exact qE
    · subst e
      have en : (TaflLook.step (some r) (.weigh bs wt.hunter wt.man wt.road)).2 = Tafl.says (-8) := by
        show (match r.readLine bs with | .error (k, p) => Tafl.fault (-5) k p | .ok p => if wt.right = false then Tafl.says (-8) else _) = _
        rw [hp]
        exact if_pos hR
      rw [en] at qE
      exact qE
    · subst e
      have en : (TaflLook.step (some r) (.weigh bs wt.hunter wt.man wt.road)).2 = Tafl.tells 0 [.num (r.weigh wt p)] := by
        show (match r.readLine bs with | .error (k, p) => Tafl.fault (-5) k p | .ok p => if wt.right = false then Tafl.says (-8) else _) = _
        rw [hp]
        exact if_neg (by rw [hR]; exact Bool.noConfusion)
      rw [en] at qQ
      obtain ⟨ra, rfl, ZR⟩ := hv
      have ha := s1 _ _ ha
      refine ⟨_, rfl, a, A.c_Desk, da, _, _, rfl, ha, T.cl_Desk, T.n_Desk_rules, de_rules _, _, rfl, _, rfl, ra, pa, wa, r, p, wt, rfl, ZR.same s1, ZP, s1 _ _ hw, hR, fun H2 s2 => ⟨(by show 2 ≤ sizeLine; exact smallE (by decide)), fun l nl => ?_⟩⟩
      exact qQ _ l ((s1.trans s2).trans (same_new nl)) ((s1.trans s2).free nl) upd_same
def sp_looked (K : PySem.W.Frag) (A : Adr) : Sp := fun vs H Q E => ∃ a r pa p, ∃ n most : Nat, vs = [.ref a, .ref pa, .int (n : Int), .int (most : Int)] ∧ DeskAt A H a (some r) ∧ Po A H pa p r ∧ n ≤ 4 ∧
  (cnt r n p ≤ most → ∀ H' q, NodeAt K A (fun _ => True) H' r n p q → Same H H' → Q (.ref q) H') ∧ (¬ cnt r n p ≤ most → RfE A (fun _ => False) H E [-9])
theorem ok_nodeU (T : Txt K mg A) : FnOk P w K mg base (L2N.CX P w) 12 A.f_Looking_node A.d_Looking_node ["self", "position", "n"] (fun vs H Q E => ∃ n, n ≤ 4 ∧ sp_nodeP K A n vs H Q E) :=
  ok_any fun n hn => (show FnOk P w K mg base (L2N.CX P w) (7 + (n + 1)) A.f_Looking_node A.d_Looking_node ["self", "position", "n"] (sp_nodeP K A n) from ok_nodeB T (n + 1)).mono (by omega)
theorem ok_Desk_looked (T : Txt K mg A) : FnOk P w K mg base (L2.CX P w) 13 A.f_Desk_looked A.d_Desk_looked ["self", "position", "n", "most"] (sp_looked K A) := by
  have ok_Looking_node := fun (T : Txt K mg A) => ok_nodeU (P := P) (w := w) (base := base) T
  refine okG T.F_Desk_looked sc_Desk_looked (fun vs H Q E h => ?_) (fun cdv B outer s H vs Q E hr h => ?_)
  · obtain ⟨a, r, pa, p, n, most, rfl, _⟩ := h
    rfl
  · obtain ⟨a, r, pa, p, n, most, rfl, ⟨da, v, ha, hv⟩, ZP, hn, qT, qF⟩ := h
    obtain ⟨ra, rfl, ZR⟩ := hv
    refine ⟨_, (pss_cons (ps_set (i := 4) sc_Desk_looked.nd rfl (by first | exact .inl rfl | exact .inr rfl) (pe_make T.mk_Looking (ok_Looking___init__ T) (hr.mono (by decide)) rfl T.g_Looking T.b_Looking___init__ .nil pass0 (pa_cons (pe_fld (pv 0) rfl) (pa_cons (pv 3) pa_nil))))
  (pss_cons (L2H.ps_try_onlyX rfl rfl ⟨rfl, by decide, .inl T.g_TooMany⟩ (L2H.passesAt_of rfl) (L2.takes_of rfl rfl rfl rfl) (fun W pn xe tk tkP hpo => by exact (pss_one (ps_set (i := 5) sc_Desk_looked.nd rfl (by first | exact .inl rfl | exact .inr rfl) (by exact (pe_methT (pv 4) T.cl_Looking T.m_Looking_node (ok_Looking_node T) (hr.mono (by decide)) T.b_Looking_node (fun σ => L2N.passAt tk σ) (pa_cons (pv 1) (pa_cons (pv 2) pa_nil))))))) (fun a oe cls d pn hz hf tkS hot => by exact (pss_one (L2H.ps_raiseHN hot tkS (L2H.pmk5_oexH T.ox_Refused T.i_Refused T.ti_Refused (okH_Refused___init__ T) (L2H.roomH_mark (hr.mono (by decide)) _) hot T.b_Refused___init__ passF (by rfl) T.g_Refused (pa_cons (pe_lst (pa_cons (pe_gi T.g_TOO_MANY) pa_nil)) pa_nil))))))
  (pss_one (ps_ret (pv 5))))), ?_⟩
    refine ⟨_, rfl, a, A.c_Desk, da, _, _, rfl, ha, T.cl_Desk, T.n_Desk_rules, de_rules _, _, rfl, fun la lx nla nlx nlxa => ⟨la, lx, ra, most, rfl, upd_same, fun H1 hla k1 => ⟨rfl, ?_⟩⟩⟩
    have nla' : (upd H lx (.own la)) la = none := by rw [upd_ne (Ne.symm nlxa)]; exact nla
    have s1 : Same H H1 := Kp.noneSame (p := (· = la)) (((Kp.new nlx).trans (Kp.new nla')).trans k1) fun b hb => by rw [hb]; exact nla
    refine ⟨_, rfl, la, lx, _, rfl, hla, lk_m_node _ _, _, rfl, _, rfl, n, hn, la, lx, ra, r, pa, p, (fun _ => True), most, rfl, hla, ZR.same s1, (ZP.same s1).n, fun _ _ => trivial, fun hc H2 q NA hla2 k2 => ⟨_, rfl, qT hc H2 q NA ?_⟩, fun hc H2 k2 => ?_⟩
    · exact Kp.noneSame (p := (· = la)) ((Kp.of s1).trans k2) fun b hb => by rw [hb]; exact nla
    · have s2 : Same H H2 := Kp.noneSame (p := (· = la)) ((Kp.of s1).trans k2) fun b hb => by rw [hb]; exact nla
      refine ⟨true, T.ex_TooMany, fun _ a2 na2 => ?_, fun z => Bool.noConfusion z⟩
      exact ((qF hc).up (Kp.of s2) fun b h => h).go rfl (by show 1 ≤ 1000; decide)
end
end Tf

set_option maxRecDepth 100000
set_option maxHeartbeats 1000000
/-! # The desk: ahead, each -/
namespace TfP
open Tafl Tf TaflLook
theorem all_err {r : Rules} {b : Bytes} {k p : Nat} {w : Weights} {f : Rules → Pos → Answer} (h : r.readLine b = .error (k, p)) : (ofAll (some r) b w f).2 = fault (-5) k p := by
  show (match r.readLine b with | .error (k, p) => fault (-5) k p | .ok p => _) = _
  rw [h]
theorem all_bad {r : Rules} {b : Bytes} {p : Pos} {w : Weights} {f : Rules → Pos → Answer} (h : r.readLine b = .ok p) (hR : w.right = false) : (ofAll (some r) b w f).2 = says (-8) := by
  show (match r.readLine b with | .error (k, p) => fault (-5) k p | .ok p => if w.right = false then says (-8) else f r p) = _
  rw [h]
  exact if_pos hR
theorem all_ok {r : Rules} {b : Bytes} {p : Pos} {w : Weights} {f : Rules → Pos → Answer} (h : r.readLine b = .ok p) (hR : w.right = true) : (ofAll (some r) b w f).2 = f r p := by
  show (match r.readLine b with | .error (k, p) => fault (-5) k p | .ok p => if w.right = false then says (-8) else f r p) = _
  rw [h]
  exact if_neg (by rw [hR]; exact Bool.noConfusion)
theorem look_bad {r : Rules} {p : Pos} {least n most : Nat} {f : Unit → Answer} (h : ¬ (least ≤ n ∧ n ≤ 4 ∧ 1 ≤ most ∧ most ≤ 600)) : looked r p least n most f = says (-1) := by
  have e : DEEP = 4 := rfl
  have e2 : MOST = 600 := rfl
  unfold looked
  exact if_pos (by omega)
theorem look_many {r : Rules} {p : Pos} {least n most : Nat} {f : Unit → Answer} (h : least ≤ n ∧ n ≤ 4 ∧ 1 ≤ most ∧ most ≤ 600) (h2 : ¬ cnt r n p ≤ most) : looked r p least n most f = says (-9) := by
  have e : DEEP = 4 := rfl
  have e2 : MOST = 600 := rfl
  unfold looked
  rw [if_neg (by omega), within_one, decide_eq_false h2]
  exact if_pos rfl
theorem look_ok {r : Rules} {p : Pos} {least n most : Nat} {f : Unit → Answer} (h : least ≤ n ∧ n ≤ 4 ∧ 1 ≤ most ∧ most ≤ 600) (h2 : cnt r n p ≤ most) : looked r p least n most f = f () := by
  have e : DEEP = 4 := rfl
  have e2 : MOST = 600 := rfl
  unfold looked
  rw [if_neg (by omega), within_one, decide_eq_true h2]
  exact if_neg Bool.noConfusion
def rowN (r : List Nat) : List Int := (r.length : Int) :: asInts r
theorem rowN_all (rs : List (List Nat)) (h : ∀ x ∈ rs, x.length ≤ 200) : (rs.flatMap rowN).length ≤ rs.length * 201 := by
  induction rs with
  | nil => exact Nat.le_refl _
  | cons x l ih =>
    rw [List.flatMap_cons, List.length_append, List.length_cons, Nat.succ_mul]
    have := ih fun y hy => h y (List.mem_cons_of_mem _ hy)
    have h1 := h x List.mem_cons_self
    have h2 : (rowN x).length = x.length + 1 := by show (_ :: List.map _ _).length = _; rw [List.length_cons, List.length_map]
    omega
end TfP
namespace Tf
open PySem PySem.Spec PyProof.Rows L2 TfP
section
variable {P : Program} {w : World} {K : PySem.W.Frag} {mg : Str → Option Value} {base : Heap} {A : Adr}
def sp_ahead (K : PySem.W.Frag) (A : Adr) : Sp := fun vs H Q E => ∃ a s t bs wa wt, ∃ n most : Nat, vs = [.ref a, .ref wa, .int (n : Int), .int (most : Int), .ref t] ∧ DeskAt A H a s ∧ SqL K H t (bV bs) ∧ bs.length ≤ 30000 ∧ H wa = some (.lst (wtV wt)) ∧
  AnsQ A H Q E (TaflLook.step s (.ahead bs wt.hunter wt.man wt.road n most)).2.nums
theorem ok_Desk_ahead (T : Txt K mg A) : FnOk P w K mg base (L2.CX P w) 18 A.f_Desk_ahead A.d_Desk_ahead ["self", "weights", "n", "most", "line"] (sp_ahead K A) := by
  refine okG T.F_Desk_ahead sc_Desk_ahead (fun vs H Q E h => ?_) (fun cdv B outer s H vs Q E hr h => ?_)
  · obtain ⟨a, s, t, bs, wa, wt, n, most, rfl, _⟩ := h
    rfl
  · obtain ⟨a, s, t, bs, wa, wt, n, most, rfl, ZD, ht, few, hw, qQ, qE⟩ := h
    refine ⟨_, (pss_cons (ps_set (i := 5) sc_Desk_ahead.nd rfl (by first | exact .inl rfl | exact .inr rfl) (pe_meth (pv 0) T.cl_Desk T.m_Desk_position_in (ok_Desk_position_in T) (hr.mono (by decide)) T.b_Desk_position_in .nil (pxL (L2.takes_of rfl rfl rfl rfl)) (pa_cons (pv 4) (pa_cons (pv 1) pa_nil))))
  (pss_cons (ps_expr (pe_call (ok_want T) (hr.mono (by decide)) rfl T.g_want T.F_want.kp T.b_want .nil (pxL (L2.takes_of rfl rfl rfl rfl)) (pa_cons (pe_and (pe_cmpR op_le (pv 2) (pe_gi T.g_MOST_AHEAD) (nomark _)) (pe_one (pe_chain op_le op_le pe_int (pv 3) (pe_gi T.g_MOST_MOVES)))) (pa_cons (pe_gi T.g_BAD) pa_nil))))
  (pss_cons (ps_set (i := 6) sc_Desk_ahead.nd rfl (by first | exact .inl rfl | exact .inr rfl) (pe_meth (pv 0) T.cl_Desk T.m_Desk_looked (ok_Desk_looked T) (hr.mono (by decide)) T.b_Desk_looked .nil (pxL (L2.takes_of rfl rfl rfl rfl)) (pa_cons (pv 5) (pa_cons (pv 2) (pa_cons (pv 3) pa_nil)))))
  (pss_cons (ps_set (i := 7) sc_Desk_ahead.nd rfl (by first | exact .inl rfl | exact .inr rfl) (pe_call (ok_row_of T) (hr.mono (by decide)) rfl T.g_row_of T.F_row_of.kp T.b_row_of .nil pass0 (pa_cons (pe_fld (pv 0) rfl) (pa_cons (pv 1) (pa_cons (pv 6) pa_nil)))))
  (pss_cons (ps_set (i := 8) sc_Desk_ahead.nd rfl (by first | exact .inl rfl | exact .inr rfl) (pe_lst (pa_cons pe_int (pa_cons (pe_call (ok_worth T) (hr.mono (by decide)) rfl T.g_worth T.F_worth.kp T.b_worth .nil pass0 (pa_cons (pe_fld (pv 0) rfl) (pa_cons (pv 1) (pa_cons (pv 6) (pa_cons pe_int pa_nil))))) (pa_cons (pe_callB call_len (by rfl) T.n_len PySem.boot_len (pa_cons (pv 7) pa_nil)) pa_nil)))))
  (pss_cons (ps_for (L2.passes_of rfl) rfl (pi_list (pv 7)) (pg_name (i := 9) sc_Desk_ahead.nd rfl (by first | exact .inl rfl | exact .inr rfl))
  (pss_one (ps_expr (pe_bm PySem.F.plainAttrs_list PySem.F.slot_list_extend PySem.F.type_list_extend mt_extend (pv 8) (pa_cons (pe_op op_cat (pe_lst (pa_cons (pe_callB call_len (by rfl) T.n_len PySem.boot_len (pa_cons (pv 9) pa_nil)) pa_nil)) (pv 9)) pa_nil)))))
  (pss_one (ps_ret (pv 8))))))))), ?_⟩
    obtain ⟨da, v, ha, hv⟩ := id ZD
    have eA : TaflLook.step s (.ahead bs wt.hunter wt.man wt.road n most) = TaflLook.ofAll s bs wt fun r p => TaflLook.looked r p 0 n most fun _ => Tafl.tells 0 [.num (r.worth wt n 0 p), .rows (rowsL r wt n 0 p)] := rfl
    rw [eA] at qQ qE
    refine ⟨_, rfl, a, da, _, rfl, ha, (by kernel_rfl), _, rfl, _, rfl, a, s, t, bs, wa, wt, rfl, ZD, ht, few, hw, fun e => ?_, fun r e => ⟨fun k p hp => ?_, fun p hp => ⟨fun hR => ?_, fun hR H1 pa ZP s1 => ?_⟩⟩⟩
    · subst e; exact qE
    · subst e; rw [all_err hp] at qE; exact qE
    · subst e; rw [all_bad hp hR] at qE; exact qE
    · subst e
      rw [all_ok hp hR] at qE qQ
      obtain ⟨ra, rfl, ZR0⟩ := hv
      have bad : ¬ (0 ≤ n ∧ n ≤ 4 ∧ 1 ≤ most ∧ most ≤ 600) → RfE A (fun _ => False) H1 E [-1] := fun hc => by
        rw [look_bad hc] at qE
        exact qE.up (Kp.of s1) fun b h => h
      by_cases h1 : n ≤ 4
      case neg =>
        refine ⟨_, rfl, _, _, rfl, rfl, _, rfl, if_f (decide_eq_false (by omega)) ⟨false, -1, rfl, (fun z => by cases z), fun _ => bad fun z => h1 z.2.1⟩⟩
      refine ⟨_, rfl, _, _, rfl, rfl, _, rfl, if_t (decide_eq_true (by omega)) ?_⟩
      by_cases h2 : 1 ≤ most
      case neg =>
        refine ⟨_, rfl, _, _, rfl, rfl, _, rfl, if_f (decide_eq_false (by omega)) ⟨false, -1, rfl, (fun z => by cases z), fun _ => bad fun z => h2 z.2.2.1⟩⟩
      refine ⟨_, rfl, _, _, rfl, rfl, _, rfl, if_t (decide_eq_true (by omega)) ⟨_, _, rfl, rfl, _, -1, rfl, fun h3 => ?_, fun h3 => bad fun z => by rw [decide_eq_true (by omega)] at h3; cases h3⟩⟩
      have h3 : most ≤ 600 := by have := of_decide_eq_true h3; omega
      have hc : 0 ≤ n ∧ n ≤ 4 ∧ 1 ≤ most ∧ most ≤ 600 := ⟨Nat.zero_le _, h1, h2, h3⟩
      have ha1 := s1 _ _ ha
      refine ⟨_, rfl, a, da, _, rfl, ha1, (by kernel_rfl), _, rfl, _, rfl, _, rfl, a, r, pa, p, n, most, rfl, ZD.same s1, ZP, h1, fun hm H2 q NA s2 => ?_, fun hm => ?_⟩
      case refine_2 =>
        rw [look_many hc hm] at qE
        exact qE.up (Kp.of s1) fun b h => h
      rw [look_ok hc hm] at qQ
      have s02 := s1.trans s2
      have ha := s02 _ _ ha
      refine ⟨_, rfl, a, A.c_Desk, da, _, _, rfl, ha, T.cl_Desk, T.n_Desk_rules, de_rules _, _, rfl, _, rfl, ra, wa, q, r, p, wt, _, n, rfl, h1, ZR0.same s02, s02 _ _ hw, hR, NA, fun H3 fo xs s3 nfo hfo hL => ?_⟩
      have s03 := s02.trans s3
      have ha := s3 _ _ ha
      refine ⟨_, rfl, a, A.c_Desk, da, _, _, rfl, ha, T.cl_Desk, T.n_Desk_rules, de_rules _, _, rfl, _, rfl, n, h1, ra, wa, q, r, p, wt, _, 0, rfl, ZR0.same s03, s03 _ _ hw, hR, NA.same s3, fun H4 s4 => ?_⟩
      have s04 := s03.trans s4
      have hfo4 := s4 _ _ hfo
      have hL4 := hL.same s4
      have hlen := rows_few r wt n 0 p
      have hall := rows_each r wt n 0 p
      generalize rowsL r wt n 0 p = rows at hL4 hlen hall qQ hL
      refine ⟨_, rfl, _, xs.length, rfl, .inl ⟨_, SqL.of hfo4, rfl⟩, (by show 3 ≤ sizeLine; exact smallE (by decide)), fun l nl => ?_⟩
      refine ⟨_, rfl, fo, rfl, ⟨_, SqL.of (same_new nl _ _ hfo4)⟩, forS (wv_list (xs := xs)) (fun i σ H' => ∃ v9, σ = [some (.ref a), some (.ref wa), some (.int (n : Int)), some (.int (most : Int)), some (.ref t), some (.ref pa), some (.ref q), some (.ref fo), some (.ref l), v9] ∧ Same H4 H' ∧
          H' l = some (.lst (((0 : Int) :: r.worth wt n 0 p :: (rows.length : Int) :: (rows.take i).flatMap rowN).map V.int)))
        ⟨none, rfl, same_new nl, by rw [upd_same, hL4.1]; rfl⟩ (fun i σ H' hP => ?_) (fun i x σ H5 hx hP => ?_) (fun σ H5 hP => ?_)⟩
      · obtain ⟨_, _, s5, _⟩ := hP
        exact SqL.of (s5 _ _ hfo4)
      · obtain ⟨v9, rfl, s5, hl⟩ := hP
        have lt : i < rows.length := by rw [← hL4.1]; exact (List.getElem?_eq_some_iff.mp hx).1
        obtain ⟨ri, rfl, _, hri⟩ := hL4.2 i x _ hx (List.getElem?_eq_getElem lt)
        have hrow : rows[i]? = some rows[i] := List.getElem?_eq_getElem lt
        have hr2 : (rows[i]).length ≤ 200 := hall _ (List.getElem_mem lt)
        generalize rows[i] = row at hri hrow hr2
        have hri5 := s5 _ _ hri
        have hb : ((rows.take i).flatMap rowN).length ≤ 1000 := by
          have := rowN_all (rows.take i) fun y hy => hall y (List.mem_of_mem_take hy)
          have h5 : (rows.take i).length ≤ rows.length := List.length_take_le' _ _
          have h6 : (rows.take i).length ≤ 4 := by omega
          have := Nat.mul_le_mul_right 201 h6
          omega
        refine ⟨_, rfl, .inl ⟨rfl, _, SqL.of hl⟩, _, rfl, _, row.length, rfl, .inl ⟨_, SqL.of hri5, (List.length_map _).symm⟩, (by show 1 ≤ sizeLine; exact smallE (by decide)), fun l1 n1 => ⟨_, rfl, l1, ri, _, row.map natV, rfl, rfl, upd_same, same_new n1 _ _ hri5, ?_, fun l2 n2 => ?_⟩⟩
        · exact smallE (by rw [List.length_map]; show 1 + _ ≤ _; omega)
        · have e2 : ([V.int (row.length : Int)] ++ row.map natV) = (rowN row).map V.int := by
            show V.int (row.length : Int) :: row.map natV = V.int (row.length : Int) :: (row.map fun (n : Nat) => (n : Int)).map V.int
            rw [List.map_map]
            rfl
          rw [e2]
          have s6 := (same_new (o := .lst [V.int (row.length : Int)]) n1).trans (same_new (o := .lst ((rowN row).map V.int)) n2)
          have hl6 := s6 _ _ hl
          refine ⟨l, l2, _, (rowN row).map V.int, rfl, rfl, hl6, upd_same, ?_, ?_⟩
          · refine smallE ?_
            rw [List.length_map, List.length_map]
            have h2 : (rowN row).length = row.length + 1 := by show (_ :: List.map _ _).length = _; rw [List.length_cons, List.length_map]
            rw [h2]
            show _ + 1 + 1 + 1 + _ ≤ _
            omega
          · refine ⟨_, rfl, same_put (s5.trans s6) nl, ?_⟩
            rw [upd_same, take_more hrow, List.flatMap_append, ← List.map_append]
            have e3 : [row].flatMap rowN = rowN row := by rw [List.flatMap_cons, List.flatMap_nil, List.append_nil]
            rw [e3]
            rfl
      · obtain ⟨v9, rfl, s5, hl⟩ := hP
        rw [hL4.1, List.take_length] at hl
        refine ⟨_, rfl, qQ H5 l (s04.trans s5) (s04.free nl) ?_⟩
        rw [hl]
        have e4 : (Tafl.tells 0 [.num (r.worth wt n 0 p), .rows rows]).nums = (0 : Int) :: r.worth wt n 0 p :: (rows.length : Int) :: rows.flatMap rowN := by
          show (0 : Int) :: ([r.worth wt n 0 p] ++ (((rows.length : Int) :: rows.flatMap rowN) ++ [])) = _
          rw [List.append_nil]
          rfl
        rw [e4]
def sp_each (K : PySem.W.Frag) (A : Adr) : Sp := fun vs H Q E => ∃ a s t bs wa wt, ∃ n most : Nat, vs = [.ref a, .ref wa, .int (n : Int), .int (most : Int), .ref t] ∧ DeskAt A H a s ∧ SqL K H t (bV bs) ∧ bs.length ≤ 30000 ∧ H wa = some (.lst (wtV wt)) ∧
  AnsQ A H Q E (TaflLook.step s (.each bs wt.hunter wt.man wt.road n most)).2.nums
theorem ok_Desk_each (T : Txt K mg A) : FnOk P w K mg base (L2.CX P w) 18 A.f_Desk_each A.d_Desk_each ["self", "weights", "n", "most", "line"] (sp_each K A) := by
  refine okG T.F_Desk_each sc_Desk_each (fun vs H Q E h => ?_) (fun cdv B outer s H vs Q E hr h => ?_)
  · obtain ⟨a, s, t, bs, wa, wt, n, most, rfl, _⟩ := h
    rfl
  · obtain ⟨a, s, t, bs, wa, wt, n, most, rfl, ZD, ht, few, hw, qQ, qE⟩ := h
    refine ⟨_, (pss_cons (ps_set (i := 5) sc_Desk_each.nd rfl (by first | exact .inl rfl | exact .inr rfl) (pe_meth (pv 0) T.cl_Desk T.m_Desk_position_in (ok_Desk_position_in T) (hr.mono (by decide)) T.b_Desk_position_in .nil (pxL (L2.takes_of rfl rfl rfl rfl)) (pa_cons (pv 4) (pa_cons (pv 1) pa_nil))))
  (pss_cons (ps_expr (pe_call (ok_want T) (hr.mono (by decide)) rfl T.g_want T.F_want.kp T.b_want .nil (pxL (L2.takes_of rfl rfl rfl rfl)) (pa_cons (pe_and (pe_chain op_le op_le pe_int (pv 2) (pe_gi T.g_MOST_AHEAD)) (pe_one (pe_chain op_le op_le pe_int (pv 3) (pe_gi T.g_MOST_MOVES)))) (pa_cons (pe_gi T.g_BAD) pa_nil))))
  (pss_cons (ps_set (i := 6) sc_Desk_each.nd rfl (by first | exact .inl rfl | exact .inr rfl) (pe_call (ok_branch_worths T) (hr.mono (by decide)) rfl T.g_branch_worths T.F_branch_worths.kp T.b_branch_worths .nil pass0 (pa_cons (pe_fld (pv 0) rfl) (pa_cons (pv 1) (pa_cons (pe_meth (pv 0) T.cl_Desk T.m_Desk_looked (ok_Desk_looked T) (hr.mono (by decide)) T.b_Desk_looked .nil (pxL (L2.takes_of rfl rfl rfl rfl)) (pa_cons (pv 5) (pa_cons (pv 2) (pa_cons (pv 3) pa_nil)))) (pa_cons pe_int pa_nil))))))
  (pss_one (ps_ret (pe_op op_cat (pe_lst (pa_cons pe_int (pa_cons (pe_callB call_len (by rfl) T.n_len PySem.boot_len (pa_cons (pv 6) pa_nil)) pa_nil))) (pv 6))))))), ?_⟩
    obtain ⟨da, v, ha, hv⟩ := id ZD
    have eA : TaflLook.step s (.each bs wt.hunter wt.man wt.road n most) = TaflLook.ofAll s bs wt fun r p => TaflLook.looked r p 1 n most fun _ => Tafl.tells 0 [.ints ((r.moves p).map fun (x : Nat × Nat) => r.worth wt (n - 1) 1 (r.comes p x))] := rfl
    rw [eA] at qQ qE
    refine ⟨_, rfl, a, da, _, rfl, ha, (by kernel_rfl), _, rfl, _, rfl, a, s, t, bs, wa, wt, rfl, ZD, ht, few, hw, fun e => ?_, fun r e => ⟨fun k p hp => ?_, fun p hp => ⟨fun hR => ?_, fun hR H1 pa ZP s1 => ?_⟩⟩⟩
    · subst e; exact qE
    · subst e; rw [all_err hp] at qE; exact qE
    · subst e; rw [all_bad hp hR] at qE; exact qE
    · subst e
      rw [all_ok hp hR] at qE qQ
      obtain ⟨ra, rfl, ZR0⟩ := hv
      have bad : ¬ (1 ≤ n ∧ n ≤ 4 ∧ 1 ≤ most ∧ most ≤ 600) → RfE A (fun _ => False) H1 E [-1] := fun hc => by
        rw [look_bad hc] at qE
        exact qE.up (Kp.of s1) fun b h => h
      by_cases h0 : 1 ≤ n
      case neg =>
        refine ⟨_, rfl, _, _, rfl, rfl, _, rfl, if_f (decide_eq_false (by omega)) ⟨_, rfl, if_f rfl ⟨false, -1, rfl, (fun z => by cases z), fun _ => bad fun z => h0 z.1⟩⟩⟩
      by_cases h1 : n ≤ 4
      case neg =>
        refine ⟨_, rfl, _, _, rfl, rfl, _, rfl, if_t (decide_eq_true (by omega)) ⟨_, _, rfl, rfl, _, rfl, if_f (decide_eq_false (by omega)) ⟨false, -1, rfl, (fun z => by cases z), fun _ => bad fun z => h1 z.2.1⟩⟩⟩
      refine ⟨_, rfl, _, _, rfl, rfl, _, rfl, if_t (decide_eq_true (by omega)) ⟨_, _, rfl, rfl, _, rfl, if_t (decide_eq_true (by omega)) ?_⟩⟩
      by_cases h2 : 1 ≤ most
      case neg =>
        refine ⟨_, rfl, _, _, rfl, rfl, _, rfl, if_f (decide_eq_false (by omega)) ⟨false, -1, rfl, (fun z => by cases z), fun _ => bad fun z => h2 z.2.2.1⟩⟩
      refine ⟨_, rfl, _, _, rfl, rfl, _, rfl, if_t (decide_eq_true (by omega)) ⟨_, _, rfl, rfl, _, -1, rfl, fun h3 => ?_, fun h3 => bad fun z => by rw [decide_eq_true (by omega)] at h3; cases h3⟩⟩
      have h3 : most ≤ 600 := by have := of_decide_eq_true h3; omega
      have hc : 1 ≤ n ∧ n ≤ 4 ∧ 1 ≤ most ∧ most ≤ 600 := ⟨h0, h1, h2, h3⟩
      have ha := s1 _ _ ha
      refine ⟨_, rfl, a, A.c_Desk, da, _, _, rfl, ha, T.cl_Desk, T.n_Desk_rules, de_rules _, _, rfl, _, rfl, a, da, _, rfl, ha, (by kernel_rfl), _, rfl, _, rfl, _, rfl, a, r, pa, p, n, most, rfl, ZD.same s1, ZP, h1, fun hm H2 q NA s2 => ?_, fun hm => ?_⟩
      case refine_2 =>
        rw [look_many hc hm] at qE
        exact qE.up (Kp.of s1) fun b h => h
      rw [look_ok hc hm] at qQ
      have s02 := s1.trans s2
      obtain ⟨k, rfl⟩ : ∃ k, n = k + 1 := ⟨n - 1, by omega⟩
      refine ⟨k, by omega, ra, wa, q, r, p, wt, _, 0, rfl, ZR0.same s02, s02 _ _ hw, hR, NA, fun H3 so s3 nso hso => ?_⟩
      have s03 := s02.trans s3
      have hlen : (branchW r wt k 0 p).length ≤ 40000 := by
        unfold branchW
        rw [List.length_map]
        exact moves_few r p
      refine ⟨_, rfl, _, _, rfl, .inl ⟨_, SqL.of hso, rfl⟩, (by show 2 ≤ sizeLine; exact smallE (by decide)), fun l1 n1 => ⟨_, rfl, l1, so, _, (branchW r wt k 0 p).map V.int, rfl, rfl, upd_same, same_new n1 _ _ hso, ?_, fun l2 n2 => ?_⟩⟩
      · exact smallE (by rw [List.length_map]; show 2 + _ ≤ _; omega)
      · have s4 := (same_new (o := .lst [V.int 0, V.int (((branchW r wt k 0 p).map V.int).length : Nat)]) n1).trans (same_new (o := .lst ([V.int 0, V.int (((branchW r wt k 0 p).map V.int).length : Nat)] ++ (branchW r wt k 0 p).map V.int)) n2)
        refine qQ _ l2 (s03.trans s4) ((s03.trans (same_new n1)).free n2) ?_
        rw [upd_same]
        have e4 : (Tafl.tells 0 [.ints ((r.moves p).map fun (x : Nat × Nat) => r.worth wt (k + 1 - 1) 1 (r.comes p x))]).nums = (0 : Int) :: ((branchW r wt k 0 p).length : Int) :: branchW r wt k 0 p := by
          show (0 : Int) :: (((branchW r wt k 0 p).length : Int) :: branchW r wt k 0 p ++ []) = _
          rw [List.append_nil]
        rw [e4, List.length_map]
        rfl
end
end Tf

set_option maxRecDepth 100000
set_option maxHeartbeats 1000000
/-! # The desk: one call -/
namespace TfP
open Tafl TaflLook
/-- a call by its number, its numbers, its row -/
inductive CallR : Int → List Int → Bytes → TaflLook.Call → Prop
  | rules (b : Bytes) : CallR 0 [] b (.rules b)
  | weigh (b : Bytes) (h m d : Int) : CallR 1 [h, m, d] b (.weigh b h m d)
  | ahead (b : Bytes) (h m d : Int) (n most : Nat) : CallR 2 [h, m, d, (n : Int), (most : Int)] b (.ahead b h m d n most)
  | each (b : Bytes) (h m d : Int) (n most : Nat) : CallR 3 [h, m, d, (n : Int), (most : Int)] b (.each b h m d n most)
end TfP
namespace Tf
open PySem PySem.Spec PyProof.Rows L2 TfP
theorem cut_nat (xs : List V) (i j : Nat) (hi : i ≤ xs.length) (hj : j ≤ xs.length) : cutV xs (some (i : Int)) (some (j : Int)) = (xs.drop i).take (j - i) := by
  unfold cutV
  rw [HT.sIx_nat, HT.sIx_nat, Nat.min_eq_left hi, Nat.min_eq_left hj]
theorem cut3 (a b c d e : V) : cutV [a, b, c, d, e] none (some 3) = [a, b, c] := rfl
section
variable {P : Program} {w : World} {K : PySem.W.Frag} {mg : Str → Option Value} {base : Heap} {A : Adr}
def sp_done (K : PySem.W.Frag) (A : Adr) : Sp := fun vs H Q E => ∃ a s p na t ns bs c, vs = [.ref a, .int p, .ref na, .ref t] ∧ DeskAt A H a s ∧ CallR p ns bs c ∧ H na = some (.lst (ns.map V.int)) ∧ SqL K H t (bV bs) ∧ bs.length ≤ 30000 ∧
  (∀ H' l, DeskAt A H' a (TaflLook.step s c).1 → Kp (· = a) H H' → H l = none → H' l = some (.lst ((TaflLook.step s c).2.nums.map V.int)) → Q (.ref l) H') ∧ ((TaflLook.step s c).1 = s → RfE A (fun _ => False) H E (TaflLook.step s c).2.nums)
theorem ok_Desk_done (T : Txt K mg A) : FnOk P w K mg base (L2.CX P w) 19 A.f_Desk_done A.d_Desk_done ["self", "call", "n", "text"] (sp_done K A) := by
  refine okG T.F_Desk_done sc_Desk_done (fun vs H Q E h => ?_) (fun cdv B outer s H vs Q E hr h => ?_)
  · obtain ⟨a, s, p, na, t, ns, bs, c, rfl, _⟩ := h
    rfl
  · obtain ⟨a, s, p, na, t, ns, bs, c, rfl, ZD, hC, hna, ht, few, qQ, qE⟩ := h
    refine ⟨_, (pss_cons (ps_if (pt_cmpR op_eq (pv 1) pe_int (nomark _)) (pss_one (ps_ret (pe_meth (pv 0) T.cl_Desk T.m_Desk_set_rules (ok_Desk_set_rules T) (hr.mono (by decide)) T.b_Desk_set_rules .nil (pxL (L2.takes_of rfl rfl rfl rfl)) (pa_cons (pv 3) pa_nil)))) pss_nil)
  (pss_cons (ps_if (pt_cmpR op_eq (pv 1) pe_int (nomark _)) (pss_one (ps_ret (pe_meth (pv 0) T.cl_Desk T.m_Desk_weigh (ok_Desk_weigh T) (hr.mono (by decide)) T.b_Desk_weigh .nil (pxL (L2.takes_of rfl rfl rfl rfl)) (pa_cons (pv 2) (pa_cons (pv 3) pa_nil))))) pss_nil)
  (pss_cons (ps_if (pt_cmpR op_eq (pv 1) (pe_gi T.g_EACH) (nomark _)) (pss_one (ps_ret (pe_meth (pv 0) T.cl_Desk T.m_Desk_each (ok_Desk_each T) (hr.mono (by decide)) T.b_Desk_each .nil (pxL (L2.takes_of rfl rfl rfl rfl)) (pa_cons (pe_slice sl_list (pv 2) po_none (po_some pe_int)) (pa_cons (pe_ix ix_list (pv 2) pe_int (fun _ _ => rfl)) (pa_cons (pe_ix ix_list (pv 2) pe_int (fun _ _ => rfl)) (pa_cons (pv 3) pa_nil))))))) pss_nil)
  (pss_one (ps_ret (pe_meth (pv 0) T.cl_Desk T.m_Desk_ahead (ok_Desk_ahead T) (hr.mono (by decide)) T.b_Desk_ahead .nil (pxL (L2.takes_of rfl rfl rfl rfl)) (pa_cons (pe_slice sl_list (pv 2) po_none (po_some pe_int)) (pa_cons (pe_ix ix_list (pv 2) pe_int (fun _ _ => rfl)) (pa_cons (pe_ix ix_list (pv 2) pe_int (fun _ _ => rfl)) (pa_cons (pv 3) pa_nil)))))))))), ?_⟩
    obtain ⟨da, v, ha, hv⟩ := id ZD
    cases hC with
    | rules =>
      refine ⟨_, rfl, rfl, _, rfl, if_t rfl ?_⟩
      refine ⟨_, rfl, a, da, _, rfl, ha, (by kernel_rfl), _, rfl, a, s, t, bs, rfl, ZD, ht, few, fun r hj H1 l ZD1 k1 nl hl => ?_, fun k p hj => ?_⟩
      · have e : TaflLook.step s (.rules bs) = (some r, Tafl.says 0) := by
          show (match Tafl.judge bs with | .error (k, p) => (s, Tafl.fault (-6) k p) | .ok r => (some r, Tafl.says 0)) = _
          rw [hj]
        rw [e] at qQ
        exact qQ H1 l ZD1 k1 nl hl
      · have e : TaflLook.step s (.rules bs) = (s, Tafl.fault (-6) k p) := by
          show (match Tafl.judge bs with | .error (k, p) => (s, Tafl.fault (-6) k p) | .ok r => (some r, Tafl.says 0)) = _
          rw [hj]
        rw [e] at qE
        exact qE rfl
    | weigh _ h m d =>
      refine ⟨_, rfl, rfl, _, rfl, if_f rfl ⟨_, rfl, rfl, _, rfl, if_t rfl ?_⟩⟩
      refine ⟨_, rfl, a, da, _, rfl, ha, (by kernel_rfl), _, rfl, _, rfl, a, s, t, bs, na, ⟨h, m, d⟩, rfl, ZD, ht, few, hna, fun H1 l s1 nl hl => qQ H1 l (ZD.same s1) (Kp.of s1) nl hl, qE rfl⟩
    | each _ h m d n most =>
      refine ⟨_, rfl, rfl, _, rfl, if_f rfl ⟨_, rfl, rfl, _, rfl, if_f rfl ⟨_, rfl, rfl, _, rfl, if_t rfl ?_⟩⟩⟩
      refine ⟨_, rfl, a, da, _, rfl, ha, (by kernel_rfl), _, rfl, 3, rfl, na, _, rfl, SqL.of hna, fun w1 nw1 => ?_⟩
      have s1 := same_new (o := .lst (cutV ([h, m, d, (n : Int), (most : Int)].map V.int) none (some 3))) nw1
      have hna1 := s1 _ _ hna
      refine ⟨_, rfl, na, _, 3, _, rfl, rfl, SqL.of hna1, atI_nat (j := 3) rfl, _, rfl, na, _, 4, _, rfl, rfl, SqL.of hna1, atI_nat (j := 4) rfl, _, rfl, ?_⟩
      refine ⟨a, s, t, bs, w1, ⟨h, m, d⟩, n, most, rfl, ZD.same s1, s1.seq ht, few, upd_same, fun H1 l s2 nl hl => qQ H1 l (ZD.same (s1.trans s2)) (Kp.of (s1.trans s2)) (s1.free nl) hl, (qE rfl).up (Kp.of s1) fun b h => h⟩
    | ahead _ h m d n most =>
      refine ⟨_, rfl, rfl, _, rfl, if_f rfl ⟨_, rfl, rfl, _, rfl, if_f rfl ⟨_, rfl, rfl, _, rfl, if_f rfl ?_⟩⟩⟩
      refine ⟨_, rfl, a, da, _, rfl, ha, (by kernel_rfl), _, rfl, 3, rfl, na, _, rfl, SqL.of hna, fun w1 nw1 => ?_⟩
      have s1 := same_new (o := .lst (cutV ([h, m, d, (n : Int), (most : Int)].map V.int) none (some 3))) nw1
      have hna1 := s1 _ _ hna
      refine ⟨_, rfl, na, _, 3, _, rfl, rfl, SqL.of hna1, atI_nat (j := 3) rfl, _, rfl, na, _, 4, _, rfl, rfl, SqL.of hna1, atI_nat (j := 4) rfl, _, rfl, ?_⟩
      refine ⟨a, s, t, bs, w1, ⟨h, m, d⟩, n, most, rfl, ZD.same s1, s1.seq ht, few, upd_same, fun H1 l s2 nl hl => qQ H1 l (ZD.same (s1.trans s2)) (Kp.of (s1.trans s2)) (s1.free nl) hl, (qE rfl).up (Kp.of s1) fun b h => h⟩
def sp_answer (K : PySem.W.Frag) (A : Adr) : Sp := fun vs H Q _ => ∃ a s p na t ns bs c, vs = [.ref a, .int p, .ref na, .ref t] ∧ DeskAt A H a s ∧ CallR p ns bs c ∧ H na = some (.lst (ns.map V.int)) ∧ SqL K H t (bV bs) ∧ bs.length ≤ 30000 ∧
  ∀ H' l, DeskAt A H' a (TaflLook.step s c).1 → Kp (· = a) H H' → H l = none → H' l = some (.lst ((TaflLook.step s c).2.nums.map V.int)) → Q (.ref l) H'
theorem step_kept {s : Option Tafl.Rules} {c : TaflLook.Call} {p : Int} {ns : List Int} {bs : Tafl.Bytes} (h : CallR p ns bs c) : True := trivial
theorem ok_Desk_answer (T : Txt K mg A) : FnOk P w K mg base CX0 20 A.f_Desk_answer A.d_Desk_answer ["self", "call", "n", "text"] (sp_answer K A) := by
  refine T.F_Desk_answer.ok sc_Desk_answer (fun vs H Q E h => ?_) (fun cdv B outer s H vs Q E hr h => ?_)
  · obtain ⟨a, s, p, na, t, ns, bs, c, rfl, _⟩ := h
    rfl
  · obtain ⟨a, s, p, na, t, ns, bs, c, rfl, ZD, hC, hna, ht, few, q⟩ := h
    refine ⟨_, (pss_cons (L2.ps_try_as (i := 5) rfl rfl sc_Desk_answer.nd rfl rfl ⟨rfl, by decide, .inl T.g_Refused⟩ takes0 (fun W pn xe tk hpo => by exact (pss_one (ps_set (i := 4) sc_Desk_answer.nd rfl (by first | exact .inl rfl | exact .inr rfl) (by exact (pe_methT (pv 0) T.cl_Desk T.m_Desk_done (ok_Desk_done T) (hr.mono (by decide)) T.b_Desk_done (fun σ => passAt tk σ) (pa_cons (pv 1) (pa_cons (pv 2) (pa_cons (pv 3) pa_nil)))))))) (fun a oe cls d pn hz hf => by exact (pss_one (ps_ret (pe_xf T.xf_Refused T.nf_told hz hf (pv 5))))))
  (pss_one (ps_ret (pv 4)))), ?_⟩
    obtain ⟨da, v, ha, hv⟩ := id ZD
    refine ⟨_, rfl, a, da, _, rfl, ha, (by kernel_rfl), _, rfl, _, rfl, _, rfl, a, s, p, na, t, ns, bs, c, rfl, ZD, hC, hna, ht, few, fun H1 l ZD1 k1 nl hl => ⟨_, rfl, q H1 l ZD1 k1 nl hl⟩, fun es => ?_⟩
    intro d l H1 k1 nl hd hl
    refine ⟨true, T.ex_Refused, fun _ a2 na2 => ?_, fun z => Bool.noConfusion z⟩
    refine ⟨_, rfl, rfl, rfl, d, _, _, rfl, hd, lk_here, q H1 l ?_ (k1.mono fun b h => h.elim) nl hl⟩
    rw [es]
    exact ZD.same k1.same
end
end Tf

set_option maxRecDepth 100000
set_option maxHeartbeats 400000
/-! # The calls as one list: plain Lean -/
namespace TfP
open Tafl Tf TaflLook
theorem shape_cases {p : Int} {n k : Nat} (h : PyWqacdd.shape p = some (n, k)) : k = 1 ∧ ((p = 0 ∧ n = 0) ∨ (p = 1 ∧ n = 3) ∨ (p = 2 ∧ n = 5) ∨ (p = 3 ∧ n = 5)) := by
  unfold PyWqacdd.shape at h
  split at h
  · next e => cases h; exact ⟨rfl, .inl ⟨e, rfl⟩⟩
  · split at h
    · next e => cases h; exact ⟨rfl, .inr (.inl ⟨e, rfl⟩)⟩
    · split at h
      · next e => cases h; exact ⟨rfl, .inr (.inr (.inl ⟨e, rfl⟩))⟩
      · split at h
        · next e => cases h; exact ⟨rfl, .inr (.inr (.inr ⟨e, rfl⟩))⟩
        · cases h
theorem whole_eq (c : List (List Int)) : PyWqacdd.whole c = c := by
  unfold PyWqacdd.whole
  split <;> rfl
theorem wholes_eq (cs : List (List (List Int))) : cs.map PyWqacdd.whole = cs := by
  rw [show PyWqacdd.whole = id from funext whole_eq, List.map_id]
theorem row_some {l x s : List Int} (h : PyFlat.row l = some (x, s)) : l = (x.length : Int) :: (x ++ s) := by
  cases l with
  | nil => cases h
  | cons z r =>
    have h' : (if 0 ≤ z ∧ z.toNat ≤ r.length then some (r.take z.toNat, r.drop z.toNat) else none) = some (x, s) := h
    by_cases c : 0 ≤ z ∧ z.toNat ≤ r.length
    · rw [if_pos c] at h'
      cases h'
      rw [List.take_append_drop, List.length_take, Nat.min_eq_left c.2]
      congr 1
      omega
    · rw [if_neg c] at h'
      cases h'
theorem rows_one {l : List Int} {xs : List (List Int)} {t : List Int} (h : PyFlat.rows 1 l = some (xs, t)) : ∃ x, xs = [x] ∧ l = (x.length : Int) :: (x ++ t) := by
  have h' : (match PyFlat.row l with
    | none => none
    | some (x, s) => match PyFlat.rows 0 s with
      | none => none
      | some (xs, t) => some (x :: xs, t)) = some (xs, t) := h
  cases e : PyFlat.row l with
  | none => rw [e] at h'; cases h'
  | some y =>
    obtain ⟨x, s⟩ := y
    rw [e] at h'
    have h2 : some ([x], s) = some (xs, t) := h'
    cases h2
    exact ⟨x, rfl, row_some e⟩
theorem calls_cons {f : Nat} {p : Int} {r : List Int} {cs : List (List (List Int))} (h : PyFlat.calls PyWqacdd.shape f (p :: r) = some cs) : ∃ ns row t f' cs', PyWqacdd.shape p = some (ns.length, 1) ∧ r = ns ++ ((row.length : Int) :: (row ++ t)) ∧ cs = [p :: ns, row] :: cs' ∧ PyFlat.calls PyWqacdd.shape f' t = some cs' := by
  cases f with
  | zero => cases h
  | succ f =>
    have h1 : (match PyFlat.call PyWqacdd.shape (p :: r) with
      | none => none
      | some (c, t) => match PyFlat.calls PyWqacdd.shape f t with
        | none => none
        | some cs => some (c :: cs)) = some cs := h
    cases e : PyFlat.call PyWqacdd.shape (p :: r) with
    | none => rw [e] at h1; cases h1
    | some y =>
      obtain ⟨c, t⟩ := y
      rw [e] at h1
      have h2 : (match PyFlat.calls PyWqacdd.shape f t with
        | none => none
        | some cs => some (c :: cs)) = some cs := h1
      cases e2 : PyFlat.calls PyWqacdd.shape f t with
      | none => rw [e2] at h2; cases h2
      | some cs' =>
        rw [e2] at h2
        have h3 : some (c :: cs') = some cs := h2
        have e' : (match PyWqacdd.shape p with
          | none => none
          | some (n, k) => if r.length < n then none else match PyFlat.rows k (r.drop n) with
            | none => none
            | some (xs, t) => some ((p :: r.take n) :: xs, t)) = some (c, t) := e
        cases e3 : PyWqacdd.shape p with
        | none => rw [e3] at e'; cases e'
        | some y =>
          obtain ⟨n, k⟩ := y
          obtain ⟨rfl, _⟩ := shape_cases e3
          rw [e3] at e'
          have e4 : (if r.length < n then none else match PyFlat.rows 1 (r.drop n) with
            | none => none
            | some (xs, t) => some ((p :: r.take n) :: xs, t)) = some (c, t) := e'
          by_cases hn : r.length < n
          · rw [if_pos hn] at e4; cases e4
          · rw [if_neg hn] at e4
            cases e5 : PyFlat.rows 1 (r.drop n) with
            | none => rw [e5] at e4; cases e4
            | some y =>
              obtain ⟨xs, t'⟩ := y
              rw [e5] at e4
              have e6 : some ((p :: r.take n) :: xs, t') = some (c, t) := e4
              cases e6
              obtain ⟨x, rfl, hx⟩ := rows_one e5
              cases h3
              refine ⟨r.take n, x, t, f, cs', ?_, ?_, rfl, e2⟩
              · rw [List.length_take, Nat.min_eq_left (by omega)]
              · rw [← hx, List.take_append_drop]
theorem calls_end {f : Nat} {l : List Int} (h : PyFlat.calls PyWqacdd.shape f l = some []) : l = [] := by
  cases l with
  | nil => rfl
  | cons p r =>
    obtain ⟨_, _, _, _, _, _, _, e, _⟩ := calls_cons h
    cases e
/-- what is asked of one call -/
def okCall (c : List (List Int)) : Prop := PyInside.call PyWqacdd.bound c = true ∧ TaflLookNeutral.asked1 c = true
theorem text_of {row : List Int} (h : row.all (fun (z : Int) => decide (0 ≤ z) && decide (z ≤ 255)) = true) : ∃ bs : Bytes, text? row = some bs ∧ bs.length = row.length ∧ bs.map (fun b => (b.toNat : Int)) = row := by
  refine ⟨row.map fun (n : Int) => UInt8.ofNat n.toNat, if_pos h, List.length_map _, ?_⟩
  rw [List.map_map]
  have : ∀ z ∈ row, ((fun b : UInt8 => (b.toNat : Int)) ∘ fun (n : Int) => UInt8.ofNat n.toNat) z = z := fun z hz => by
    have := (List.all_eq_true.mp h) z hz
    rw [Bool.and_eq_true, decide_eq_true_iff, decide_eq_true_iff] at this
    show ((UInt8.ofNat z.toNat).toNat : Int) = z
    rw [UInt8.toNat_ofNat']
    omega
  conv => rhs; rw [← List.map_id row]
  exact List.map_congr_left this
theorem lists_few {lo hi : Int} {a b : Nat} {row : List Int} (h : PyInside.lists [(lo, hi, a, b)] [row] = true) : row.length ≤ b := by
  have h' : (decide (a ≤ row.length) && decide (row.length ≤ b) && row.all (PyInside.within lo hi) && true) = true := h
  rw [Bool.and_true, Bool.and_eq_true, Bool.and_eq_true, decide_eq_true_iff] at h'
  exact of_decide_eq_true h'.1.2
theorem call_of {p : Int} {ns row : List Int} (hs : PyWqacdd.shape p = some (ns.length, 1)) (h : okCall [p :: ns, row]) : ∃ bs c, CallR p ns bs c ∧ TaflLookNeutral.callOf [p :: ns, row] = some c ∧ bs.map (fun b => (b.toNat : Int)) = row ∧ bs.length ≤ 30000 := by
  obtain ⟨h1, h2⟩ := h
  obtain ⟨_, hp⟩ := shape_cases hs
  rcases hp with ⟨rfl, hn⟩ | ⟨rfl, hn⟩ | ⟨rfl, hn⟩ | ⟨rfl, hn⟩
  · obtain rfl : ns = [] := List.eq_nil_of_length_eq_zero hn
    obtain ⟨bs, e1, e2, e3⟩ := text_of (show row.all _ = true from h2)
    refine ⟨bs, .rules bs, .rules bs, ?_, e3, ?_⟩
    · show (text? row).map _ = _
      rw [e1]; rfl
    · rw [e2]
      have h3 : (PyInside.each [] [] && PyInside.lists [(0, 255, 0, 29000)] [row]) = true := h1
      have := lists_few (Bool.and_eq_true _ _ ▸ h3 : _ ∧ _).2
      omega
  · obtain ⟨h, m, d, rfl⟩ : ∃ h m d, ns = [h, m, d] := by
      match ns, hn with
      | [h, m, d], _ => exact ⟨h, m, d, rfl⟩
    obtain ⟨bs, e1, e2, e3⟩ := text_of (show row.all _ = true from h2)
    refine ⟨bs, .weigh bs h m d, .weigh bs h m d, ?_, e3, ?_⟩
    · show (text? row).map _ = _
      rw [e1]; rfl
    · rw [e2]
      have h3 : (PyInside.each [(-2147483648, 2147483647), (-2147483648, 2147483647), (-2147483648, 2147483647)] [h, m, d] && PyInside.lists [(0, 255, 0, 29000)] [row]) = true := h1
      have := lists_few (Bool.and_eq_true _ _ ▸ h3 : _ ∧ _).2
      omega
  · obtain ⟨h, m, d, n, most, rfl⟩ : ∃ h m d n most, ns = [h, m, d, n, most] := by
      match ns, hn with
      | [h, m, d, n, most], _ => exact ⟨h, m, d, n, most, rfl⟩
    have h2' : (decide (0 ≤ n) && (decide (0 ≤ most) && row.all (fun (z : Int) => decide (0 ≤ z) && decide (z ≤ 255)))) = true := h2
    rw [Bool.and_eq_true, Bool.and_eq_true, decide_eq_true_iff, decide_eq_true_iff] at h2'
    obtain ⟨n0, m0, h2⟩ := h2'
    obtain ⟨n, rfl⟩ := Int.eq_ofNat_of_zero_le n0
    obtain ⟨most, rfl⟩ := Int.eq_ofNat_of_zero_le m0
    obtain ⟨bs, e1, e2, e3⟩ := text_of h2
    refine ⟨bs, .ahead bs h m d n most, .ahead bs h m d n most, ?_, e3, ?_⟩
    · show (do return TaflLook.Call.ahead (← text? row) h m d (← nat? (n : Int)) (← nat? (most : Int))) = _
      rw [e1, show nat? (n : Int) = some n from if_pos n0, show nat? (most : Int) = some most from if_pos m0]
      rfl
    · rw [e2]
      have h3 : (PyInside.each [(-2147483648, 2147483647), (-2147483648, 2147483647), (-2147483648, 2147483647), (0, 4294967295), (0, 4294967295)] [h, m, d, (n : Int), (most : Int)] && PyInside.lists [(0, 255, 0, 29000)] [row]) = true := h1
      have := lists_few (Bool.and_eq_true _ _ ▸ h3 : _ ∧ _).2
      omega
  · obtain ⟨h, m, d, n, most, rfl⟩ : ∃ h m d n most, ns = [h, m, d, n, most] := by
      match ns, hn with
      | [h, m, d, n, most], _ => exact ⟨h, m, d, n, most, rfl⟩
    have h2' : (decide (0 ≤ n) && (decide (0 ≤ most) && row.all (fun (z : Int) => decide (0 ≤ z) && decide (z ≤ 255)))) = true := h2
    rw [Bool.and_eq_true, Bool.and_eq_true, decide_eq_true_iff, decide_eq_true_iff] at h2'
    obtain ⟨n0, m0, h2⟩ := h2'
    obtain ⟨n, rfl⟩ := Int.eq_ofNat_of_zero_le n0
    obtain ⟨most, rfl⟩ := Int.eq_ofNat_of_zero_le m0
    obtain ⟨bs, e1, e2, e3⟩ := text_of h2
    refine ⟨bs, .each bs h m d n most, .each bs h m d n most, ?_, e3, ?_⟩
    · show (do return TaflLook.Call.each (← text? row) h m d (← nat? (n : Int)) (← nat? (most : Int))) = _
      rw [e1, show nat? (n : Int) = some n from if_pos n0, show nat? (most : Int) = some most from if_pos m0]
      rfl
    · rw [e2]
      have h3 : (PyInside.each [(-2147483648, 2147483647), (-2147483648, 2147483647), (-2147483648, 2147483647), (0, 4294967295), (0, 4294967295)] [h, m, d, (n : Int), (most : Int)] && PyInside.lists [(0, 255, 0, 29000)] [row]) = true := h1
      have := lists_few (Bool.and_eq_true _ _ ▸ h3 : _ ∧ _).2
      omega
/-- what the whole is -/
def toldL (s : TaflLook.State) (cs : List (List (List Int))) : List Int := PyFlat.told (PyFlat.played TaflLookNeutral.step s cs)
theorem told_nil (s : TaflLook.State) : toldL s [] = [] := rfl
theorem told_cons (s : TaflLook.State) {c : List (List Int)} {x : TaflLook.Call} (h : TaflLookNeutral.callOf c = some x) (cs : List (List (List Int))) :
    toldL s (c :: cs) = (((TaflLook.step s x).2.nums.length : Int) :: (TaflLook.step s x).2.nums) ++ toldL (TaflLook.step s x).1 cs := by
  have e : TaflLookNeutral.step s c = ((TaflLook.step s x).1, (TaflLook.step s x).2.nums) := by
    unfold TaflLookNeutral.step
    rw [h]
  show ((((TaflLookNeutral.step s c).2.length : Int) :: (TaflLookNeutral.step s c).2) ++ PyFlat.told (PyFlat.played TaflLookNeutral.step (TaflLookNeutral.step s c).1 cs)) = _
  rw [e]
  rfl
theorem asked_all {l : List Int} (h : PyWqacdd.answers_asked l = true) : ∃ raw, PyFlat.calls PyWqacdd.shape l.length l = some raw ∧ raw.length ≤ 300 ∧ (∀ c ∈ raw, okCall c) ∧ PyWqacdd.answers l = toldL none raw := by
  unfold PyWqacdd.answers_asked at h
  cases e : PyFlat.calls PyWqacdd.shape l.length l with
  | none => rw [e] at h; cases h
  | some raw =>
    rw [e] at h
    have h' : (!raw.isEmpty && PyFlat.atMost 300 raw && PyInside.calls PyWqacdd.bound raw && TaflLookNeutral.asked (raw.map PyWqacdd.whole)) = true := h
    rw [wholes_eq, Bool.and_eq_true, Bool.and_eq_true, Bool.and_eq_true] at h'
    obtain ⟨⟨⟨_, h2⟩, h3⟩, h4⟩ := h'
    refine ⟨raw, rfl, of_decide_eq_true h2, fun c hc => ⟨(List.all_eq_true.mp h3) c hc, ?_⟩, ?_⟩
    · have h5 : (!raw.isEmpty && raw.all TaflLookNeutral.asked1) = true := h4
      rw [Bool.and_eq_true] at h5
      exact (List.all_eq_true.mp h5.2) c hc
    · unfold PyWqacdd.answers PyWqacdd.calls
      rw [e]
      show PyFlat.told (PyFlat.played TaflLookNeutral.step TaflLookNeutral.start (raw.map PyWqacdd.whole)) = _
      rw [wholes_eq]
      rfl
/-! ### how many numbers are answered -/
theorem all_few (s : Option Rules) (b : Bytes) (w : Weights) (f : Rules → Pos → Answer) (n : Nat) (hn : 3 ≤ n) (h : ∀ r p, (f r p).nums.length ≤ n) : (ofAll s b w f).2.nums.length ≤ n := by
  cases s with
  | none => exact Nat.le_trans (by decide : 1 ≤ 3) hn
  | some r =>
    cases e : r.readLine b with
    | error y =>
      obtain ⟨k, p⟩ := y
      rw [all_err e]
      exact hn
    | ok p =>
      cases hR : w.right with
      | false =>
        rw [all_bad e hR]
        exact Nat.le_trans (by decide : 1 ≤ 3) hn
      | true =>
        rw [all_ok e hR]
        exact h r p
theorem look_few (r : Rules) (p : Pos) (least n most : Nat) (f : Unit → Answer) (m : Nat) (hm : 3 ≤ m) (h : (f ()).nums.length ≤ m ∨ ¬ n ≤ 4) : (looked r p least n most f).nums.length ≤ m := by
  by_cases hc : least ≤ n ∧ n ≤ 4 ∧ 1 ≤ most ∧ most ≤ 600
  · by_cases h2 : cnt r n p ≤ most
    · rw [look_ok hc h2]
      exact h.resolve_right fun z => z hc.2.1
    · rw [look_many hc h2]
      exact Nat.le_trans (by decide : 1 ≤ 3) hm
  · rw [look_bad hc]
    exact Nat.le_trans (by decide : 1 ≤ 3) hm
theorem nums_few (s : TaflLook.State) (c : TaflLook.Call) : (TaflLook.step s c).2.nums.length ≤ 40002 := by
  cases c with
  | rules b =>
    show (match Tafl.judge b with | .error (k, p) => (s, fault (-6) k p) | .ok r => (some r, says 0)).2.nums.length ≤ _
    cases Tafl.judge b with
    | error y => show 3 ≤ _; decide
    | ok r => show 1 ≤ _; decide
  | weigh b h m d => exact all_few _ _ _ _ _ (by decide) fun r p => by show 2 ≤ _; decide
  | ahead b h m d n most =>
    refine all_few _ _ _ _ _ (by decide) fun r p => look_few _ _ _ _ _ _ _ (by decide) ?_
    by_cases hn : n ≤ 4
    · refine .inl ?_
      show ((0 : Int) :: ([r.worth ⟨h, m, d⟩ n 0 p] ++ ((((rowsL r ⟨h, m, d⟩ n 0 p).length : Int) :: (rowsL r ⟨h, m, d⟩ n 0 p).flatMap rowN) ++ []))).length ≤ _
      simp only [List.append_nil, List.length_cons, List.length_append, List.length_nil]
      have h1 := rowN_all (rowsL r ⟨h, m, d⟩ n 0 p) (rows_each r ⟨h, m, d⟩ n 0 p)
      have h2 := rows_few r ⟨h, m, d⟩ n 0 p
      have h3 := Nat.mul_le_mul_right 201 (Nat.le_trans h2 hn)
      omega
    · exact .inr hn
  | each b h m d n most =>
    refine all_few _ _ _ _ _ (by decide) fun r p => look_few _ _ _ _ _ _ _ (by decide) (.inl ?_)
    show ((0 : Int) :: (((((r.moves p).map fun (x : Nat × Nat) => r.worth ⟨h, m, d⟩ (n - 1) 1 (r.comes p x)).length : Int) :: (r.moves p).map fun (x : Nat × Nat) => r.worth ⟨h, m, d⟩ (n - 1) 1 (r.comes p x)) ++ [])).length ≤ _
    rw [List.append_nil, List.length_cons, List.length_cons, List.length_map]
    have := moves_few r p
    omega
end TfP

set_option maxRecDepth 100000
set_option maxHeartbeats 1000000
/-! # answers -/
namespace TfP
theorem at_drop {α : Type} {l r : List α} {k : Nat} (h : l.drop k = r) (i : Nat) : l[k + i]? = r[i]? := by rw [← h, List.getElem?_drop]
theorem drop_more {α : Type} {l a b : List α} {k : Nat} (h : l.drop k = a ++ b) : l.drop (k + a.length) = b := by rw [← List.drop_drop, h, List.drop_left]
end TfP
namespace Tf
open PySem PySem.Spec PyProof.Rows L2 TfP
theorem DeskAt.keepL {A : Adr} {H H' : Hp} {a fo : Addr} {s : Option Tafl.Rules} {xs : List V} (h : DeskAt A H a s) (k : Kp (· = fo) H H') (e : H fo = some (.lst xs)) : DeskAt A H' a s := by
  obtain ⟨dx, v, h1, h2⟩ := h
  have o : ∀ b, b = fo → Off (fun _ => False) H b := fun b hb => .inl ⟨id, xs, (congrArg H hb).trans e⟩
  refine ⟨dx, v, k.keep _ _ h1 (ne_of h1 e (by intro z; cases z)), ?_⟩
  cases s with
  | none => exact h2
  | some r =>
    obtain ⟨ra, e2, z⟩ := h2
    exact ⟨ra, e2, z.keep k o⟩
section
variable {P : Program} {w : World} {K : PySem.W.Frag} {mg : Str → Option Value} {base : Heap} {A : Adr}
def sp_answers (K : PySem.W.Frag) : Sp := fun vs H Q _ => ∃ (ca : Addr) (l : List Int), vs = [.ref ca] ∧ SqL K H ca (l.map V.int) ∧ PyWqacdd.answers_asked l = true ∧ ∀ H' q, H' q = some (.lst ((PyWqacdd.answers l).map V.int)) → Same H H' → Q (.ref q) H'
theorem ok_answers (T : Txt K mg A) : FnOk P w K mg base CX0 21 A.f_answers A.d_answers ["calls"] (sp_answers K) := by
  refine T.F_answers.ok sc_answers (fun vs H Q E h => ?_) (fun cdv B outer s H vs Q E hr h => ?_)
  · obtain ⟨ca, l, rfl, _⟩ := h
    rfl
  · obtain ⟨ca, l, rfl, hca, hask, q⟩ := h
    obtain ⟨raw, hraw, few, hok, hans⟩ := asked_all hask
    rw [hans] at q
    refine ⟨_, (pss_cons (ps_set (i := 1) sc_answers.nd rfl (by first | exact .inl rfl | exact .inr rfl) (pe_make0 T.mk_Desk (ok_Desk___init__ T) (hr.mono (by decide)) rfl T.g_Desk T.b_Desk___init__ .nil pass0))
  (pss_cons (ps_set (i := 2) sc_answers.nd rfl (by first | exact .inl rfl | exact .inr rfl) (pe_lst pa_nil))
  (pss_cons (ps_set (i := 3) sc_answers.nd rfl (by first | exact .inl rfl | exact .inr rfl) pe_int)
  (pss_cons (ps_while PassesOwn.never (pt_cmpR op_gt (pe_op op_sub (pe_callB call_len (by rfl) T.n_len PySem.boot_len (pa_cons (pv 0) pa_nil)) (pv 3)) pe_int (nomark _))
  (pss_cons (ps_set (i := 4) sc_answers.nd rfl (by first | exact .inl rfl | exact .inr rfl) (pe_ix ix_list (pv 0) (pv 3) (fun _ _ => rfl)))
  (pss_cons (ps_set (i := 5) sc_answers.nd rfl (by first | exact .inl rfl | exact .inr rfl) (pe_op op_add (pe_op op_add (pv 3) pe_int) (pe_ix ix_tup (pe_gr T.g_NUMBERS) (pv 4) (fun _ _ => rfl))))
  (pss_cons (ps_set (i := 6) sc_answers.nd rfl (by first | exact .inl rfl | exact .inr rfl) (pe_op op_add (pe_op op_add (pv 5) pe_int) (pe_ix ix_list (pv 0) (pv 5) (fun _ _ => rfl))))
  (pss_cons (ps_set (i := 7) sc_answers.nd rfl (by first | exact .inl rfl | exact .inr rfl) (pe_meth (pv 1) T.cl_Desk T.m_Desk_answer (ok_Desk_answer T) (hr.mono (by decide)) T.b_Desk_answer .nil pass0 (pa_cons (pv 4) (pa_cons (pe_slice sl_list (pv 0) (po_some (pe_op op_add (pv 3) pe_int)) (po_some (pv 5))) (pa_cons (pe_slice sl_list (pv 0) (po_some (pe_op op_add (pv 5) pe_int)) (po_some (pv 6))) pa_nil)))))
  (pss_cons (ps_expr (pe_bm PySem.F.plainAttrs_list PySem.F.slot_list_append PySem.F.type_list_append mt_append (pv 2) (pa_cons (pe_callB call_len (by rfl) T.n_len PySem.boot_len (pa_cons (pv 7) pa_nil)) pa_nil)))
  (pss_cons (ps_expr (pe_bm PySem.F.plainAttrs_list PySem.F.slot_list_extend PySem.F.type_list_extend mt_extend (pv 2) (pa_cons (pv 7) pa_nil)))
  (pss_one (ps_set (i := 3) sc_answers.nd rfl (by first | exact .inl rfl | exact .inr rfl) (pv 6))))))))))
  (pss_one (ps_ret (pv 2))))))), ?_⟩
    refine fun a da na nda nad => ⟨a, da, rfl, upd_same, fun H1 ZD k1 => ⟨rfl, ?_⟩⟩
    have s1 : Same H H1 := Kp.noneSame (p := (· = a)) (((Kp.new nda).trans (Kp.new (by rw [upd_ne (Ne.symm nad)]; exact na))).trans k1) fun b hb => by rw [hb]; exact na
    refine ⟨by decide, fun fo nfo => ?_⟩
    have nfo0 : H fo = none := s1.free nfo
    refine ⟨fun m σ H' => ∃ (place : Nat) (cs : List (List (List Int))) (s : Option Tafl.Rules) (f : Nat) (out : List Int) (v4 v5 v6 v7 : Option V), σ = [some (.ref ca), some (.ref a), some (.ref fo), some (.int (place : Int)), v4, v5, v6, v7] ∧ Same H H' ∧ DeskAt A H' a s ∧ H' fo = some (.lst (out.map V.int)) ∧
        place ≤ l.length ∧ PyFlat.calls PyWqacdd.shape f (l.drop place) = some cs ∧ (∀ c ∈ cs, okCall c) ∧ toldL none raw = out ++ toldL s cs ∧ cs.length = m ∧ out.length + m * 40003 ≤ 12000900,
      ⟨raw.length, 0, raw, none, l.length, [], none, none, none, none, rfl, s1.trans (same_new nfo), ZD.same (same_new nfo), upd_same, Nat.zero_le _, hraw, hok, rfl, rfl, by rw [List.length_nil]; omega⟩, fun m σ H2 hW => ?_⟩
    obtain ⟨place, cs, s, f, out, v4, v5, v6, v7, rfl, s2, ZD2, hfo, hpl, hcs, hok2, htold, hm, hsz⟩ := hW
    have hca2 := s2.seq hca
    refine ⟨_, rfl, _, l.length, rfl, .inl ⟨_, hca2, (List.length_map _).symm⟩, _, rfl, _, _, rfl, rfl, _, _, rfl, rfl, _, rfl, ?_⟩
    cases cs with
    | nil =>
      have hd := calls_end hcs
      have hlen : l.length ≤ place := by rw [List.drop_eq_nil_iff] at hd; exact hd
      refine if_f (decide_eq_false (by omega)) ⟨_, rfl, q H2 fo ?_ s2⟩
      rw [hfo, htold, told_nil, List.append_nil]
    | cons c cs =>
      cases hdr : l.drop place with
      | nil =>
        rw [hdr] at hcs
        cases f <;> cases hcs
      | cons p r =>
      rw [hdr] at hcs
      have hlt : place < l.length := by
        have := congrArg List.length hdr
        rw [List.length_drop, List.length_cons] at this
        omega
      refine if_t (decide_eq_true (by omega)) ?_
      obtain ⟨ns, row, t, f', cs', hsh, rfl, e, hcs'⟩ := calls_cons hcs
      cases e
      obtain ⟨bs, cl, hC, hcall, hrow, hbs⟩ := call_of hsh (hok2 _ List.mem_cons_self)
      subst hm
      refine ⟨fun σ' H' => _, fun σ' H' hN => ⟨cs.length, Nat.lt_succ_self _, hN⟩, ?_⟩
      -- where the parts stand
      have d0 : l.drop place = [p] ++ (ns ++ ((row.length : Int) :: (row ++ t))) := hdr
      have d1 : l.drop (place + 1) = ns ++ ((row.length : Int) :: (row ++ t)) := drop_more d0
      have d2 : l.drop (place + 1 + ns.length) = [(row.length : Int)] ++ (row ++ t) := drop_more d1
      have d3 : l.drop (place + 1 + ns.length + 1) = row ++ t := drop_more d2
      have d4 : l.drop (place + 1 + ns.length + 1 + row.length) = t := drop_more d3
      have le3 : place + 1 + ns.length + 1 + row.length ≤ l.length := by
        have := congrArg List.length d3
        rw [List.length_drop, List.length_append] at this
        have h2 := congrArg List.length d2
        rw [List.length_drop, List.length_append] at h2
        have h3 : ([(row.length : Int)] : List Int).length = 1 := rfl
        rw [h3, List.length_append] at h2
        omega
      have a0 : atI (l.map V.int) (place : Int) = some (.int p) := atI_nat (by rw [List.getElem?_map, show l[place]? = some p from (at_drop hdr 0)]; rfl)
      have a1 : atI (l.map V.int) ((place : Int) + 1 + (ns.length : Int)) = some (.int (row.length : Int)) := by
        rw [show (place : Int) + 1 + (ns.length : Int) = ((place + 1 + ns.length : Nat) : Int) by omega]
        exact atI_nat (by rw [List.getElem?_map, show l[place + 1 + ns.length]? = some (row.length : Int) from (at_drop d2 0)]; rfl)
      have c1 : cutV (l.map V.int) (some ((place : Int) + 1)) (some ((place : Int) + 1 + (ns.length : Int))) = ns.map V.int := by
        rw [show (place : Int) + 1 + (ns.length : Int) = ((place + 1 + ns.length : Nat) : Int) by omega, show (place : Int) + 1 = ((place + 1 : Nat) : Int) by omega]
        rw [cut_nat _ _ _ (by rw [List.length_map]; omega) (by rw [List.length_map]; omega), ← List.map_drop, d1, Nat.add_sub_cancel_left, ← List.map_take, List.take_left]
      have c2 : cutV (l.map V.int) (some ((place : Int) + 1 + (ns.length : Int) + 1)) (some ((place : Int) + 1 + (ns.length : Int) + 1 + (row.length : Int))) = row.map V.int := by
        rw [show (place : Int) + 1 + (ns.length : Int) + 1 + (row.length : Int) = ((place + 1 + ns.length + 1 + row.length : Nat) : Int) by omega, show (place : Int) + 1 + (ns.length : Int) + 1 = ((place + 1 + ns.length + 1 : Nat) : Int) by omega]
        rw [cut_nat _ _ _ (by rw [List.length_map]; omega) (by rw [List.length_map]; omega), ← List.map_drop, d3, Nat.add_sub_cancel_left, ← List.map_take, List.take_left]
      obtain ⟨k, rfl, hk⟩ : ∃ k : Nat, p = (k : Int) ∧ ([V.int 0, V.int 3, V.int 5, V.int 5] : List V)[k]? = some (.int (ns.length : Int)) := by
        obtain ⟨_, ⟨rfl, e⟩ | ⟨rfl, e⟩ | ⟨rfl, e⟩ | ⟨rfl, e⟩⟩ := shape_cases hsh
        · exact ⟨0, rfl, by rw [e]; rfl⟩
        · exact ⟨1, rfl, by rw [e]; rfl⟩
        · exact ⟨2, rfl, by rw [e]; rfl⟩
        · exact ⟨3, rfl, by rw [e]; rfl⟩
      refine ⟨_, rfl, _, rfl, ca, _, _, _, rfl, rfl, hca2, a0, ?_⟩
      refine ⟨_, rfl, _, _, rfl, rfl, _, rfl, A.a_NUMBERS, _, _, _, rfl, rfl, T.t_NUMBERS.sq _, atI_nat (j := k) hk, _, _, rfl, rfl, ?_⟩
      refine ⟨_, rfl, _, _, rfl, rfl, _, rfl, _, rfl, ca, _, _, _, rfl, rfl, hca2, a1, _, _, rfl, rfl, ?_⟩
      obtain ⟨da2, v, ha2, hv⟩ := id ZD2
      refine ⟨_, rfl, a, da2, _, rfl, ha2, (by kernel_rfl), _, rfl, _, rfl, _, rfl, _, _, rfl, rfl, _, rfl, _, rfl, _, rfl, ca, _, rfl, hca2, fun w1 nw1 => ?_⟩
      have s3 := same_new (o := .lst (cutV (l.map V.int) (some ((place : Int) + 1)) (some ((place : Int) + 1 + (ns.length : Int))))) nw1
      have hw1 := (upd_same (H := H2) (a := w1) (o := .lst (cutV (l.map V.int) (some ((place : Int) + 1)) (some ((place : Int) + 1 + (ns.length : Int)))))).trans (congrArg (fun z => some (HO.lst z)) c1)
      refine ⟨_, rfl, _, rfl, _, _, rfl, rfl, _, rfl, _, rfl, _, rfl, ca, _, rfl, s3.seq hca2, fun w2 nw2 => ?_⟩
      have s4 := same_new (o := .lst (cutV (l.map V.int) (some ((place : Int) + 1 + (ns.length : Int) + 1)) (some ((place : Int) + 1 + (ns.length : Int) + 1 + (row.length : Int))))) nw2
      have hw2 := (upd_same (H := upd H2 w1 (.lst (cutV (l.map V.int) (some ((place : Int) + 1)) (some ((place : Int) + 1 + (ns.length : Int)))))) (a := w2) (o := .lst (cutV (l.map V.int) (some ((place : Int) + 1 + (ns.length : Int) + 1)) (some ((place : Int) + 1 + (ns.length : Int) + 1 + (row.length : Int)))))).trans (congrArg (fun z => some (HO.lst z)) c2)
      have hw1 := s4 _ _ hw1
      have s34 := s3.trans s4
      generalize upd (upd H2 w1 (.lst (cutV (l.map V.int) (some ((place : Int) + 1)) (some ((place : Int) + 1 + (ns.length : Int)))))) w2 (.lst (cutV (l.map V.int) (some ((place : Int) + 1 + (ns.length : Int) + 1)) (some ((place : Int) + 1 + (ns.length : Int) + 1 + (row.length : Int))))) = H3 at hw1 hw2 s34 ⊢
      have hbv : SqL K H3 w2 (bV bs) := SqL.of (by
        rw [hw2, ← hrow, List.map_map]
        rfl)
      refine ⟨a, s, (k : Int), w1, w2, ns, bs, cl, rfl, ZD2.same s34, hC, hw1, hbv, hbs, fun H4 lt ZD4 k4 nlt hlt2 => ?_⟩
      have hfo3 := s34 _ _ hfo
      have nfa : fo ≠ a := fun z => by rw [z, ha2] at hfo; cases hfo
      have hfo4 := k4.keep _ _ hfo3 nfa
      have nltf : lt ≠ fo := fun z => by rw [z, hfo3] at nlt; cases nlt
      have hnf := nums_few s cl
      have s04 : Same H H4 := ((Kp.of (p := fun _ => False) (s2.trans s34)).fresh (p := (· = a)) (k4.mono fun b z => .inl z) fun x hx => by rw [hx]; exact na).same
      rw [told_cons s hcall] at htold
      generalize hnums : (TaflLook.step s cl).2.nums = nums at hlt2 hnf htold
      refine ⟨_, rfl, .inl ⟨rfl, _, SqL.of hfo4⟩, _, rfl, _, nums.length, rfl, .inl ⟨_, SqL.of hlt2, (List.length_map _).symm⟩, fo, _, _, rfl, rfl, hfo4, ?_, ?_⟩
      · rw [List.length_map, sizeLine_eq]
        rw [List.length_cons] at hsz
        omega
      have kF : Kp (· = fo) H4 (upd H4 fo (.lst (out.map V.int ++ [V.int (nums.length : Int)]))) := Kp.upd rfl
      have hfo5 : (upd H4 fo (.lst (out.map V.int ++ [V.int (nums.length : Int)]))) fo = some (.lst (out.map V.int ++ [V.int (nums.length : Int)])) := upd_same
      have hlt5 := kF.keep _ _ hlt2 nltf
      have ZD5 := ZD4.keepL kF hfo4
      have s05 := same_put (o := .lst (out.map V.int ++ [V.int (nums.length : Int)])) s04 nfo0
      generalize upd H4 fo (.lst (out.map V.int ++ [V.int (nums.length : Int)])) = H5 at hfo5 hlt5 ZD5 s05 ⊢
      refine ⟨_, rfl, .inl ⟨rfl, _, SqL.of hfo5⟩, _, rfl, fo, lt, _, nums.map V.int, rfl, rfl, hfo5, hlt5, ?_, ?_⟩
      · rw [List.length_append, List.length_map, List.length_map, sizeLine_eq]
        rw [List.length_cons] at hsz
        show _ + 1 + _ ≤ _
        omega
      have kG : Kp (· = fo) H5 (upd H5 fo (.lst (out.map V.int ++ [V.int (nums.length : Int)] ++ nums.map V.int))) := Kp.upd rfl
      refine ⟨_, rfl, ?_⟩
      refine ⟨place + 1 + ns.length + 1 + row.length, cs, (TaflLook.step s cl).1, f', out ++ ((nums.length : Int) :: nums), some (.int (k : Int)), some (.int ((place : Int) + 1 + (ns.length : Int))), some (.int ((place : Int) + 1 + (ns.length : Int) + 1 + (row.length : Int))), some (.ref lt), ?_, same_put s05 nfo0, ZD5.keepL kG hfo5, ?_, le3, ?_, fun c hc => hok2 c (List.mem_cons_of_mem _ hc), ?_, rfl, ?_⟩
      · exact congrArg (fun z : Int => [some (V.ref ca), some (.ref a), some (.ref fo), some (.int z), some (.int (k : Int)), some (.int ((place : Int) + 1 + (ns.length : Int))), some (.int ((place : Int) + 1 + (ns.length : Int) + 1 + (row.length : Int))), some (.ref lt)]) (show (place : Int) + 1 + (ns.length : Int) + 1 + (row.length : Int) = ((place + 1 + ns.length + 1 + row.length : Nat) : Int) by omega)
      · rw [upd_same, List.map_append, List.map_cons, List.append_assoc]
        rfl
      · rw [d4]; exact hcs'
      · rw [htold, List.append_assoc]
      · rw [List.length_append, List.length_cons]
        rw [List.length_cons] at hsz
        omega
end
end Tf

set_option maxRecDepth 100000
set_option maxHeartbeats 4000000
/-! # What the top has written -/
namespace Tf
open PySem PySem.Spec PyProof.Rows L2
/-- an error of the class at S is what «except S» names -/
theorem exm_self {K : PySem.W.Frag} {S : Addr} (h1 : PySem.W.subIn K (.ref S) (.type "BaseException") = some true) (h2 : PySem.W.isClsIn K S = true) (h3 : PySem.W.typeIn K (.ref S) = some (.type "type")) (h4 : PySem.W.subIn K (.ref S) (.ref S) = some true) :
    PySem.W.exmOne K (.ref S) (.ref S) = some true := by
  have e1 : (PySem.W.subIn K (.ref S) (.type "BaseException") == some true) = true := by rw [h1] <;> rfl
  have e2 : ((PySem.W.clsIn K S).isSome && PySem.W.typeIn K (.ref S) == some (.type "type")) = true := by
    have h2' : (PySem.W.clsIn K S).isSome = true := h2
    rw [h2', h3] <;> rfl
  show (if (PySem.W.subIn K (.ref S) (.type "BaseException") == some true) = true then (if ((PySem.W.clsIn K S).isSome && PySem.W.typeIn K (.ref S) == some (.type "type")) = true then PySem.W.subIn K (.ref S) (.ref S) else none) else none) = some true
  rw [if_pos e1, if_pos e2]
  exact h4
theorem all_mk {K : PySem.W.Frag} {h : Heap} {mg : Str → Option Value} (X : K.In h) (G : h.Ns mainGlobals mg)
    {c_Fault c_Bytes c_Rules c_Position c_LineReader c_TooMany c_Node c_Looking c_Refused c_Desk f_Fault___init__ f_Bytes___init__ f_Bytes_next_byte f_Bytes_want f_Bytes_is_one_of f_Bytes_take f_Bytes_literal f_Bytes_line_end f_Bytes_choice f_Bytes_size f_Bytes_limit f_Bytes_name f_Bytes_finish f_is_letter f_Rules___init__ f_Rules_is_edge f_Rules_is_goal f_Rules_has f_Rules_may_stand f_Rules_settle f_rows_read f_head_read f_king_read f_rest_read f_second_of f_wrong_pieces f_is_goal_wrong f_lacks f_read_rules f_second_seats f_Position___init__ f_Position_has_piece f_LineReader___init__ f_LineReader_gap f_LineReader_piece f_LineReader_row f_LineReader_line f_read_position f_beside f_is_free f_may_stop f_may_go_over f_goals_of f_king_goals f_movers f_moves_of f_has_move f_is_against f_has_hunter_or_against f_is_helper f_taken_hunters f_is_king_shut f_taken_men f_gone_to f_made f_over_by f_have_hunters_won f_weighed f_Node___init__ f_Looking___init__ f_Looking_node f_worth f_branch_worths f_row_of f_Refused___init__ f_want f_Desk___init__ f_Desk_set_rules f_Desk_position_in f_Desk_weigh f_Desk_looked f_Desk_ahead f_Desk_each f_Desk_done f_Desk_answer f_answers a_SIDES a_ENMITIES a_WAYS a_AGAINST_HUNTERS a_AGAINST_MEN a_NUMBERS a_WAY0 a_WAY1 a_WAY2 a_WAY3 : Addr}
    {od_Fault___init__ an_Fault___init__ od_Bytes___init__ an_Bytes___init__ od_Bytes_next_byte an_Bytes_next_byte od_Bytes_want an_Bytes_want od_Bytes_is_one_of an_Bytes_is_one_of od_Bytes_take an_Bytes_take od_Bytes_literal an_Bytes_literal od_Bytes_line_end an_Bytes_line_end od_Bytes_choice an_Bytes_choice od_Bytes_size an_Bytes_size od_Bytes_limit an_Bytes_limit od_Bytes_name an_Bytes_name od_Bytes_finish an_Bytes_finish od_is_letter an_is_letter od_Rules___init__ an_Rules___init__ od_Rules_is_edge an_Rules_is_edge od_Rules_is_goal an_Rules_is_goal od_Rules_has an_Rules_has od_Rules_may_stand an_Rules_may_stand od_Rules_settle an_Rules_settle od_rows_read an_rows_read od_head_read an_head_read od_king_read an_king_read od_rest_read an_rest_read od_second_of an_second_of od_wrong_pieces an_wrong_pieces od_is_goal_wrong an_is_goal_wrong od_lacks an_lacks od_read_rules an_read_rules od_second_seats an_second_seats od_Position___init__ an_Position___init__ od_Position_has_piece an_Position_has_piece od_LineReader___init__ an_LineReader___init__ od_LineReader_gap an_LineReader_gap od_LineReader_piece an_LineReader_piece od_LineReader_row an_LineReader_row od_LineReader_line an_LineReader_line od_read_position an_read_position od_beside an_beside od_is_free an_is_free od_may_stop an_may_stop od_may_go_over an_may_go_over od_goals_of an_goals_of od_king_goals an_king_goals od_movers an_movers od_moves_of an_moves_of od_has_move an_has_move od_is_against an_is_against od_has_hunter_or_against an_has_hunter_or_against od_is_helper an_is_helper od_taken_hunters an_taken_hunters od_is_king_shut an_is_king_shut od_taken_men an_taken_men od_gone_to an_gone_to od_made an_made od_over_by an_over_by od_have_hunters_won an_have_hunters_won od_weighed an_weighed od_Node___init__ an_Node___init__ od_Looking___init__ an_Looking___init__ od_Looking_node an_Looking_node od_worth an_worth od_branch_worths an_branch_worths od_row_of an_row_of od_Refused___init__ an_Refused___init__ od_want an_want od_Desk___init__ an_Desk___init__ od_Desk_set_rules an_Desk_set_rules od_Desk_position_in an_Desk_position_in od_Desk_weigh an_Desk_weigh od_Desk_looked an_Desk_looked od_Desk_ahead an_Desk_ahead od_Desk_each an_Desk_each od_Desk_done an_Desk_done od_Desk_answer an_Desk_answer od_answers an_answers : Option Addr}
    {sl_Fault___init__ sl_Bytes___init__ sl_Bytes_next_byte sl_Bytes_want sl_Bytes_is_one_of sl_Bytes_take sl_Bytes_literal sl_Bytes_line_end sl_Bytes_choice sl_Bytes_size sl_Bytes_limit sl_Bytes_name sl_Bytes_finish sl_is_letter sl_Rules___init__ sl_Rules_is_edge sl_Rules_is_goal sl_Rules_has sl_Rules_may_stand sl_Rules_settle sl_rows_read sl_head_read sl_king_read sl_rest_read sl_second_of sl_wrong_pieces sl_is_goal_wrong sl_lacks sl_read_rules sl_second_seats sl_Position___init__ sl_Position_has_piece sl_LineReader___init__ sl_LineReader_gap sl_LineReader_piece sl_LineReader_row sl_LineReader_line sl_read_position sl_beside sl_is_free sl_may_stop sl_may_go_over sl_goals_of sl_king_goals sl_movers sl_moves_of sl_has_move sl_is_against sl_has_hunter_or_against sl_is_helper sl_taken_hunters sl_is_king_shut sl_taken_men sl_gone_to sl_made sl_over_by sl_have_hunters_won sl_weighed sl_Node___init__ sl_Looking___init__ sl_Looking_node sl_worth sl_branch_worths sl_row_of sl_Refused___init__ sl_want sl_Desk___init__ sl_Desk_set_rules sl_Desk_position_in sl_Desk_weigh sl_Desk_looked sl_Desk_ahead sl_Desk_each sl_Desk_done sl_Desk_answer sl_answers s_SIDES s_ENMITIES s_WAYS s_AGAINST_HUNTERS s_AGAINST_MEN s_NUMBERS s_WAY0 s_WAY1 s_WAY2 s_WAY3 : Array (Option Value)}
    {oc_Fault___init__ kV_Fault___init__ dc_Fault___init__ pm_Fault___init__ cd_Fault___init__ ct_Fault___init__ oc_Bytes___init__ kV_Bytes___init__ dc_Bytes___init__ pm_Bytes___init__ cd_Bytes___init__ ct_Bytes___init__ oc_Bytes_next_byte kV_Bytes_next_byte dc_Bytes_next_byte pm_Bytes_next_byte cd_Bytes_next_byte ct_Bytes_next_byte oc_Bytes_want kV_Bytes_want dc_Bytes_want pm_Bytes_want cd_Bytes_want ct_Bytes_want oc_Bytes_is_one_of kV_Bytes_is_one_of dc_Bytes_is_one_of pm_Bytes_is_one_of cd_Bytes_is_one_of ct_Bytes_is_one_of oc_Bytes_take kV_Bytes_take dc_Bytes_take pm_Bytes_take cd_Bytes_take ct_Bytes_take oc_Bytes_literal kV_Bytes_literal dc_Bytes_literal pm_Bytes_literal cd_Bytes_literal ct_Bytes_literal oc_Bytes_line_end kV_Bytes_line_end dc_Bytes_line_end pm_Bytes_line_end cd_Bytes_line_end ct_Bytes_line_end oc_Bytes_choice kV_Bytes_choice dc_Bytes_choice pm_Bytes_choice cd_Bytes_choice ct_Bytes_choice oc_Bytes_size kV_Bytes_size dc_Bytes_size pm_Bytes_size cd_Bytes_size ct_Bytes_size oc_Bytes_limit kV_Bytes_limit dc_Bytes_limit pm_Bytes_limit cd_Bytes_limit ct_Bytes_limit oc_Bytes_name kV_Bytes_name dc_Bytes_name pm_Bytes_name cd_Bytes_name ct_Bytes_name oc_Bytes_finish kV_Bytes_finish dc_Bytes_finish pm_Bytes_finish cd_Bytes_finish ct_Bytes_finish oc_is_letter kV_is_letter dc_is_letter pm_is_letter cd_is_letter ct_is_letter oc_Rules___init__ kV_Rules___init__ dc_Rules___init__ pm_Rules___init__ cd_Rules___init__ ct_Rules___init__ oc_Rules_is_edge kV_Rules_is_edge dc_Rules_is_edge pm_Rules_is_edge cd_Rules_is_edge ct_Rules_is_edge oc_Rules_is_goal kV_Rules_is_goal dc_Rules_is_goal pm_Rules_is_goal cd_Rules_is_goal ct_Rules_is_goal oc_Rules_has kV_Rules_has dc_Rules_has pm_Rules_has cd_Rules_has ct_Rules_has oc_Rules_may_stand kV_Rules_may_stand dc_Rules_may_stand pm_Rules_may_stand cd_Rules_may_stand ct_Rules_may_stand oc_Rules_settle kV_Rules_settle dc_Rules_settle pm_Rules_settle cd_Rules_settle ct_Rules_settle oc_rows_read kV_rows_read dc_rows_read pm_rows_read cd_rows_read ct_rows_read oc_head_read kV_head_read dc_head_read pm_head_read cd_head_read ct_head_read oc_king_read kV_king_read dc_king_read pm_king_read cd_king_read ct_king_read oc_rest_read kV_rest_read dc_rest_read pm_rest_read cd_rest_read ct_rest_read oc_second_of kV_second_of dc_second_of pm_second_of cd_second_of ct_second_of oc_wrong_pieces kV_wrong_pieces dc_wrong_pieces pm_wrong_pieces cd_wrong_pieces ct_wrong_pieces oc_is_goal_wrong kV_is_goal_wrong dc_is_goal_wrong pm_is_goal_wrong cd_is_goal_wrong ct_is_goal_wrong oc_lacks kV_lacks dc_lacks pm_lacks cd_lacks ct_lacks oc_read_rules kV_read_rules dc_read_rules pm_read_rules cd_read_rules ct_read_rules oc_second_seats kV_second_seats dc_second_seats pm_second_seats cd_second_seats ct_second_seats oc_Position___init__ kV_Position___init__ dc_Position___init__ pm_Position___init__ cd_Position___init__ ct_Position___init__ oc_Position_has_piece kV_Position_has_piece dc_Position_has_piece pm_Position_has_piece cd_Position_has_piece ct_Position_has_piece oc_LineReader___init__ kV_LineReader___init__ dc_LineReader___init__ pm_LineReader___init__ cd_LineReader___init__ ct_LineReader___init__ oc_LineReader_gap kV_LineReader_gap dc_LineReader_gap pm_LineReader_gap cd_LineReader_gap ct_LineReader_gap oc_LineReader_piece kV_LineReader_piece dc_LineReader_piece pm_LineReader_piece cd_LineReader_piece ct_LineReader_piece oc_LineReader_row kV_LineReader_row dc_LineReader_row pm_LineReader_row cd_LineReader_row ct_LineReader_row oc_LineReader_line kV_LineReader_line dc_LineReader_line pm_LineReader_line cd_LineReader_line ct_LineReader_line oc_read_position kV_read_position dc_read_position pm_read_position cd_read_position ct_read_position oc_beside kV_beside dc_beside pm_beside cd_beside ct_beside oc_is_free kV_is_free dc_is_free pm_is_free cd_is_free ct_is_free oc_may_stop kV_may_stop dc_may_stop pm_may_stop cd_may_stop ct_may_stop oc_may_go_over kV_may_go_over dc_may_go_over pm_may_go_over cd_may_go_over ct_may_go_over oc_goals_of kV_goals_of dc_goals_of pm_goals_of cd_goals_of ct_goals_of oc_king_goals kV_king_goals dc_king_goals pm_king_goals cd_king_goals ct_king_goals oc_movers kV_movers dc_movers pm_movers cd_movers ct_movers oc_moves_of kV_moves_of dc_moves_of pm_moves_of cd_moves_of ct_moves_of oc_has_move kV_has_move dc_has_move pm_has_move cd_has_move ct_has_move oc_is_against kV_is_against dc_is_against pm_is_against cd_is_against ct_is_against oc_has_hunter_or_against kV_has_hunter_or_against dc_has_hunter_or_against pm_has_hunter_or_against cd_has_hunter_or_against ct_has_hunter_or_against oc_is_helper kV_is_helper dc_is_helper pm_is_helper cd_is_helper ct_is_helper oc_taken_hunters kV_taken_hunters dc_taken_hunters pm_taken_hunters cd_taken_hunters ct_taken_hunters oc_is_king_shut kV_is_king_shut dc_is_king_shut pm_is_king_shut cd_is_king_shut ct_is_king_shut oc_taken_men kV_taken_men dc_taken_men pm_taken_men cd_taken_men ct_taken_men oc_gone_to kV_gone_to dc_gone_to pm_gone_to cd_gone_to ct_gone_to oc_made kV_made dc_made pm_made cd_made ct_made oc_over_by kV_over_by dc_over_by pm_over_by cd_over_by ct_over_by oc_have_hunters_won kV_have_hunters_won dc_have_hunters_won pm_have_hunters_won cd_have_hunters_won ct_have_hunters_won oc_weighed kV_weighed dc_weighed pm_weighed cd_weighed ct_weighed oc_Node___init__ kV_Node___init__ dc_Node___init__ pm_Node___init__ cd_Node___init__ ct_Node___init__ oc_Looking___init__ kV_Looking___init__ dc_Looking___init__ pm_Looking___init__ cd_Looking___init__ ct_Looking___init__ oc_Looking_node kV_Looking_node dc_Looking_node pm_Looking_node cd_Looking_node ct_Looking_node oc_worth kV_worth dc_worth pm_worth cd_worth ct_worth oc_branch_worths kV_branch_worths dc_branch_worths pm_branch_worths cd_branch_worths ct_branch_worths oc_row_of kV_row_of dc_row_of pm_row_of cd_row_of ct_row_of oc_Refused___init__ kV_Refused___init__ dc_Refused___init__ pm_Refused___init__ cd_Refused___init__ ct_Refused___init__ oc_want kV_want dc_want pm_want cd_want ct_want oc_Desk___init__ kV_Desk___init__ dc_Desk___init__ pm_Desk___init__ cd_Desk___init__ ct_Desk___init__ oc_Desk_set_rules kV_Desk_set_rules dc_Desk_set_rules pm_Desk_set_rules cd_Desk_set_rules ct_Desk_set_rules oc_Desk_position_in kV_Desk_position_in dc_Desk_position_in pm_Desk_position_in cd_Desk_position_in ct_Desk_position_in oc_Desk_weigh kV_Desk_weigh dc_Desk_weigh pm_Desk_weigh cd_Desk_weigh ct_Desk_weigh oc_Desk_looked kV_Desk_looked dc_Desk_looked pm_Desk_looked cd_Desk_looked ct_Desk_looked oc_Desk_ahead kV_Desk_ahead dc_Desk_ahead pm_Desk_ahead cd_Desk_ahead ct_Desk_ahead oc_Desk_each kV_Desk_each dc_Desk_each pm_Desk_each cd_Desk_each ct_Desk_each oc_Desk_done kV_Desk_done dc_Desk_done pm_Desk_done cd_Desk_done ct_Desk_done oc_Desk_answer kV_Desk_answer dc_Desk_answer pm_Desk_answer cd_Desk_answer ct_Desk_answer oc_answers kV_answers dc_answers pm_answers cd_answers ct_answers : Value}
    {t_LINE_END t_FARTHEST t_MOST_LIMIT t_MOST_NAME t_GROUND t_START t_NO_TEXT t_SECOND_SEAT t_WRONG_PIECE_rules t_SECOND_KING t_NO_GOAL t_NOT_THERE t_HUNTERS t_KING t_WRONG_PIECE_positions t_NO_KING t_NOT_OVER t_KING_TAKEN t_AT_GOAL t_NO_MOVE t_END t_BAD t_NO_RULES t_BAD_LINE t_BAD_RULES t_BAD_WEIGHT t_TOO_MANY t_MOST_WEIGHT t_MOST_AHEAD t_MOST_MOVES t_EACH t_SIDES_0 t_SIDES_1 t_ENMITIES_0 t_ENMITIES_1 t_ENMITIES_2 t_ENMITIES_3 t_AGAINST_HUNTERS_0 t_AGAINST_HUNTERS_1 t_AGAINST_MEN_0 t_AGAINST_MEN_1 t_NUMBERS_0 t_NUMBERS_1 t_NUMBERS_2 t_NUMBERS_3 t_WAY0_0 t_WAY0_1 t_WAY1_0 t_WAY1_1 t_WAY2_0 t_WAY2_1 t_WAY3_0 t_WAY3_1 : Tok}
    {n_SIDES n_ENMITIES n_WAYS n_AGAINST_HUNTERS n_AGAINST_MEN n_NUMBERS n_WAY0 n_WAY1 n_WAY2 n_WAY3 : Nat}
    {nm_Fault q_Fault : Str} {N_Fault : Addr} {bs_Fault : List Value} {sn_Fault : List Str} {sub_Fault : List Value} {ab_Fault : Bool} {col_Fault : Option Bool} {dd_Fault : Option Addr} {m0_Fault m1_Fault m2_Fault m3_Fault m5_Fault : Option Value}
    {nm_Refused q_Refused : Str} {N_Refused : Addr} {bs_Refused : List Value} {sn_Refused : List Str} {sub_Refused : List Value} {ab_Refused : Bool} {col_Refused : Option Bool} {dd_Refused : Option Addr} {m0_Refused m1_Refused m2_Refused m3_Refused m5_Refused : Option Value}
    (gc_Fault : PySem.W.nsIn K mainGlobals "Fault" = some (some (.ref c_Fault)))
    (gc_Bytes : PySem.W.nsIn K mainGlobals "Bytes" = some (some (.ref c_Bytes)))
    (gc_Rules : PySem.W.nsIn K mainGlobals "Rules" = some (some (.ref c_Rules)))
    (gc_Position : PySem.W.nsIn K mainGlobals "Position" = some (some (.ref c_Position)))
    (gc_LineReader : PySem.W.nsIn K mainGlobals "LineReader" = some (some (.ref c_LineReader)))
    (gc_TooMany : PySem.W.nsIn K mainGlobals "TooMany" = some (some (.ref c_TooMany)))
    (gc_Node : PySem.W.nsIn K mainGlobals "Node" = some (some (.ref c_Node)))
    (gc_Looking : PySem.W.nsIn K mainGlobals "Looking" = some (some (.ref c_Looking)))
    (gc_Refused : PySem.W.nsIn K mainGlobals "Refused" = some (some (.ref c_Refused)))
    (gc_Desk : PySem.W.nsIn K mainGlobals "Desk" = some (some (.ref c_Desk)))
    (me_Fault___init__ : PySem.W.findIn K (.ref c_Fault) "__init__" = some (some (.ref f_Fault___init__)))
    (me_Bytes___init__ : PySem.W.findIn K (.ref c_Bytes) "__init__" = some (some (.ref f_Bytes___init__)))
    (me_Bytes_next_byte : PySem.W.findIn K (.ref c_Bytes) "next_byte" = some (some (.ref f_Bytes_next_byte)))
    (me_Bytes_want : PySem.W.findIn K (.ref c_Bytes) "want" = some (some (.ref f_Bytes_want)))
    (me_Bytes_is_one_of : PySem.W.findIn K (.ref c_Bytes) "is_one_of" = some (some (.ref f_Bytes_is_one_of)))
    (me_Bytes_take : PySem.W.findIn K (.ref c_Bytes) "take" = some (some (.ref f_Bytes_take)))
    (me_Bytes_literal : PySem.W.findIn K (.ref c_Bytes) "literal" = some (some (.ref f_Bytes_literal)))
    (me_Bytes_line_end : PySem.W.findIn K (.ref c_Bytes) "line_end" = some (some (.ref f_Bytes_line_end)))
    (me_Bytes_choice : PySem.W.findIn K (.ref c_Bytes) "choice" = some (some (.ref f_Bytes_choice)))
    (me_Bytes_size : PySem.W.findIn K (.ref c_Bytes) "size" = some (some (.ref f_Bytes_size)))
    (me_Bytes_limit : PySem.W.findIn K (.ref c_Bytes) "limit" = some (some (.ref f_Bytes_limit)))
    (me_Bytes_name : PySem.W.findIn K (.ref c_Bytes) "name" = some (some (.ref f_Bytes_name)))
    (me_Bytes_finish : PySem.W.findIn K (.ref c_Bytes) "finish" = some (some (.ref f_Bytes_finish)))
    (gf_is_letter : PySem.W.nsIn K mainGlobals "is_letter" = some (some (.ref f_is_letter)))
    (me_Rules___init__ : PySem.W.findIn K (.ref c_Rules) "__init__" = some (some (.ref f_Rules___init__)))
    (me_Rules_is_edge : PySem.W.findIn K (.ref c_Rules) "is_edge" = some (some (.ref f_Rules_is_edge)))
    (me_Rules_is_goal : PySem.W.findIn K (.ref c_Rules) "is_goal" = some (some (.ref f_Rules_is_goal)))
    (me_Rules_has : PySem.W.findIn K (.ref c_Rules) "has" = some (some (.ref f_Rules_has)))
    (me_Rules_may_stand : PySem.W.findIn K (.ref c_Rules) "may_stand" = some (some (.ref f_Rules_may_stand)))
    (me_Rules_settle : PySem.W.findIn K (.ref c_Rules) "settle" = some (some (.ref f_Rules_settle)))
    (gf_rows_read : PySem.W.nsIn K mainGlobals "rows_read" = some (some (.ref f_rows_read)))
    (gf_head_read : PySem.W.nsIn K mainGlobals "head_read" = some (some (.ref f_head_read)))
    (gf_king_read : PySem.W.nsIn K mainGlobals "king_read" = some (some (.ref f_king_read)))
    (gf_rest_read : PySem.W.nsIn K mainGlobals "rest_read" = some (some (.ref f_rest_read)))
    (gf_second_of : PySem.W.nsIn K mainGlobals "second_of" = some (some (.ref f_second_of)))
    (gf_wrong_pieces : PySem.W.nsIn K mainGlobals "wrong_pieces" = some (some (.ref f_wrong_pieces)))
    (gf_is_goal_wrong : PySem.W.nsIn K mainGlobals "is_goal_wrong" = some (some (.ref f_is_goal_wrong)))
    (gf_lacks : PySem.W.nsIn K mainGlobals "lacks" = some (some (.ref f_lacks)))
    (gf_read_rules : PySem.W.nsIn K mainGlobals "read_rules" = some (some (.ref f_read_rules)))
    (gf_second_seats : PySem.W.nsIn K mainGlobals "second_seats" = some (some (.ref f_second_seats)))
    (me_Position___init__ : PySem.W.findIn K (.ref c_Position) "__init__" = some (some (.ref f_Position___init__)))
    (me_Position_has_piece : PySem.W.findIn K (.ref c_Position) "has_piece" = some (some (.ref f_Position_has_piece)))
    (me_LineReader___init__ : PySem.W.findIn K (.ref c_LineReader) "__init__" = some (some (.ref f_LineReader___init__)))
    (me_LineReader_gap : PySem.W.findIn K (.ref c_LineReader) "gap" = some (some (.ref f_LineReader_gap)))
    (me_LineReader_piece : PySem.W.findIn K (.ref c_LineReader) "piece" = some (some (.ref f_LineReader_piece)))
    (me_LineReader_row : PySem.W.findIn K (.ref c_LineReader) "row" = some (some (.ref f_LineReader_row)))
    (me_LineReader_line : PySem.W.findIn K (.ref c_LineReader) "line" = some (some (.ref f_LineReader_line)))
    (gf_read_position : PySem.W.nsIn K mainGlobals "read_position" = some (some (.ref f_read_position)))
    (gf_beside : PySem.W.nsIn K mainGlobals "beside" = some (some (.ref f_beside)))
    (gf_is_free : PySem.W.nsIn K mainGlobals "is_free" = some (some (.ref f_is_free)))
    (gf_may_stop : PySem.W.nsIn K mainGlobals "may_stop" = some (some (.ref f_may_stop)))
    (gf_may_go_over : PySem.W.nsIn K mainGlobals "may_go_over" = some (some (.ref f_may_go_over)))
    (gf_goals_of : PySem.W.nsIn K mainGlobals "goals_of" = some (some (.ref f_goals_of)))
    (gf_king_goals : PySem.W.nsIn K mainGlobals "king_goals" = some (some (.ref f_king_goals)))
    (gf_movers : PySem.W.nsIn K mainGlobals "movers" = some (some (.ref f_movers)))
    (gf_moves_of : PySem.W.nsIn K mainGlobals "moves_of" = some (some (.ref f_moves_of)))
    (gf_has_move : PySem.W.nsIn K mainGlobals "has_move" = some (some (.ref f_has_move)))
    (gf_is_against : PySem.W.nsIn K mainGlobals "is_against" = some (some (.ref f_is_against)))
    (gf_has_hunter_or_against : PySem.W.nsIn K mainGlobals "has_hunter_or_against" = some (some (.ref f_has_hunter_or_against)))
    (gf_is_helper : PySem.W.nsIn K mainGlobals "is_helper" = some (some (.ref f_is_helper)))
    (gf_taken_hunters : PySem.W.nsIn K mainGlobals "taken_hunters" = some (some (.ref f_taken_hunters)))
    (gf_is_king_shut : PySem.W.nsIn K mainGlobals "is_king_shut" = some (some (.ref f_is_king_shut)))
    (gf_taken_men : PySem.W.nsIn K mainGlobals "taken_men" = some (some (.ref f_taken_men)))
    (gf_gone_to : PySem.W.nsIn K mainGlobals "gone_to" = some (some (.ref f_gone_to)))
    (gf_made : PySem.W.nsIn K mainGlobals "made" = some (some (.ref f_made)))
    (gf_over_by : PySem.W.nsIn K mainGlobals "over_by" = some (some (.ref f_over_by)))
    (gf_have_hunters_won : PySem.W.nsIn K mainGlobals "have_hunters_won" = some (some (.ref f_have_hunters_won)))
    (gf_weighed : PySem.W.nsIn K mainGlobals "weighed" = some (some (.ref f_weighed)))
    (me_Node___init__ : PySem.W.findIn K (.ref c_Node) "__init__" = some (some (.ref f_Node___init__)))
    (me_Looking___init__ : PySem.W.findIn K (.ref c_Looking) "__init__" = some (some (.ref f_Looking___init__)))
    (me_Looking_node : PySem.W.findIn K (.ref c_Looking) "node" = some (some (.ref f_Looking_node)))
    (gf_worth : PySem.W.nsIn K mainGlobals "worth" = some (some (.ref f_worth)))
    (gf_branch_worths : PySem.W.nsIn K mainGlobals "branch_worths" = some (some (.ref f_branch_worths)))
    (gf_row_of : PySem.W.nsIn K mainGlobals "row_of" = some (some (.ref f_row_of)))
    (me_Refused___init__ : PySem.W.findIn K (.ref c_Refused) "__init__" = some (some (.ref f_Refused___init__)))
    (gf_want : PySem.W.nsIn K mainGlobals "want" = some (some (.ref f_want)))
    (me_Desk___init__ : PySem.W.findIn K (.ref c_Desk) "__init__" = some (some (.ref f_Desk___init__)))
    (me_Desk_set_rules : PySem.W.findIn K (.ref c_Desk) "set_rules" = some (some (.ref f_Desk_set_rules)))
    (me_Desk_position_in : PySem.W.findIn K (.ref c_Desk) "position_in" = some (some (.ref f_Desk_position_in)))
    (me_Desk_weigh : PySem.W.findIn K (.ref c_Desk) "weigh" = some (some (.ref f_Desk_weigh)))
    (me_Desk_looked : PySem.W.findIn K (.ref c_Desk) "looked" = some (some (.ref f_Desk_looked)))
    (me_Desk_ahead : PySem.W.findIn K (.ref c_Desk) "ahead" = some (some (.ref f_Desk_ahead)))
    (me_Desk_each : PySem.W.findIn K (.ref c_Desk) "each" = some (some (.ref f_Desk_each)))
    (me_Desk_done : PySem.W.findIn K (.ref c_Desk) "done" = some (some (.ref f_Desk_done)))
    (me_Desk_answer : PySem.W.findIn K (.ref c_Desk) "answer" = some (some (.ref f_Desk_answer)))
    (gf_answers : PySem.W.nsIn K mainGlobals "answers" = some (some (.ref f_answers)))
    (l_f_Fault___init__ : K.lookup f_Fault___init__ = some ⟨oc_Fault___init__, od_Fault___init__, .func (PySem.W.fnOf "__init__" "Fault.__init__" (defArgs s_Fault___init__) (defBody s_Fault___init__) (defScope s_Fault___init__) .none kV_Fault___init__ dc_Fault___init__ pm_Fault___init__ an_Fault___init__ cd_Fault___init__ ct_Fault___init__), sl_Fault___init__⟩)
    (c_f_Fault___init__ : PySem.W.codeIn K cd_Fault___init__ "Fault.__init__" = true)
    (k_f_Fault___init__ : PySem.W.keepIn K (.ref f_Fault___init__) = true)
    (l_f_Bytes___init__ : K.lookup f_Bytes___init__ = some ⟨oc_Bytes___init__, od_Bytes___init__, .func (PySem.W.fnOf "__init__" "Bytes.__init__" (defArgs s_Bytes___init__) (defBody s_Bytes___init__) (defScope s_Bytes___init__) .none kV_Bytes___init__ dc_Bytes___init__ pm_Bytes___init__ an_Bytes___init__ cd_Bytes___init__ ct_Bytes___init__), sl_Bytes___init__⟩)
    (c_f_Bytes___init__ : PySem.W.codeIn K cd_Bytes___init__ "Bytes.__init__" = true)
    (k_f_Bytes___init__ : PySem.W.keepIn K (.ref f_Bytes___init__) = true)
    (l_f_Bytes_next_byte : K.lookup f_Bytes_next_byte = some ⟨oc_Bytes_next_byte, od_Bytes_next_byte, .func (PySem.W.fnOf "next_byte" "Bytes.next_byte" (defArgs s_Bytes_next_byte) (defBody s_Bytes_next_byte) (defScope s_Bytes_next_byte) .none kV_Bytes_next_byte dc_Bytes_next_byte pm_Bytes_next_byte an_Bytes_next_byte cd_Bytes_next_byte ct_Bytes_next_byte), sl_Bytes_next_byte⟩)
    (c_f_Bytes_next_byte : PySem.W.codeIn K cd_Bytes_next_byte "Bytes.next_byte" = true)
    (k_f_Bytes_next_byte : PySem.W.keepIn K (.ref f_Bytes_next_byte) = true)
    (l_f_Bytes_want : K.lookup f_Bytes_want = some ⟨oc_Bytes_want, od_Bytes_want, .func (PySem.W.fnOf "want" "Bytes.want" (defArgs s_Bytes_want) (defBody s_Bytes_want) (defScope s_Bytes_want) .none kV_Bytes_want dc_Bytes_want pm_Bytes_want an_Bytes_want cd_Bytes_want ct_Bytes_want), sl_Bytes_want⟩)
    (c_f_Bytes_want : PySem.W.codeIn K cd_Bytes_want "Bytes.want" = true)
    (k_f_Bytes_want : PySem.W.keepIn K (.ref f_Bytes_want) = true)
    (l_f_Bytes_is_one_of : K.lookup f_Bytes_is_one_of = some ⟨oc_Bytes_is_one_of, od_Bytes_is_one_of, .func (PySem.W.fnOf "is_one_of" "Bytes.is_one_of" (defArgs s_Bytes_is_one_of) (defBody s_Bytes_is_one_of) (defScope s_Bytes_is_one_of) .none kV_Bytes_is_one_of dc_Bytes_is_one_of pm_Bytes_is_one_of an_Bytes_is_one_of cd_Bytes_is_one_of ct_Bytes_is_one_of), sl_Bytes_is_one_of⟩)
    (c_f_Bytes_is_one_of : PySem.W.codeIn K cd_Bytes_is_one_of "Bytes.is_one_of" = true)
    (k_f_Bytes_is_one_of : PySem.W.keepIn K (.ref f_Bytes_is_one_of) = true)
    (l_f_Bytes_take : K.lookup f_Bytes_take = some ⟨oc_Bytes_take, od_Bytes_take, .func (PySem.W.fnOf "take" "Bytes.take" (defArgs s_Bytes_take) (defBody s_Bytes_take) (defScope s_Bytes_take) .none kV_Bytes_take dc_Bytes_take pm_Bytes_take an_Bytes_take cd_Bytes_take ct_Bytes_take), sl_Bytes_take⟩)
    (c_f_Bytes_take : PySem.W.codeIn K cd_Bytes_take "Bytes.take" = true)
    (k_f_Bytes_take : PySem.W.keepIn K (.ref f_Bytes_take) = true)
    (l_f_Bytes_literal : K.lookup f_Bytes_literal = some ⟨oc_Bytes_literal, od_Bytes_literal, .func (PySem.W.fnOf "literal" "Bytes.literal" (defArgs s_Bytes_literal) (defBody s_Bytes_literal) (defScope s_Bytes_literal) .none kV_Bytes_literal dc_Bytes_literal pm_Bytes_literal an_Bytes_literal cd_Bytes_literal ct_Bytes_literal), sl_Bytes_literal⟩)
    (c_f_Bytes_literal : PySem.W.codeIn K cd_Bytes_literal "Bytes.literal" = true)
    (k_f_Bytes_literal : PySem.W.keepIn K (.ref f_Bytes_literal) = true)
    (l_f_Bytes_line_end : K.lookup f_Bytes_line_end = some ⟨oc_Bytes_line_end, od_Bytes_line_end, .func (PySem.W.fnOf "line_end" "Bytes.line_end" (defArgs s_Bytes_line_end) (defBody s_Bytes_line_end) (defScope s_Bytes_line_end) .none kV_Bytes_line_end dc_Bytes_line_end pm_Bytes_line_end an_Bytes_line_end cd_Bytes_line_end ct_Bytes_line_end), sl_Bytes_line_end⟩)
    (c_f_Bytes_line_end : PySem.W.codeIn K cd_Bytes_line_end "Bytes.line_end" = true)
    (k_f_Bytes_line_end : PySem.W.keepIn K (.ref f_Bytes_line_end) = true)
    (l_f_Bytes_choice : K.lookup f_Bytes_choice = some ⟨oc_Bytes_choice, od_Bytes_choice, .func (PySem.W.fnOf "choice" "Bytes.choice" (defArgs s_Bytes_choice) (defBody s_Bytes_choice) (defScope s_Bytes_choice) .none kV_Bytes_choice dc_Bytes_choice pm_Bytes_choice an_Bytes_choice cd_Bytes_choice ct_Bytes_choice), sl_Bytes_choice⟩)
    (c_f_Bytes_choice : PySem.W.codeIn K cd_Bytes_choice "Bytes.choice" = true)
    (k_f_Bytes_choice : PySem.W.keepIn K (.ref f_Bytes_choice) = true)
    (l_f_Bytes_size : K.lookup f_Bytes_size = some ⟨oc_Bytes_size, od_Bytes_size, .func (PySem.W.fnOf "size" "Bytes.size" (defArgs s_Bytes_size) (defBody s_Bytes_size) (defScope s_Bytes_size) .none kV_Bytes_size dc_Bytes_size pm_Bytes_size an_Bytes_size cd_Bytes_size ct_Bytes_size), sl_Bytes_size⟩)
    (c_f_Bytes_size : PySem.W.codeIn K cd_Bytes_size "Bytes.size" = true)
    (k_f_Bytes_size : PySem.W.keepIn K (.ref f_Bytes_size) = true)
    (l_f_Bytes_limit : K.lookup f_Bytes_limit = some ⟨oc_Bytes_limit, od_Bytes_limit, .func (PySem.W.fnOf "limit" "Bytes.limit" (defArgs s_Bytes_limit) (defBody s_Bytes_limit) (defScope s_Bytes_limit) .none kV_Bytes_limit dc_Bytes_limit pm_Bytes_limit an_Bytes_limit cd_Bytes_limit ct_Bytes_limit), sl_Bytes_limit⟩)
    (c_f_Bytes_limit : PySem.W.codeIn K cd_Bytes_limit "Bytes.limit" = true)
    (k_f_Bytes_limit : PySem.W.keepIn K (.ref f_Bytes_limit) = true)
    (l_f_Bytes_name : K.lookup f_Bytes_name = some ⟨oc_Bytes_name, od_Bytes_name, .func (PySem.W.fnOf "name" "Bytes.name" (defArgs s_Bytes_name) (defBody s_Bytes_name) (defScope s_Bytes_name) .none kV_Bytes_name dc_Bytes_name pm_Bytes_name an_Bytes_name cd_Bytes_name ct_Bytes_name), sl_Bytes_name⟩)
    (c_f_Bytes_name : PySem.W.codeIn K cd_Bytes_name "Bytes.name" = true)
    (k_f_Bytes_name : PySem.W.keepIn K (.ref f_Bytes_name) = true)
    (l_f_Bytes_finish : K.lookup f_Bytes_finish = some ⟨oc_Bytes_finish, od_Bytes_finish, .func (PySem.W.fnOf "finish" "Bytes.finish" (defArgs s_Bytes_finish) (defBody s_Bytes_finish) (defScope s_Bytes_finish) .none kV_Bytes_finish dc_Bytes_finish pm_Bytes_finish an_Bytes_finish cd_Bytes_finish ct_Bytes_finish), sl_Bytes_finish⟩)
    (c_f_Bytes_finish : PySem.W.codeIn K cd_Bytes_finish "Bytes.finish" = true)
    (k_f_Bytes_finish : PySem.W.keepIn K (.ref f_Bytes_finish) = true)
    (l_f_is_letter : K.lookup f_is_letter = some ⟨oc_is_letter, od_is_letter, .func (PySem.W.fnOf "is_letter" "is_letter" (defArgs s_is_letter) (defBody s_is_letter) (defScope s_is_letter) .none kV_is_letter dc_is_letter pm_is_letter an_is_letter cd_is_letter ct_is_letter), sl_is_letter⟩)
    (c_f_is_letter : PySem.W.codeIn K cd_is_letter "is_letter" = true)
    (k_f_is_letter : PySem.W.keepIn K (.ref f_is_letter) = true)
    (l_f_Rules___init__ : K.lookup f_Rules___init__ = some ⟨oc_Rules___init__, od_Rules___init__, .func (PySem.W.fnOf "__init__" "Rules.__init__" (defArgs s_Rules___init__) (defBody s_Rules___init__) (defScope s_Rules___init__) .none kV_Rules___init__ dc_Rules___init__ pm_Rules___init__ an_Rules___init__ cd_Rules___init__ ct_Rules___init__), sl_Rules___init__⟩)
    (c_f_Rules___init__ : PySem.W.codeIn K cd_Rules___init__ "Rules.__init__" = true)
    (k_f_Rules___init__ : PySem.W.keepIn K (.ref f_Rules___init__) = true)
    (l_f_Rules_is_edge : K.lookup f_Rules_is_edge = some ⟨oc_Rules_is_edge, od_Rules_is_edge, .func (PySem.W.fnOf "is_edge" "Rules.is_edge" (defArgs s_Rules_is_edge) (defBody s_Rules_is_edge) (defScope s_Rules_is_edge) .none kV_Rules_is_edge dc_Rules_is_edge pm_Rules_is_edge an_Rules_is_edge cd_Rules_is_edge ct_Rules_is_edge), sl_Rules_is_edge⟩)
    (c_f_Rules_is_edge : PySem.W.codeIn K cd_Rules_is_edge "Rules.is_edge" = true)
    (k_f_Rules_is_edge : PySem.W.keepIn K (.ref f_Rules_is_edge) = true)
    (l_f_Rules_is_goal : K.lookup f_Rules_is_goal = some ⟨oc_Rules_is_goal, od_Rules_is_goal, .func (PySem.W.fnOf "is_goal" "Rules.is_goal" (defArgs s_Rules_is_goal) (defBody s_Rules_is_goal) (defScope s_Rules_is_goal) .none kV_Rules_is_goal dc_Rules_is_goal pm_Rules_is_goal an_Rules_is_goal cd_Rules_is_goal ct_Rules_is_goal), sl_Rules_is_goal⟩)
    (c_f_Rules_is_goal : PySem.W.codeIn K cd_Rules_is_goal "Rules.is_goal" = true)
    (k_f_Rules_is_goal : PySem.W.keepIn K (.ref f_Rules_is_goal) = true)
    (l_f_Rules_has : K.lookup f_Rules_has = some ⟨oc_Rules_has, od_Rules_has, .func (PySem.W.fnOf "has" "Rules.has" (defArgs s_Rules_has) (defBody s_Rules_has) (defScope s_Rules_has) .none kV_Rules_has dc_Rules_has pm_Rules_has an_Rules_has cd_Rules_has ct_Rules_has), sl_Rules_has⟩)
    (c_f_Rules_has : PySem.W.codeIn K cd_Rules_has "Rules.has" = true)
    (k_f_Rules_has : PySem.W.keepIn K (.ref f_Rules_has) = true)
    (l_f_Rules_may_stand : K.lookup f_Rules_may_stand = some ⟨oc_Rules_may_stand, od_Rules_may_stand, .func (PySem.W.fnOf "may_stand" "Rules.may_stand" (defArgs s_Rules_may_stand) (defBody s_Rules_may_stand) (defScope s_Rules_may_stand) .none kV_Rules_may_stand dc_Rules_may_stand pm_Rules_may_stand an_Rules_may_stand cd_Rules_may_stand ct_Rules_may_stand), sl_Rules_may_stand⟩)
    (c_f_Rules_may_stand : PySem.W.codeIn K cd_Rules_may_stand "Rules.may_stand" = true)
    (k_f_Rules_may_stand : PySem.W.keepIn K (.ref f_Rules_may_stand) = true)
    (l_f_Rules_settle : K.lookup f_Rules_settle = some ⟨oc_Rules_settle, od_Rules_settle, .func (PySem.W.fnOf "settle" "Rules.settle" (defArgs s_Rules_settle) (defBody s_Rules_settle) (defScope s_Rules_settle) .none kV_Rules_settle dc_Rules_settle pm_Rules_settle an_Rules_settle cd_Rules_settle ct_Rules_settle), sl_Rules_settle⟩)
    (c_f_Rules_settle : PySem.W.codeIn K cd_Rules_settle "Rules.settle" = true)
    (k_f_Rules_settle : PySem.W.keepIn K (.ref f_Rules_settle) = true)
    (l_f_rows_read : K.lookup f_rows_read = some ⟨oc_rows_read, od_rows_read, .func (PySem.W.fnOf "rows_read" "rows_read" (defArgs s_rows_read) (defBody s_rows_read) (defScope s_rows_read) .none kV_rows_read dc_rows_read pm_rows_read an_rows_read cd_rows_read ct_rows_read), sl_rows_read⟩)
    (c_f_rows_read : PySem.W.codeIn K cd_rows_read "rows_read" = true)
    (k_f_rows_read : PySem.W.keepIn K (.ref f_rows_read) = true)
    (l_f_head_read : K.lookup f_head_read = some ⟨oc_head_read, od_head_read, .func (PySem.W.fnOf "head_read" "head_read" (defArgs s_head_read) (defBody s_head_read) (defScope s_head_read) .none kV_head_read dc_head_read pm_head_read an_head_read cd_head_read ct_head_read), sl_head_read⟩)
    (c_f_head_read : PySem.W.codeIn K cd_head_read "head_read" = true)
    (k_f_head_read : PySem.W.keepIn K (.ref f_head_read) = true)
    (l_f_king_read : K.lookup f_king_read = some ⟨oc_king_read, od_king_read, .func (PySem.W.fnOf "king_read" "king_read" (defArgs s_king_read) (defBody s_king_read) (defScope s_king_read) .none kV_king_read dc_king_read pm_king_read an_king_read cd_king_read ct_king_read), sl_king_read⟩)
    (c_f_king_read : PySem.W.codeIn K cd_king_read "king_read" = true)
    (k_f_king_read : PySem.W.keepIn K (.ref f_king_read) = true)
    (l_f_rest_read : K.lookup f_rest_read = some ⟨oc_rest_read, od_rest_read, .func (PySem.W.fnOf "rest_read" "rest_read" (defArgs s_rest_read) (defBody s_rest_read) (defScope s_rest_read) .none kV_rest_read dc_rest_read pm_rest_read an_rest_read cd_rest_read ct_rest_read), sl_rest_read⟩)
    (c_f_rest_read : PySem.W.codeIn K cd_rest_read "rest_read" = true)
    (k_f_rest_read : PySem.W.keepIn K (.ref f_rest_read) = true)
    (l_f_second_of : K.lookup f_second_of = some ⟨oc_second_of, od_second_of, .func (PySem.W.fnOf "second_of" "second_of" (defArgs s_second_of) (defBody s_second_of) (defScope s_second_of) .none kV_second_of dc_second_of pm_second_of an_second_of cd_second_of ct_second_of), sl_second_of⟩)
    (c_f_second_of : PySem.W.codeIn K cd_second_of "second_of" = true)
    (k_f_second_of : PySem.W.keepIn K (.ref f_second_of) = true)
    (l_f_wrong_pieces : K.lookup f_wrong_pieces = some ⟨oc_wrong_pieces, od_wrong_pieces, .func (PySem.W.fnOf "wrong_pieces" "wrong_pieces" (defArgs s_wrong_pieces) (defBody s_wrong_pieces) (defScope s_wrong_pieces) .none kV_wrong_pieces dc_wrong_pieces pm_wrong_pieces an_wrong_pieces cd_wrong_pieces ct_wrong_pieces), sl_wrong_pieces⟩)
    (c_f_wrong_pieces : PySem.W.codeIn K cd_wrong_pieces "wrong_pieces" = true)
    (k_f_wrong_pieces : PySem.W.keepIn K (.ref f_wrong_pieces) = true)
    (l_f_is_goal_wrong : K.lookup f_is_goal_wrong = some ⟨oc_is_goal_wrong, od_is_goal_wrong, .func (PySem.W.fnOf "is_goal_wrong" "is_goal_wrong" (defArgs s_is_goal_wrong) (defBody s_is_goal_wrong) (defScope s_is_goal_wrong) .none kV_is_goal_wrong dc_is_goal_wrong pm_is_goal_wrong an_is_goal_wrong cd_is_goal_wrong ct_is_goal_wrong), sl_is_goal_wrong⟩)
    (c_f_is_goal_wrong : PySem.W.codeIn K cd_is_goal_wrong "is_goal_wrong" = true)
    (k_f_is_goal_wrong : PySem.W.keepIn K (.ref f_is_goal_wrong) = true)
    (l_f_lacks : K.lookup f_lacks = some ⟨oc_lacks, od_lacks, .func (PySem.W.fnOf "lacks" "lacks" (defArgs s_lacks) (defBody s_lacks) (defScope s_lacks) .none kV_lacks dc_lacks pm_lacks an_lacks cd_lacks ct_lacks), sl_lacks⟩)
    (c_f_lacks : PySem.W.codeIn K cd_lacks "lacks" = true)
    (k_f_lacks : PySem.W.keepIn K (.ref f_lacks) = true)
    (l_f_read_rules : K.lookup f_read_rules = some ⟨oc_read_rules, od_read_rules, .func (PySem.W.fnOf "read_rules" "read_rules" (defArgs s_read_rules) (defBody s_read_rules) (defScope s_read_rules) .none kV_read_rules dc_read_rules pm_read_rules an_read_rules cd_read_rules ct_read_rules), sl_read_rules⟩)
    (c_f_read_rules : PySem.W.codeIn K cd_read_rules "read_rules" = true)
    (k_f_read_rules : PySem.W.keepIn K (.ref f_read_rules) = true)
    (l_f_second_seats : K.lookup f_second_seats = some ⟨oc_second_seats, od_second_seats, .func (PySem.W.fnOf "second_seats" "second_seats" (defArgs s_second_seats) (defBody s_second_seats) (defScope s_second_seats) .none kV_second_seats dc_second_seats pm_second_seats an_second_seats cd_second_seats ct_second_seats), sl_second_seats⟩)
    (c_f_second_seats : PySem.W.codeIn K cd_second_seats "second_seats" = true)
    (k_f_second_seats : PySem.W.keepIn K (.ref f_second_seats) = true)
    (l_f_Position___init__ : K.lookup f_Position___init__ = some ⟨oc_Position___init__, od_Position___init__, .func (PySem.W.fnOf "__init__" "Position.__init__" (defArgs s_Position___init__) (defBody s_Position___init__) (defScope s_Position___init__) .none kV_Position___init__ dc_Position___init__ pm_Position___init__ an_Position___init__ cd_Position___init__ ct_Position___init__), sl_Position___init__⟩)
    (c_f_Position___init__ : PySem.W.codeIn K cd_Position___init__ "Position.__init__" = true)
    (k_f_Position___init__ : PySem.W.keepIn K (.ref f_Position___init__) = true)
    (l_f_Position_has_piece : K.lookup f_Position_has_piece = some ⟨oc_Position_has_piece, od_Position_has_piece, .func (PySem.W.fnOf "has_piece" "Position.has_piece" (defArgs s_Position_has_piece) (defBody s_Position_has_piece) (defScope s_Position_has_piece) .none kV_Position_has_piece dc_Position_has_piece pm_Position_has_piece an_Position_has_piece cd_Position_has_piece ct_Position_has_piece), sl_Position_has_piece⟩)
    (c_f_Position_has_piece : PySem.W.codeIn K cd_Position_has_piece "Position.has_piece" = true)
    (k_f_Position_has_piece : PySem.W.keepIn K (.ref f_Position_has_piece) = true)
    (l_f_LineReader___init__ : K.lookup f_LineReader___init__ = some ⟨oc_LineReader___init__, od_LineReader___init__, .func (PySem.W.fnOf "__init__" "LineReader.__init__" (defArgs s_LineReader___init__) (defBody s_LineReader___init__) (defScope s_LineReader___init__) .none kV_LineReader___init__ dc_LineReader___init__ pm_LineReader___init__ an_LineReader___init__ cd_LineReader___init__ ct_LineReader___init__), sl_LineReader___init__⟩)
    (c_f_LineReader___init__ : PySem.W.codeIn K cd_LineReader___init__ "LineReader.__init__" = true)
    (k_f_LineReader___init__ : PySem.W.keepIn K (.ref f_LineReader___init__) = true)
    (l_f_LineReader_gap : K.lookup f_LineReader_gap = some ⟨oc_LineReader_gap, od_LineReader_gap, .func (PySem.W.fnOf "gap" "LineReader.gap" (defArgs s_LineReader_gap) (defBody s_LineReader_gap) (defScope s_LineReader_gap) .none kV_LineReader_gap dc_LineReader_gap pm_LineReader_gap an_LineReader_gap cd_LineReader_gap ct_LineReader_gap), sl_LineReader_gap⟩)
    (c_f_LineReader_gap : PySem.W.codeIn K cd_LineReader_gap "LineReader.gap" = true)
    (k_f_LineReader_gap : PySem.W.keepIn K (.ref f_LineReader_gap) = true)
    (l_f_LineReader_piece : K.lookup f_LineReader_piece = some ⟨oc_LineReader_piece, od_LineReader_piece, .func (PySem.W.fnOf "piece" "LineReader.piece" (defArgs s_LineReader_piece) (defBody s_LineReader_piece) (defScope s_LineReader_piece) .none kV_LineReader_piece dc_LineReader_piece pm_LineReader_piece an_LineReader_piece cd_LineReader_piece ct_LineReader_piece), sl_LineReader_piece⟩)
    (c_f_LineReader_piece : PySem.W.codeIn K cd_LineReader_piece "LineReader.piece" = true)
    (k_f_LineReader_piece : PySem.W.keepIn K (.ref f_LineReader_piece) = true)
    (l_f_LineReader_row : K.lookup f_LineReader_row = some ⟨oc_LineReader_row, od_LineReader_row, .func (PySem.W.fnOf "row" "LineReader.row" (defArgs s_LineReader_row) (defBody s_LineReader_row) (defScope s_LineReader_row) .none kV_LineReader_row dc_LineReader_row pm_LineReader_row an_LineReader_row cd_LineReader_row ct_LineReader_row), sl_LineReader_row⟩)
    (c_f_LineReader_row : PySem.W.codeIn K cd_LineReader_row "LineReader.row" = true)
    (k_f_LineReader_row : PySem.W.keepIn K (.ref f_LineReader_row) = true)
    (l_f_LineReader_line : K.lookup f_LineReader_line = some ⟨oc_LineReader_line, od_LineReader_line, .func (PySem.W.fnOf "line" "LineReader.line" (defArgs s_LineReader_line) (defBody s_LineReader_line) (defScope s_LineReader_line) .none kV_LineReader_line dc_LineReader_line pm_LineReader_line an_LineReader_line cd_LineReader_line ct_LineReader_line), sl_LineReader_line⟩)
    (c_f_LineReader_line : PySem.W.codeIn K cd_LineReader_line "LineReader.line" = true)
    (k_f_LineReader_line : PySem.W.keepIn K (.ref f_LineReader_line) = true)
    (l_f_read_position : K.lookup f_read_position = some ⟨oc_read_position, od_read_position, .func (PySem.W.fnOf "read_position" "read_position" (defArgs s_read_position) (defBody s_read_position) (defScope s_read_position) .none kV_read_position dc_read_position pm_read_position an_read_position cd_read_position ct_read_position), sl_read_position⟩)
    (c_f_read_position : PySem.W.codeIn K cd_read_position "read_position" = true)
    (k_f_read_position : PySem.W.keepIn K (.ref f_read_position) = true)
    (l_f_beside : K.lookup f_beside = some ⟨oc_beside, od_beside, .func (PySem.W.fnOf "beside" "beside" (defArgs s_beside) (defBody s_beside) (defScope s_beside) .none kV_beside dc_beside pm_beside an_beside cd_beside ct_beside), sl_beside⟩)
    (c_f_beside : PySem.W.codeIn K cd_beside "beside" = true)
    (k_f_beside : PySem.W.keepIn K (.ref f_beside) = true)
    (l_f_is_free : K.lookup f_is_free = some ⟨oc_is_free, od_is_free, .func (PySem.W.fnOf "is_free" "is_free" (defArgs s_is_free) (defBody s_is_free) (defScope s_is_free) .none kV_is_free dc_is_free pm_is_free an_is_free cd_is_free ct_is_free), sl_is_free⟩)
    (c_f_is_free : PySem.W.codeIn K cd_is_free "is_free" = true)
    (k_f_is_free : PySem.W.keepIn K (.ref f_is_free) = true)
    (l_f_may_stop : K.lookup f_may_stop = some ⟨oc_may_stop, od_may_stop, .func (PySem.W.fnOf "may_stop" "may_stop" (defArgs s_may_stop) (defBody s_may_stop) (defScope s_may_stop) .none kV_may_stop dc_may_stop pm_may_stop an_may_stop cd_may_stop ct_may_stop), sl_may_stop⟩)
    (c_f_may_stop : PySem.W.codeIn K cd_may_stop "may_stop" = true)
    (k_f_may_stop : PySem.W.keepIn K (.ref f_may_stop) = true)
    (l_f_may_go_over : K.lookup f_may_go_over = some ⟨oc_may_go_over, od_may_go_over, .func (PySem.W.fnOf "may_go_over" "may_go_over" (defArgs s_may_go_over) (defBody s_may_go_over) (defScope s_may_go_over) .none kV_may_go_over dc_may_go_over pm_may_go_over an_may_go_over cd_may_go_over ct_may_go_over), sl_may_go_over⟩)
    (c_f_may_go_over : PySem.W.codeIn K cd_may_go_over "may_go_over" = true)
    (k_f_may_go_over : PySem.W.keepIn K (.ref f_may_go_over) = true)
    (l_f_goals_of : K.lookup f_goals_of = some ⟨oc_goals_of, od_goals_of, .func (PySem.W.fnOf "goals_of" "goals_of" (defArgs s_goals_of) (defBody s_goals_of) (defScope s_goals_of) .none kV_goals_of dc_goals_of pm_goals_of an_goals_of cd_goals_of ct_goals_of), sl_goals_of⟩)
    (c_f_goals_of : PySem.W.codeIn K cd_goals_of "goals_of" = true)
    (k_f_goals_of : PySem.W.keepIn K (.ref f_goals_of) = true)
    (l_f_king_goals : K.lookup f_king_goals = some ⟨oc_king_goals, od_king_goals, .func (PySem.W.fnOf "king_goals" "king_goals" (defArgs s_king_goals) (defBody s_king_goals) (defScope s_king_goals) .none kV_king_goals dc_king_goals pm_king_goals an_king_goals cd_king_goals ct_king_goals), sl_king_goals⟩)
    (c_f_king_goals : PySem.W.codeIn K cd_king_goals "king_goals" = true)
    (k_f_king_goals : PySem.W.keepIn K (.ref f_king_goals) = true)
    (l_f_movers : K.lookup f_movers = some ⟨oc_movers, od_movers, .func (PySem.W.fnOf "movers" "movers" (defArgs s_movers) (defBody s_movers) (defScope s_movers) .none kV_movers dc_movers pm_movers an_movers cd_movers ct_movers), sl_movers⟩)
    (c_f_movers : PySem.W.codeIn K cd_movers "movers" = true)
    (k_f_movers : PySem.W.keepIn K (.ref f_movers) = true)
    (l_f_moves_of : K.lookup f_moves_of = some ⟨oc_moves_of, od_moves_of, .func (PySem.W.fnOf "moves_of" "moves_of" (defArgs s_moves_of) (defBody s_moves_of) (defScope s_moves_of) .none kV_moves_of dc_moves_of pm_moves_of an_moves_of cd_moves_of ct_moves_of), sl_moves_of⟩)
    (c_f_moves_of : PySem.W.codeIn K cd_moves_of "moves_of" = true)
    (k_f_moves_of : PySem.W.keepIn K (.ref f_moves_of) = true)
    (l_f_has_move : K.lookup f_has_move = some ⟨oc_has_move, od_has_move, .func (PySem.W.fnOf "has_move" "has_move" (defArgs s_has_move) (defBody s_has_move) (defScope s_has_move) .none kV_has_move dc_has_move pm_has_move an_has_move cd_has_move ct_has_move), sl_has_move⟩)
    (c_f_has_move : PySem.W.codeIn K cd_has_move "has_move" = true)
    (k_f_has_move : PySem.W.keepIn K (.ref f_has_move) = true)
    (l_f_is_against : K.lookup f_is_against = some ⟨oc_is_against, od_is_against, .func (PySem.W.fnOf "is_against" "is_against" (defArgs s_is_against) (defBody s_is_against) (defScope s_is_against) .none kV_is_against dc_is_against pm_is_against an_is_against cd_is_against ct_is_against), sl_is_against⟩)
    (c_f_is_against : PySem.W.codeIn K cd_is_against "is_against" = true)
    (k_f_is_against : PySem.W.keepIn K (.ref f_is_against) = true)
    (l_f_has_hunter_or_against : K.lookup f_has_hunter_or_against = some ⟨oc_has_hunter_or_against, od_has_hunter_or_against, .func (PySem.W.fnOf "has_hunter_or_against" "has_hunter_or_against" (defArgs s_has_hunter_or_against) (defBody s_has_hunter_or_against) (defScope s_has_hunter_or_against) .none kV_has_hunter_or_against dc_has_hunter_or_against pm_has_hunter_or_against an_has_hunter_or_against cd_has_hunter_or_against ct_has_hunter_or_against), sl_has_hunter_or_against⟩)
    (c_f_has_hunter_or_against : PySem.W.codeIn K cd_has_hunter_or_against "has_hunter_or_against" = true)
    (k_f_has_hunter_or_against : PySem.W.keepIn K (.ref f_has_hunter_or_against) = true)
    (l_f_is_helper : K.lookup f_is_helper = some ⟨oc_is_helper, od_is_helper, .func (PySem.W.fnOf "is_helper" "is_helper" (defArgs s_is_helper) (defBody s_is_helper) (defScope s_is_helper) .none kV_is_helper dc_is_helper pm_is_helper an_is_helper cd_is_helper ct_is_helper), sl_is_helper⟩)
    (c_f_is_helper : PySem.W.codeIn K cd_is_helper "is_helper" = true)
    (k_f_is_helper : PySem.W.keepIn K (.ref f_is_helper) = true)
    (l_f_taken_hunters : K.lookup f_taken_hunters = some ⟨oc_taken_hunters, od_taken_hunters, .func (PySem.W.fnOf "taken_hunters" "taken_hunters" (defArgs s_taken_hunters) (defBody s_taken_hunters) (defScope s_taken_hunters) .none kV_taken_hunters dc_taken_hunters pm_taken_hunters an_taken_hunters cd_taken_hunters ct_taken_hunters), sl_taken_hunters⟩)
    (c_f_taken_hunters : PySem.W.codeIn K cd_taken_hunters "taken_hunters" = true)
    (k_f_taken_hunters : PySem.W.keepIn K (.ref f_taken_hunters) = true)
    (l_f_is_king_shut : K.lookup f_is_king_shut = some ⟨oc_is_king_shut, od_is_king_shut, .func (PySem.W.fnOf "is_king_shut" "is_king_shut" (defArgs s_is_king_shut) (defBody s_is_king_shut) (defScope s_is_king_shut) .none kV_is_king_shut dc_is_king_shut pm_is_king_shut an_is_king_shut cd_is_king_shut ct_is_king_shut), sl_is_king_shut⟩)
    (c_f_is_king_shut : PySem.W.codeIn K cd_is_king_shut "is_king_shut" = true)
    (k_f_is_king_shut : PySem.W.keepIn K (.ref f_is_king_shut) = true)
    (l_f_taken_men : K.lookup f_taken_men = some ⟨oc_taken_men, od_taken_men, .func (PySem.W.fnOf "taken_men" "taken_men" (defArgs s_taken_men) (defBody s_taken_men) (defScope s_taken_men) .none kV_taken_men dc_taken_men pm_taken_men an_taken_men cd_taken_men ct_taken_men), sl_taken_men⟩)
    (c_f_taken_men : PySem.W.codeIn K cd_taken_men "taken_men" = true)
    (k_f_taken_men : PySem.W.keepIn K (.ref f_taken_men) = true)
    (l_f_gone_to : K.lookup f_gone_to = some ⟨oc_gone_to, od_gone_to, .func (PySem.W.fnOf "gone_to" "gone_to" (defArgs s_gone_to) (defBody s_gone_to) (defScope s_gone_to) .none kV_gone_to dc_gone_to pm_gone_to an_gone_to cd_gone_to ct_gone_to), sl_gone_to⟩)
    (c_f_gone_to : PySem.W.codeIn K cd_gone_to "gone_to" = true)
    (k_f_gone_to : PySem.W.keepIn K (.ref f_gone_to) = true)
    (l_f_made : K.lookup f_made = some ⟨oc_made, od_made, .func (PySem.W.fnOf "made" "made" (defArgs s_made) (defBody s_made) (defScope s_made) .none kV_made dc_made pm_made an_made cd_made ct_made), sl_made⟩)
    (c_f_made : PySem.W.codeIn K cd_made "made" = true)
    (k_f_made : PySem.W.keepIn K (.ref f_made) = true)
    (l_f_over_by : K.lookup f_over_by = some ⟨oc_over_by, od_over_by, .func (PySem.W.fnOf "over_by" "over_by" (defArgs s_over_by) (defBody s_over_by) (defScope s_over_by) .none kV_over_by dc_over_by pm_over_by an_over_by cd_over_by ct_over_by), sl_over_by⟩)
    (c_f_over_by : PySem.W.codeIn K cd_over_by "over_by" = true)
    (k_f_over_by : PySem.W.keepIn K (.ref f_over_by) = true)
    (l_f_have_hunters_won : K.lookup f_have_hunters_won = some ⟨oc_have_hunters_won, od_have_hunters_won, .func (PySem.W.fnOf "have_hunters_won" "have_hunters_won" (defArgs s_have_hunters_won) (defBody s_have_hunters_won) (defScope s_have_hunters_won) .none kV_have_hunters_won dc_have_hunters_won pm_have_hunters_won an_have_hunters_won cd_have_hunters_won ct_have_hunters_won), sl_have_hunters_won⟩)
    (c_f_have_hunters_won : PySem.W.codeIn K cd_have_hunters_won "have_hunters_won" = true)
    (k_f_have_hunters_won : PySem.W.keepIn K (.ref f_have_hunters_won) = true)
    (l_f_weighed : K.lookup f_weighed = some ⟨oc_weighed, od_weighed, .func (PySem.W.fnOf "weighed" "weighed" (defArgs s_weighed) (defBody s_weighed) (defScope s_weighed) .none kV_weighed dc_weighed pm_weighed an_weighed cd_weighed ct_weighed), sl_weighed⟩)
    (c_f_weighed : PySem.W.codeIn K cd_weighed "weighed" = true)
    (k_f_weighed : PySem.W.keepIn K (.ref f_weighed) = true)
    (l_f_Node___init__ : K.lookup f_Node___init__ = some ⟨oc_Node___init__, od_Node___init__, .func (PySem.W.fnOf "__init__" "Node.__init__" (defArgs s_Node___init__) (defBody s_Node___init__) (defScope s_Node___init__) .none kV_Node___init__ dc_Node___init__ pm_Node___init__ an_Node___init__ cd_Node___init__ ct_Node___init__), sl_Node___init__⟩)
    (c_f_Node___init__ : PySem.W.codeIn K cd_Node___init__ "Node.__init__" = true)
    (k_f_Node___init__ : PySem.W.keepIn K (.ref f_Node___init__) = true)
    (l_f_Looking___init__ : K.lookup f_Looking___init__ = some ⟨oc_Looking___init__, od_Looking___init__, .func (PySem.W.fnOf "__init__" "Looking.__init__" (defArgs s_Looking___init__) (defBody s_Looking___init__) (defScope s_Looking___init__) .none kV_Looking___init__ dc_Looking___init__ pm_Looking___init__ an_Looking___init__ cd_Looking___init__ ct_Looking___init__), sl_Looking___init__⟩)
    (c_f_Looking___init__ : PySem.W.codeIn K cd_Looking___init__ "Looking.__init__" = true)
    (k_f_Looking___init__ : PySem.W.keepIn K (.ref f_Looking___init__) = true)
    (l_f_Looking_node : K.lookup f_Looking_node = some ⟨oc_Looking_node, od_Looking_node, .func (PySem.W.fnOf "node" "Looking.node" (defArgs s_Looking_node) (defBody s_Looking_node) (defScope s_Looking_node) .none kV_Looking_node dc_Looking_node pm_Looking_node an_Looking_node cd_Looking_node ct_Looking_node), sl_Looking_node⟩)
    (c_f_Looking_node : PySem.W.codeIn K cd_Looking_node "Looking.node" = true)
    (k_f_Looking_node : PySem.W.keepIn K (.ref f_Looking_node) = true)
    (l_f_worth : K.lookup f_worth = some ⟨oc_worth, od_worth, .func (PySem.W.fnOf "worth" "worth" (defArgs s_worth) (defBody s_worth) (defScope s_worth) .none kV_worth dc_worth pm_worth an_worth cd_worth ct_worth), sl_worth⟩)
    (c_f_worth : PySem.W.codeIn K cd_worth "worth" = true)
    (k_f_worth : PySem.W.keepIn K (.ref f_worth) = true)
    (l_f_branch_worths : K.lookup f_branch_worths = some ⟨oc_branch_worths, od_branch_worths, .func (PySem.W.fnOf "branch_worths" "branch_worths" (defArgs s_branch_worths) (defBody s_branch_worths) (defScope s_branch_worths) .none kV_branch_worths dc_branch_worths pm_branch_worths an_branch_worths cd_branch_worths ct_branch_worths), sl_branch_worths⟩)
    (c_f_branch_worths : PySem.W.codeIn K cd_branch_worths "branch_worths" = true)
    (k_f_branch_worths : PySem.W.keepIn K (.ref f_branch_worths) = true)
    (l_f_row_of : K.lookup f_row_of = some ⟨oc_row_of, od_row_of, .func (PySem.W.fnOf "row_of" "row_of" (defArgs s_row_of) (defBody s_row_of) (defScope s_row_of) .none kV_row_of dc_row_of pm_row_of an_row_of cd_row_of ct_row_of), sl_row_of⟩)
    (c_f_row_of : PySem.W.codeIn K cd_row_of "row_of" = true)
    (k_f_row_of : PySem.W.keepIn K (.ref f_row_of) = true)
    (l_f_Refused___init__ : K.lookup f_Refused___init__ = some ⟨oc_Refused___init__, od_Refused___init__, .func (PySem.W.fnOf "__init__" "Refused.__init__" (defArgs s_Refused___init__) (defBody s_Refused___init__) (defScope s_Refused___init__) .none kV_Refused___init__ dc_Refused___init__ pm_Refused___init__ an_Refused___init__ cd_Refused___init__ ct_Refused___init__), sl_Refused___init__⟩)
    (c_f_Refused___init__ : PySem.W.codeIn K cd_Refused___init__ "Refused.__init__" = true)
    (k_f_Refused___init__ : PySem.W.keepIn K (.ref f_Refused___init__) = true)
    (l_f_want : K.lookup f_want = some ⟨oc_want, od_want, .func (PySem.W.fnOf "want" "want" (defArgs s_want) (defBody s_want) (defScope s_want) .none kV_want dc_want pm_want an_want cd_want ct_want), sl_want⟩)
    (c_f_want : PySem.W.codeIn K cd_want "want" = true)
    (k_f_want : PySem.W.keepIn K (.ref f_want) = true)
    (l_f_Desk___init__ : K.lookup f_Desk___init__ = some ⟨oc_Desk___init__, od_Desk___init__, .func (PySem.W.fnOf "__init__" "Desk.__init__" (defArgs s_Desk___init__) (defBody s_Desk___init__) (defScope s_Desk___init__) .none kV_Desk___init__ dc_Desk___init__ pm_Desk___init__ an_Desk___init__ cd_Desk___init__ ct_Desk___init__), sl_Desk___init__⟩)
    (c_f_Desk___init__ : PySem.W.codeIn K cd_Desk___init__ "Desk.__init__" = true)
    (k_f_Desk___init__ : PySem.W.keepIn K (.ref f_Desk___init__) = true)
    (l_f_Desk_set_rules : K.lookup f_Desk_set_rules = some ⟨oc_Desk_set_rules, od_Desk_set_rules, .func (PySem.W.fnOf "set_rules" "Desk.set_rules" (defArgs s_Desk_set_rules) (defBody s_Desk_set_rules) (defScope s_Desk_set_rules) .none kV_Desk_set_rules dc_Desk_set_rules pm_Desk_set_rules an_Desk_set_rules cd_Desk_set_rules ct_Desk_set_rules), sl_Desk_set_rules⟩)
    (c_f_Desk_set_rules : PySem.W.codeIn K cd_Desk_set_rules "Desk.set_rules" = true)
    (k_f_Desk_set_rules : PySem.W.keepIn K (.ref f_Desk_set_rules) = true)
    (l_f_Desk_position_in : K.lookup f_Desk_position_in = some ⟨oc_Desk_position_in, od_Desk_position_in, .func (PySem.W.fnOf "position_in" "Desk.position_in" (defArgs s_Desk_position_in) (defBody s_Desk_position_in) (defScope s_Desk_position_in) .none kV_Desk_position_in dc_Desk_position_in pm_Desk_position_in an_Desk_position_in cd_Desk_position_in ct_Desk_position_in), sl_Desk_position_in⟩)
    (c_f_Desk_position_in : PySem.W.codeIn K cd_Desk_position_in "Desk.position_in" = true)
    (k_f_Desk_position_in : PySem.W.keepIn K (.ref f_Desk_position_in) = true)
    (l_f_Desk_weigh : K.lookup f_Desk_weigh = some ⟨oc_Desk_weigh, od_Desk_weigh, .func (PySem.W.fnOf "weigh" "Desk.weigh" (defArgs s_Desk_weigh) (defBody s_Desk_weigh) (defScope s_Desk_weigh) .none kV_Desk_weigh dc_Desk_weigh pm_Desk_weigh an_Desk_weigh cd_Desk_weigh ct_Desk_weigh), sl_Desk_weigh⟩)
    (c_f_Desk_weigh : PySem.W.codeIn K cd_Desk_weigh "Desk.weigh" = true)
    (k_f_Desk_weigh : PySem.W.keepIn K (.ref f_Desk_weigh) = true)
    (l_f_Desk_looked : K.lookup f_Desk_looked = some ⟨oc_Desk_looked, od_Desk_looked, .func (PySem.W.fnOf "looked" "Desk.looked" (defArgs s_Desk_looked) (defBody s_Desk_looked) (defScope s_Desk_looked) .none kV_Desk_looked dc_Desk_looked pm_Desk_looked an_Desk_looked cd_Desk_looked ct_Desk_looked), sl_Desk_looked⟩)
    (c_f_Desk_looked : PySem.W.codeIn K cd_Desk_looked "Desk.looked" = true)
    (k_f_Desk_looked : PySem.W.keepIn K (.ref f_Desk_looked) = true)
    (l_f_Desk_ahead : K.lookup f_Desk_ahead = some ⟨oc_Desk_ahead, od_Desk_ahead, .func (PySem.W.fnOf "ahead" "Desk.ahead" (defArgs s_Desk_ahead) (defBody s_Desk_ahead) (defScope s_Desk_ahead) .none kV_Desk_ahead dc_Desk_ahead pm_Desk_ahead an_Desk_ahead cd_Desk_ahead ct_Desk_ahead), sl_Desk_ahead⟩)
    (c_f_Desk_ahead : PySem.W.codeIn K cd_Desk_ahead "Desk.ahead" = true)
    (k_f_Desk_ahead : PySem.W.keepIn K (.ref f_Desk_ahead) = true)
    (l_f_Desk_each : K.lookup f_Desk_each = some ⟨oc_Desk_each, od_Desk_each, .func (PySem.W.fnOf "each" "Desk.each" (defArgs s_Desk_each) (defBody s_Desk_each) (defScope s_Desk_each) .none kV_Desk_each dc_Desk_each pm_Desk_each an_Desk_each cd_Desk_each ct_Desk_each), sl_Desk_each⟩)
    (c_f_Desk_each : PySem.W.codeIn K cd_Desk_each "Desk.each" = true)
    (k_f_Desk_each : PySem.W.keepIn K (.ref f_Desk_each) = true)
    (l_f_Desk_done : K.lookup f_Desk_done = some ⟨oc_Desk_done, od_Desk_done, .func (PySem.W.fnOf "done" "Desk.done" (defArgs s_Desk_done) (defBody s_Desk_done) (defScope s_Desk_done) .none kV_Desk_done dc_Desk_done pm_Desk_done an_Desk_done cd_Desk_done ct_Desk_done), sl_Desk_done⟩)
    (c_f_Desk_done : PySem.W.codeIn K cd_Desk_done "Desk.done" = true)
    (k_f_Desk_done : PySem.W.keepIn K (.ref f_Desk_done) = true)
    (l_f_Desk_answer : K.lookup f_Desk_answer = some ⟨oc_Desk_answer, od_Desk_answer, .func (PySem.W.fnOf "answer" "Desk.answer" (defArgs s_Desk_answer) (defBody s_Desk_answer) (defScope s_Desk_answer) .none kV_Desk_answer dc_Desk_answer pm_Desk_answer an_Desk_answer cd_Desk_answer ct_Desk_answer), sl_Desk_answer⟩)
    (c_f_Desk_answer : PySem.W.codeIn K cd_Desk_answer "Desk.answer" = true)
    (k_f_Desk_answer : PySem.W.keepIn K (.ref f_Desk_answer) = true)
    (l_f_answers : K.lookup f_answers = some ⟨oc_answers, od_answers, .func (PySem.W.fnOf "answers" "answers" (defArgs s_answers) (defBody s_answers) (defScope s_answers) .none kV_answers dc_answers pm_answers an_answers cd_answers ct_answers), sl_answers⟩)
    (c_f_answers : PySem.W.codeIn K cd_answers "answers" = true)
    (k_f_answers : PySem.W.keepIn K (.ref f_answers) = true)
    (mk_Bytes : PySem.W.makesIn K c_Bytes = true)
    (kc_Bytes : PySem.W.keepIn K (.ref c_Bytes) = true)
    (i_f_Bytes___init__ : PySem.W.isFn K (.ref f_Bytes___init__) = true)
    (pg_Bytes : PySem.W.plainGet K c_Bytes Str.empty = true)
    (hd_Bytes : PySem.W.hasDictIn K c_Bytes = true)
    (po_Bytes : PySem.W.plainOver K c_Bytes = true)
    (sa_Bytes : PySem.W.findIn K (.ref c_Bytes) "__setattr__" = some (some (.builtin "object.__setattr__")))
    (no_Bytes_text : PySem.W.findIn K (.ref c_Bytes) "text" = some none)
    (no_Bytes_at : PySem.W.findIn K (.ref c_Bytes) "at" = some none)
    (i_f_Bytes_next_byte : PySem.W.isFn K (.ref f_Bytes_next_byte) = true)
    (i_f_Bytes_want : PySem.W.isFn K (.ref f_Bytes_want) = true)
    (i_f_Bytes_is_one_of : PySem.W.isFn K (.ref f_Bytes_is_one_of) = true)
    (i_f_Bytes_take : PySem.W.isFn K (.ref f_Bytes_take) = true)
    (i_f_Bytes_literal : PySem.W.isFn K (.ref f_Bytes_literal) = true)
    (i_f_Bytes_line_end : PySem.W.isFn K (.ref f_Bytes_line_end) = true)
    (i_f_Bytes_choice : PySem.W.isFn K (.ref f_Bytes_choice) = true)
    (i_f_Bytes_size : PySem.W.isFn K (.ref f_Bytes_size) = true)
    (i_f_Bytes_limit : PySem.W.isFn K (.ref f_Bytes_limit) = true)
    (i_f_Bytes_name : PySem.W.isFn K (.ref f_Bytes_name) = true)
    (i_f_Bytes_finish : PySem.W.isFn K (.ref f_Bytes_finish) = true)
    (mk_Rules : PySem.W.makesIn K c_Rules = true)
    (kc_Rules : PySem.W.keepIn K (.ref c_Rules) = true)
    (i_f_Rules___init__ : PySem.W.isFn K (.ref f_Rules___init__) = true)
    (pg_Rules : PySem.W.plainGet K c_Rules Str.empty = true)
    (hd_Rules : PySem.W.hasDictIn K c_Rules = true)
    (po_Rules : PySem.W.plainOver K c_Rules = true)
    (sa_Rules : PySem.W.findIn K (.ref c_Rules) "__setattr__" = some (some (.builtin "object.__setattr__")))
    (i_f_Rules_is_edge : PySem.W.isFn K (.ref f_Rules_is_edge) = true)
    (i_f_Rules_is_goal : PySem.W.isFn K (.ref f_Rules_is_goal) = true)
    (i_f_Rules_has : PySem.W.isFn K (.ref f_Rules_has) = true)
    (i_f_Rules_may_stand : PySem.W.isFn K (.ref f_Rules_may_stand) = true)
    (i_f_Rules_settle : PySem.W.isFn K (.ref f_Rules_settle) = true)
    (no_Rules_wide : PySem.W.findIn K (.ref c_Rules) "wide" = some none)
    (no_Rules_high : PySem.W.findIn K (.ref c_Rules) "high" = some none)
    (no_Rules_is_king_first : PySem.W.findIn K (.ref c_Rules) "is_king_first" = some none)
    (no_Rules_slides : PySem.W.findIn K (.ref c_Rules) "slides" = some none)
    (no_Rules_armed : PySem.W.findIn K (.ref c_Rules) "armed" = some none)
    (no_Rules_four : PySem.W.findIn K (.ref c_Rules) "four" = some none)
    (no_Rules_passed : PySem.W.findIn K (.ref c_Rules) "passed" = some none)
    (no_Rules_seat_enmity : PySem.W.findIn K (.ref c_Rules) "seat_enmity" = some none)
    (no_Rules_exit_enmity : PySem.W.findIn K (.ref c_Rules) "exit_enmity" = some none)
    (no_Rules_is_goal_exits : PySem.W.findIn K (.ref c_Rules) "is_goal_exits" = some none)
    (no_Rules_goal_place : PySem.W.findIn K (.ref c_Rules) "goal_place" = some none)
    (no_Rules_seat : PySem.W.findIn K (.ref c_Rules) "seat" = some none)
    (no_Rules_exits : PySem.W.findIn K (.ref c_Rules) "exits" = some none)
    (no_Rules_walls : PySem.W.findIn K (.ref c_Rules) "walls" = some none)
    (no_Rules_ground : PySem.W.findIn K (.ref c_Rules) "ground" = some none)
    (no_Rules_start : PySem.W.findIn K (.ref c_Rules) "start" = some none)
    (mk_Position : PySem.W.makesIn K c_Position = true)
    (kc_Position : PySem.W.keepIn K (.ref c_Position) = true)
    (i_f_Position___init__ : PySem.W.isFn K (.ref f_Position___init__) = true)
    (pg_Position : PySem.W.plainGet K c_Position Str.empty = true)
    (hd_Position : PySem.W.hasDictIn K c_Position = true)
    (po_Position : PySem.W.plainOver K c_Position = true)
    (sa_Position : PySem.W.findIn K (.ref c_Position) "__setattr__" = some (some (.builtin "object.__setattr__")))
    (i_f_Position_has_piece : PySem.W.isFn K (.ref f_Position_has_piece) = true)
    (no_Position_hunters : PySem.W.findIn K (.ref c_Position) "hunters" = some none)
    (no_Position_men : PySem.W.findIn K (.ref c_Position) "men" = some none)
    (no_Position_king : PySem.W.findIn K (.ref c_Position) "king" = some none)
    (no_Position_turn : PySem.W.findIn K (.ref c_Position) "turn" = some none)
    (no_Position_pieces : PySem.W.findIn K (.ref c_Position) "pieces" = some none)
    (mk_LineReader : PySem.W.makesIn K c_LineReader = true)
    (kc_LineReader : PySem.W.keepIn K (.ref c_LineReader) = true)
    (i_f_LineReader___init__ : PySem.W.isFn K (.ref f_LineReader___init__) = true)
    (pg_LineReader : PySem.W.plainGet K c_LineReader Str.empty = true)
    (hd_LineReader : PySem.W.hasDictIn K c_LineReader = true)
    (po_LineReader : PySem.W.plainOver K c_LineReader = true)
    (sa_LineReader : PySem.W.findIn K (.ref c_LineReader) "__setattr__" = some (some (.builtin "object.__setattr__")))
    (no_LineReader_text : PySem.W.findIn K (.ref c_LineReader) "text" = some none)
    (no_LineReader_at : PySem.W.findIn K (.ref c_LineReader) "at" = some none)
    (me_LineReader_next_byte : PySem.W.findIn K (.ref c_LineReader) "next_byte" = some (some (.ref f_Bytes_next_byte)))
    (me_LineReader_want : PySem.W.findIn K (.ref c_LineReader) "want" = some (some (.ref f_Bytes_want)))
    (me_LineReader_is_one_of : PySem.W.findIn K (.ref c_LineReader) "is_one_of" = some (some (.ref f_Bytes_is_one_of)))
    (me_LineReader_take : PySem.W.findIn K (.ref c_LineReader) "take" = some (some (.ref f_Bytes_take)))
    (me_LineReader_literal : PySem.W.findIn K (.ref c_LineReader) "literal" = some (some (.ref f_Bytes_literal)))
    (me_LineReader_line_end : PySem.W.findIn K (.ref c_LineReader) "line_end" = some (some (.ref f_Bytes_line_end)))
    (me_LineReader_choice : PySem.W.findIn K (.ref c_LineReader) "choice" = some (some (.ref f_Bytes_choice)))
    (me_LineReader_size : PySem.W.findIn K (.ref c_LineReader) "size" = some (some (.ref f_Bytes_size)))
    (me_LineReader_limit : PySem.W.findIn K (.ref c_LineReader) "limit" = some (some (.ref f_Bytes_limit)))
    (me_LineReader_name : PySem.W.findIn K (.ref c_LineReader) "name" = some (some (.ref f_Bytes_name)))
    (me_LineReader_finish : PySem.W.findIn K (.ref c_LineReader) "finish" = some (some (.ref f_Bytes_finish)))
    (i_f_LineReader_gap : PySem.W.isFn K (.ref f_LineReader_gap) = true)
    (i_f_LineReader_piece : PySem.W.isFn K (.ref f_LineReader_piece) = true)
    (i_f_LineReader_row : PySem.W.isFn K (.ref f_LineReader_row) = true)
    (i_f_LineReader_line : PySem.W.isFn K (.ref f_LineReader_line) = true)
    (no_LineReader_stood : PySem.W.findIn K (.ref c_LineReader) "stood" = some none)
    (mk_Node : PySem.W.makesIn K c_Node = true)
    (kc_Node : PySem.W.keepIn K (.ref c_Node) = true)
    (i_f_Node___init__ : PySem.W.isFn K (.ref f_Node___init__) = true)
    (pg_Node : PySem.W.plainGet K c_Node Str.empty = true)
    (hd_Node : PySem.W.hasDictIn K c_Node = true)
    (po_Node : PySem.W.plainOver K c_Node = true)
    (sa_Node : PySem.W.findIn K (.ref c_Node) "__setattr__" = some (some (.builtin "object.__setattr__")))
    (no_Node_position : PySem.W.findIn K (.ref c_Node) "position" = some none)
    (no_Node_over : PySem.W.findIn K (.ref c_Node) "over" = some none)
    (no_Node_branches : PySem.W.findIn K (.ref c_Node) "branches" = some none)
    (mk_Looking : PySem.W.makesIn K c_Looking = true)
    (kc_Looking : PySem.W.keepIn K (.ref c_Looking) = true)
    (i_f_Looking___init__ : PySem.W.isFn K (.ref f_Looking___init__) = true)
    (pg_Looking : PySem.W.plainGet K c_Looking Str.empty = true)
    (hd_Looking : PySem.W.hasDictIn K c_Looking = true)
    (po_Looking : PySem.W.plainOver K c_Looking = true)
    (sa_Looking : PySem.W.findIn K (.ref c_Looking) "__setattr__" = some (some (.builtin "object.__setattr__")))
    (i_f_Looking_node : PySem.W.isFn K (.ref f_Looking_node) = true)
    (no_Looking_rules : PySem.W.findIn K (.ref c_Looking) "rules" = some none)
    (no_Looking_left : PySem.W.findIn K (.ref c_Looking) "left" = some none)
    (mk_Desk : PySem.W.makesIn K c_Desk = true)
    (kc_Desk : PySem.W.keepIn K (.ref c_Desk) = true)
    (i_f_Desk___init__ : PySem.W.isFn K (.ref f_Desk___init__) = true)
    (pg_Desk : PySem.W.plainGet K c_Desk Str.empty = true)
    (hd_Desk : PySem.W.hasDictIn K c_Desk = true)
    (po_Desk : PySem.W.plainOver K c_Desk = true)
    (sa_Desk : PySem.W.findIn K (.ref c_Desk) "__setattr__" = some (some (.builtin "object.__setattr__")))
    (i_f_Desk_set_rules : PySem.W.isFn K (.ref f_Desk_set_rules) = true)
    (i_f_Desk_position_in : PySem.W.isFn K (.ref f_Desk_position_in) = true)
    (i_f_Desk_weigh : PySem.W.isFn K (.ref f_Desk_weigh) = true)
    (i_f_Desk_looked : PySem.W.isFn K (.ref f_Desk_looked) = true)
    (i_f_Desk_ahead : PySem.W.isFn K (.ref f_Desk_ahead) = true)
    (i_f_Desk_each : PySem.W.isFn K (.ref f_Desk_each) = true)
    (i_f_Desk_done : PySem.W.isFn K (.ref f_Desk_done) = true)
    (i_f_Desk_answer : PySem.W.isFn K (.ref f_Desk_answer) = true)
    (no_Desk_rules : PySem.W.findIn K (.ref c_Desk) "rules" = some none)
    (rd_c_Bytes : PySem.W.readsIn K c_Bytes (.type "type") = true)
    (ga_c_Bytes : PySem.W.specialIn K (.ref c_Bytes) "__getattribute__" = some (some (.builtin "type.__getattribute__")))
    (cv_at : PySem.W.findCls K (.ref c_Bytes) (.type "type") "__init__" = some (.val (.ref f_Bytes___init__)))
    (xl_Fault : K.lookup c_Fault = some (excClassObj nm_Fault q_Fault c_Fault N_Fault bs_Fault [.type "ValueError", .type "Exception", .type "BaseException", .type "object"] true sn_Fault sub_Fault ab_Fault col_Fault dd_Fault m0_Fault m1_Fault m2_Fault m3_Fault m5_Fault "ValueError.__new__"))
    (xsa_Fault : PySem.W.findIn K (.ref c_Fault) "__setattr__" = some (some (.builtin "object.__setattr__")))
    (xe_Fault : PySem.W.subIn K (.ref c_Fault) (.type "BaseException") = some true)
    (xt_Fault : PySem.W.typeIn K (.ref c_Fault) = some (.type "type"))
    (xk_Fault : PySem.W.keepIn K (.ref c_Fault) = true)
    (xti_Fault : PySem.W.typeIn K (.ref f_Fault___init__) = some (.type "function"))
    (xnf_kind : PySem.W.findIn K (.ref c_Fault) "kind" = some none)
    (xnf_place : PySem.W.findIn K (.ref c_Fault) "place" = some none)
    (xga_Fault : PySem.W.findIn K (.ref c_Fault) "__getattribute__" = some (some (.builtin "BaseException.__getattribute__")))
    (xgg_Fault : PySem.W.findIn K (.ref c_Fault) "__getattr__" = some none)
    (xhd_Fault : PySem.W.hasDictIn K c_Fault = true)
    (xis_Fault : PySem.W.isClsIn K c_Fault = true)
    (xss_Fault : PySem.W.subIn K (.ref c_Fault) (.ref c_Fault) = some true)
    (xl_Refused : K.lookup c_Refused = some (excClassObj nm_Refused q_Refused c_Refused N_Refused bs_Refused [.type "ValueError", .type "Exception", .type "BaseException", .type "object"] true sn_Refused sub_Refused ab_Refused col_Refused dd_Refused m0_Refused m1_Refused m2_Refused m3_Refused m5_Refused "ValueError.__new__"))
    (xsa_Refused : PySem.W.findIn K (.ref c_Refused) "__setattr__" = some (some (.builtin "object.__setattr__")))
    (xe_Refused : PySem.W.subIn K (.ref c_Refused) (.type "BaseException") = some true)
    (xt_Refused : PySem.W.typeIn K (.ref c_Refused) = some (.type "type"))
    (xk_Refused : PySem.W.keepIn K (.ref c_Refused) = true)
    (xti_Refused : PySem.W.typeIn K (.ref f_Refused___init__) = some (.type "function"))
    (xnf_told : PySem.W.findIn K (.ref c_Refused) "told" = some none)
    (xga_Refused : PySem.W.findIn K (.ref c_Refused) "__getattribute__" = some (some (.builtin "BaseException.__getattribute__")))
    (xgg_Refused : PySem.W.findIn K (.ref c_Refused) "__getattr__" = some none)
    (xhd_Refused : PySem.W.hasDictIn K c_Refused = true)
    (xis_Refused : PySem.W.isClsIn K c_Refused = true)
    (xss_Refused : PySem.W.subIn K (.ref c_Refused) (.ref c_Refused) = some true)
    (xTM : PySem.W.excIn K c_TooMany [.type "ValueError", .type "Exception", .type "BaseException", .type "object"] "ValueError.__new__" = true)
    (xk_TooMany : PySem.W.keepIn K (.ref c_TooMany) = true)
    (xe_TooMany : PySem.W.subIn K (.ref c_TooMany) (.type "BaseException") = some true)
    (xt_TooMany : PySem.W.typeIn K (.ref c_TooMany) = some (.type "type"))
    (xis_TooMany : PySem.W.isClsIn K c_TooMany = true)
    (xss_TooMany : PySem.W.subIn K (.ref c_TooMany) (.ref c_TooMany) = some true)
    (ve : PySem.W.findCls K (.type "ValueError") (.type "type") "__init__" = some (.val (.builtin "ValueError.__init__")))
    (nn_len : PySem.W.nsIn K mainGlobals "len" = some none)
    (nn_int : PySem.W.nsIn K mainGlobals "int" = some none)
    (nn_ord : PySem.W.nsIn K mainGlobals "ord" = some none)
    (nn_max : PySem.W.nsIn K mainGlobals "max" = some none)
    (nn_min : PySem.W.nsIn K mainGlobals "min" = some none)
    (nn_sorted : PySem.W.nsIn K mainGlobals "sorted" = some none)
    (nn_all : PySem.W.nsIn K mainGlobals "all" = some none)
    (nn_list : PySem.W.nsIn K mainGlobals "list" = some none)
    (nn_dict : PySem.W.nsIn K mainGlobals "dict" = some none)
    (nn_range : PySem.W.nsIn K mainGlobals "range" = some none)
    (nn_ValueError : PySem.W.nsIn K mainGlobals "ValueError" = some none)
    (gk_LINE_END : PySem.W.nsIn K mainGlobals "LINE_END" = some (some (.int 10 t_LINE_END)))
    (gk_FARTHEST : PySem.W.nsIn K mainGlobals "FARTHEST" = some (some (.int 13 t_FARTHEST)))
    (gk_MOST_LIMIT : PySem.W.nsIn K mainGlobals "MOST_LIMIT" = some (some (.int 60000 t_MOST_LIMIT)))
    (gk_MOST_NAME : PySem.W.nsIn K mainGlobals "MOST_NAME" = some (some (.int 16 t_MOST_NAME)))
    (gk_GROUND : PySem.W.nsIn K mainGlobals "GROUND" = some (some (.str ".SX#" t_GROUND)))
    (gk_START : PySem.W.nsIn K mainGlobals "START" = some (some (.str ".hmK" t_START)))
    (gk_SIDES : PySem.W.nsIn K mainGlobals "SIDES" = some (some (.ref a_SIDES)))
    (gk_ENMITIES : PySem.W.nsIn K mainGlobals "ENMITIES" = some (some (.ref a_ENMITIES)))
    (gk_NO_TEXT : PySem.W.nsIn K mainGlobals "NO_TEXT" = some (some (.int 1 t_NO_TEXT)))
    (gk_SECOND_SEAT : PySem.W.nsIn K mainGlobals "SECOND_SEAT" = some (some (.int 2 t_SECOND_SEAT)))
    (gk_WRONG_PIECE_rules : PySem.W.nsIn K mainGlobals "WRONG_PIECE_rules" = some (some (.int 3 t_WRONG_PIECE_rules)))
    (gk_SECOND_KING : PySem.W.nsIn K mainGlobals "SECOND_KING" = some (some (.int 4 t_SECOND_KING)))
    (gk_NO_GOAL : PySem.W.nsIn K mainGlobals "NO_GOAL" = some (some (.int 5 t_NO_GOAL)))
    (gk_NOT_THERE : PySem.W.nsIn K mainGlobals "NOT_THERE" = some (some (.int 6 t_NOT_THERE)))
    (gk_HUNTERS : PySem.W.nsIn K mainGlobals "HUNTERS" = some (some (.int 0 t_HUNTERS)))
    (gk_KING : PySem.W.nsIn K mainGlobals "KING" = some (some (.int 1 t_KING)))
    (gk_WRONG_PIECE_positions : PySem.W.nsIn K mainGlobals "WRONG_PIECE_positions" = some (some (.int 2 t_WRONG_PIECE_positions)))
    (gk_NO_KING : PySem.W.nsIn K mainGlobals "NO_KING" = some (some (.int (-1) t_NO_KING)))
    (gk_WAYS : PySem.W.nsIn K mainGlobals "WAYS" = some (some (.ref a_WAYS)))
    (gk_NOT_OVER : PySem.W.nsIn K mainGlobals "NOT_OVER" = some (some (.int 0 t_NOT_OVER)))
    (gk_KING_TAKEN : PySem.W.nsIn K mainGlobals "KING_TAKEN" = some (some (.int 1 t_KING_TAKEN)))
    (gk_AT_GOAL : PySem.W.nsIn K mainGlobals "AT_GOAL" = some (some (.int 2 t_AT_GOAL)))
    (gk_NO_MOVE : PySem.W.nsIn K mainGlobals "NO_MOVE" = some (some (.int 3 t_NO_MOVE)))
    (gk_AGAINST_HUNTERS : PySem.W.nsIn K mainGlobals "AGAINST_HUNTERS" = some (some (.ref a_AGAINST_HUNTERS)))
    (gk_AGAINST_MEN : PySem.W.nsIn K mainGlobals "AGAINST_MEN" = some (some (.ref a_AGAINST_MEN)))
    (gk_END : PySem.W.nsIn K mainGlobals "END" = some (some (.int 1000000 t_END)))
    (gk_BAD : PySem.W.nsIn K mainGlobals "BAD" = some (some (.int (-1) t_BAD)))
    (gk_NO_RULES : PySem.W.nsIn K mainGlobals "NO_RULES" = some (some (.int (-3) t_NO_RULES)))
    (gk_BAD_LINE : PySem.W.nsIn K mainGlobals "BAD_LINE" = some (some (.int (-5) t_BAD_LINE)))
    (gk_BAD_RULES : PySem.W.nsIn K mainGlobals "BAD_RULES" = some (some (.int (-6) t_BAD_RULES)))
    (gk_BAD_WEIGHT : PySem.W.nsIn K mainGlobals "BAD_WEIGHT" = some (some (.int (-8) t_BAD_WEIGHT)))
    (gk_TOO_MANY : PySem.W.nsIn K mainGlobals "TOO_MANY" = some (some (.int (-9) t_TOO_MANY)))
    (gk_MOST_WEIGHT : PySem.W.nsIn K mainGlobals "MOST_WEIGHT" = some (some (.int 1000 t_MOST_WEIGHT)))
    (gk_MOST_AHEAD : PySem.W.nsIn K mainGlobals "MOST_AHEAD" = some (some (.int 4 t_MOST_AHEAD)))
    (gk_MOST_MOVES : PySem.W.nsIn K mainGlobals "MOST_MOVES" = some (some (.int 600 t_MOST_MOVES)))
    (gk_NUMBERS : PySem.W.nsIn K mainGlobals "NUMBERS" = some (some (.ref a_NUMBERS)))
    (gk_EACH : PySem.W.nsIn K mainGlobals "EACH" = some (some (.int 3 t_EACH)))
    (lt_SIDES : K.lookup a_SIDES = some ⟨.type "tuple", none, .seq #[.str "hunters" t_SIDES_0, .str "king" t_SIDES_1] n_SIDES, s_SIDES⟩)
    (lt_ENMITIES : K.lookup a_ENMITIES = some ⟨.type "tuple", none, .seq #[.str "quiet" t_ENMITIES_0, .str "hunters" t_ENMITIES_1, .str "men" t_ENMITIES_2, .str "all" t_ENMITIES_3] n_ENMITIES, s_ENMITIES⟩)
    (lt_WAYS : K.lookup a_WAYS = some ⟨.type "tuple", none, .seq #[.ref a_WAY0, .ref a_WAY1, .ref a_WAY2, .ref a_WAY3] n_WAYS, s_WAYS⟩)
    (lt_WAY0 : K.lookup a_WAY0 = some ⟨.type "tuple", none, .seq #[.int 0 t_WAY0_0, .int 1 t_WAY0_1] n_WAY0, s_WAY0⟩)
    (lt_WAY1 : K.lookup a_WAY1 = some ⟨.type "tuple", none, .seq #[.int 1 t_WAY1_0, .int 0 t_WAY1_1] n_WAY1, s_WAY1⟩)
    (lt_WAY2 : K.lookup a_WAY2 = some ⟨.type "tuple", none, .seq #[.int 0 t_WAY2_0, .int (-1) t_WAY2_1] n_WAY2, s_WAY2⟩)
    (lt_WAY3 : K.lookup a_WAY3 = some ⟨.type "tuple", none, .seq #[.int (-1) t_WAY3_0, .int 0 t_WAY3_1] n_WAY3, s_WAY3⟩)
    (lt_AGAINST_HUNTERS : K.lookup a_AGAINST_HUNTERS = some ⟨.type "tuple", none, .seq #[.int 1 t_AGAINST_HUNTERS_0, .int 3 t_AGAINST_HUNTERS_1] n_AGAINST_HUNTERS, s_AGAINST_HUNTERS⟩)
    (lt_AGAINST_MEN : K.lookup a_AGAINST_MEN = some ⟨.type "tuple", none, .seq #[.int 2 t_AGAINST_MEN_0, .int 3 t_AGAINST_MEN_1] n_AGAINST_MEN, s_AGAINST_MEN⟩)
    (lt_NUMBERS : K.lookup a_NUMBERS = some ⟨.type "tuple", none, .seq #[.int 0 t_NUMBERS_0, .int 3 t_NUMBERS_1, .int 5 t_NUMBERS_2, .int 5 t_NUMBERS_3] n_NUMBERS, s_NUMBERS⟩)
    : ∃ A, Txt K mg A ∧ ∀ (s : Shared) (us : List Value), us.length = 1 → BindsTo s A.d_answers ⟨us, []⟩ ((["calls"] : List Str).zip us) :=
  ⟨⟨c_Fault, c_Bytes, c_Rules, c_Position, c_LineReader, c_TooMany, c_Node, c_Looking, c_Refused, c_Desk, f_Fault___init__, PySem.W.fnOf "__init__" "Fault.__init__" (defArgs s_Fault___init__) (defBody s_Fault___init__) (defScope s_Fault___init__) .none kV_Fault___init__ dc_Fault___init__ pm_Fault___init__ an_Fault___init__ cd_Fault___init__ ct_Fault___init__, f_Bytes___init__, PySem.W.fnOf "__init__" "Bytes.__init__" (defArgs s_Bytes___init__) (defBody s_Bytes___init__) (defScope s_Bytes___init__) .none kV_Bytes___init__ dc_Bytes___init__ pm_Bytes___init__ an_Bytes___init__ cd_Bytes___init__ ct_Bytes___init__, f_Bytes_next_byte, PySem.W.fnOf "next_byte" "Bytes.next_byte" (defArgs s_Bytes_next_byte) (defBody s_Bytes_next_byte) (defScope s_Bytes_next_byte) .none kV_Bytes_next_byte dc_Bytes_next_byte pm_Bytes_next_byte an_Bytes_next_byte cd_Bytes_next_byte ct_Bytes_next_byte, f_Bytes_want, PySem.W.fnOf "want" "Bytes.want" (defArgs s_Bytes_want) (defBody s_Bytes_want) (defScope s_Bytes_want) .none kV_Bytes_want dc_Bytes_want pm_Bytes_want an_Bytes_want cd_Bytes_want ct_Bytes_want, f_Bytes_is_one_of, PySem.W.fnOf "is_one_of" "Bytes.is_one_of" (defArgs s_Bytes_is_one_of) (defBody s_Bytes_is_one_of) (defScope s_Bytes_is_one_of) .none kV_Bytes_is_one_of dc_Bytes_is_one_of pm_Bytes_is_one_of an_Bytes_is_one_of cd_Bytes_is_one_of ct_Bytes_is_one_of, f_Bytes_take, PySem.W.fnOf "take" "Bytes.take" (defArgs s_Bytes_take) (defBody s_Bytes_take) (defScope s_Bytes_take) .none kV_Bytes_take dc_Bytes_take pm_Bytes_take an_Bytes_take cd_Bytes_take ct_Bytes_take, f_Bytes_literal, PySem.W.fnOf "literal" "Bytes.literal" (defArgs s_Bytes_literal) (defBody s_Bytes_literal) (defScope s_Bytes_literal) .none kV_Bytes_literal dc_Bytes_literal pm_Bytes_literal an_Bytes_literal cd_Bytes_literal ct_Bytes_literal, f_Bytes_line_end, PySem.W.fnOf "line_end" "Bytes.line_end" (defArgs s_Bytes_line_end) (defBody s_Bytes_line_end) (defScope s_Bytes_line_end) .none kV_Bytes_line_end dc_Bytes_line_end pm_Bytes_line_end an_Bytes_line_end cd_Bytes_line_end ct_Bytes_line_end, f_Bytes_choice, PySem.W.fnOf "choice" "Bytes.choice" (defArgs s_Bytes_choice) (defBody s_Bytes_choice) (defScope s_Bytes_choice) .none kV_Bytes_choice dc_Bytes_choice pm_Bytes_choice an_Bytes_choice cd_Bytes_choice ct_Bytes_choice, f_Bytes_size, PySem.W.fnOf "size" "Bytes.size" (defArgs s_Bytes_size) (defBody s_Bytes_size) (defScope s_Bytes_size) .none kV_Bytes_size dc_Bytes_size pm_Bytes_size an_Bytes_size cd_Bytes_size ct_Bytes_size, f_Bytes_limit, PySem.W.fnOf "limit" "Bytes.limit" (defArgs s_Bytes_limit) (defBody s_Bytes_limit) (defScope s_Bytes_limit) .none kV_Bytes_limit dc_Bytes_limit pm_Bytes_limit an_Bytes_limit cd_Bytes_limit ct_Bytes_limit, f_Bytes_name, PySem.W.fnOf "name" "Bytes.name" (defArgs s_Bytes_name) (defBody s_Bytes_name) (defScope s_Bytes_name) .none kV_Bytes_name dc_Bytes_name pm_Bytes_name an_Bytes_name cd_Bytes_name ct_Bytes_name, f_Bytes_finish, PySem.W.fnOf "finish" "Bytes.finish" (defArgs s_Bytes_finish) (defBody s_Bytes_finish) (defScope s_Bytes_finish) .none kV_Bytes_finish dc_Bytes_finish pm_Bytes_finish an_Bytes_finish cd_Bytes_finish ct_Bytes_finish, f_is_letter, PySem.W.fnOf "is_letter" "is_letter" (defArgs s_is_letter) (defBody s_is_letter) (defScope s_is_letter) .none kV_is_letter dc_is_letter pm_is_letter an_is_letter cd_is_letter ct_is_letter, f_Rules___init__, PySem.W.fnOf "__init__" "Rules.__init__" (defArgs s_Rules___init__) (defBody s_Rules___init__) (defScope s_Rules___init__) .none kV_Rules___init__ dc_Rules___init__ pm_Rules___init__ an_Rules___init__ cd_Rules___init__ ct_Rules___init__, f_Rules_is_edge, PySem.W.fnOf "is_edge" "Rules.is_edge" (defArgs s_Rules_is_edge) (defBody s_Rules_is_edge) (defScope s_Rules_is_edge) .none kV_Rules_is_edge dc_Rules_is_edge pm_Rules_is_edge an_Rules_is_edge cd_Rules_is_edge ct_Rules_is_edge, f_Rules_is_goal, PySem.W.fnOf "is_goal" "Rules.is_goal" (defArgs s_Rules_is_goal) (defBody s_Rules_is_goal) (defScope s_Rules_is_goal) .none kV_Rules_is_goal dc_Rules_is_goal pm_Rules_is_goal an_Rules_is_goal cd_Rules_is_goal ct_Rules_is_goal, f_Rules_has, PySem.W.fnOf "has" "Rules.has" (defArgs s_Rules_has) (defBody s_Rules_has) (defScope s_Rules_has) .none kV_Rules_has dc_Rules_has pm_Rules_has an_Rules_has cd_Rules_has ct_Rules_has, f_Rules_may_stand, PySem.W.fnOf "may_stand" "Rules.may_stand" (defArgs s_Rules_may_stand) (defBody s_Rules_may_stand) (defScope s_Rules_may_stand) .none kV_Rules_may_stand dc_Rules_may_stand pm_Rules_may_stand an_Rules_may_stand cd_Rules_may_stand ct_Rules_may_stand, f_Rules_settle, PySem.W.fnOf "settle" "Rules.settle" (defArgs s_Rules_settle) (defBody s_Rules_settle) (defScope s_Rules_settle) .none kV_Rules_settle dc_Rules_settle pm_Rules_settle an_Rules_settle cd_Rules_settle ct_Rules_settle, f_rows_read, PySem.W.fnOf "rows_read" "rows_read" (defArgs s_rows_read) (defBody s_rows_read) (defScope s_rows_read) .none kV_rows_read dc_rows_read pm_rows_read an_rows_read cd_rows_read ct_rows_read, f_head_read, PySem.W.fnOf "head_read" "head_read" (defArgs s_head_read) (defBody s_head_read) (defScope s_head_read) .none kV_head_read dc_head_read pm_head_read an_head_read cd_head_read ct_head_read, f_king_read, PySem.W.fnOf "king_read" "king_read" (defArgs s_king_read) (defBody s_king_read) (defScope s_king_read) .none kV_king_read dc_king_read pm_king_read an_king_read cd_king_read ct_king_read, f_rest_read, PySem.W.fnOf "rest_read" "rest_read" (defArgs s_rest_read) (defBody s_rest_read) (defScope s_rest_read) .none kV_rest_read dc_rest_read pm_rest_read an_rest_read cd_rest_read ct_rest_read, f_second_of, PySem.W.fnOf "second_of" "second_of" (defArgs s_second_of) (defBody s_second_of) (defScope s_second_of) .none kV_second_of dc_second_of pm_second_of an_second_of cd_second_of ct_second_of, f_wrong_pieces, PySem.W.fnOf "wrong_pieces" "wrong_pieces" (defArgs s_wrong_pieces) (defBody s_wrong_pieces) (defScope s_wrong_pieces) .none kV_wrong_pieces dc_wrong_pieces pm_wrong_pieces an_wrong_pieces cd_wrong_pieces ct_wrong_pieces, f_is_goal_wrong, PySem.W.fnOf "is_goal_wrong" "is_goal_wrong" (defArgs s_is_goal_wrong) (defBody s_is_goal_wrong) (defScope s_is_goal_wrong) .none kV_is_goal_wrong dc_is_goal_wrong pm_is_goal_wrong an_is_goal_wrong cd_is_goal_wrong ct_is_goal_wrong, f_lacks, PySem.W.fnOf "lacks" "lacks" (defArgs s_lacks) (defBody s_lacks) (defScope s_lacks) .none kV_lacks dc_lacks pm_lacks an_lacks cd_lacks ct_lacks, f_read_rules, PySem.W.fnOf "read_rules" "read_rules" (defArgs s_read_rules) (defBody s_read_rules) (defScope s_read_rules) .none kV_read_rules dc_read_rules pm_read_rules an_read_rules cd_read_rules ct_read_rules, f_second_seats, PySem.W.fnOf "second_seats" "second_seats" (defArgs s_second_seats) (defBody s_second_seats) (defScope s_second_seats) .none kV_second_seats dc_second_seats pm_second_seats an_second_seats cd_second_seats ct_second_seats, f_Position___init__, PySem.W.fnOf "__init__" "Position.__init__" (defArgs s_Position___init__) (defBody s_Position___init__) (defScope s_Position___init__) .none kV_Position___init__ dc_Position___init__ pm_Position___init__ an_Position___init__ cd_Position___init__ ct_Position___init__, f_Position_has_piece, PySem.W.fnOf "has_piece" "Position.has_piece" (defArgs s_Position_has_piece) (defBody s_Position_has_piece) (defScope s_Position_has_piece) .none kV_Position_has_piece dc_Position_has_piece pm_Position_has_piece an_Position_has_piece cd_Position_has_piece ct_Position_has_piece, f_LineReader___init__, PySem.W.fnOf "__init__" "LineReader.__init__" (defArgs s_LineReader___init__) (defBody s_LineReader___init__) (defScope s_LineReader___init__) .none kV_LineReader___init__ dc_LineReader___init__ pm_LineReader___init__ an_LineReader___init__ cd_LineReader___init__ ct_LineReader___init__, f_LineReader_gap, PySem.W.fnOf "gap" "LineReader.gap" (defArgs s_LineReader_gap) (defBody s_LineReader_gap) (defScope s_LineReader_gap) .none kV_LineReader_gap dc_LineReader_gap pm_LineReader_gap an_LineReader_gap cd_LineReader_gap ct_LineReader_gap, f_LineReader_piece, PySem.W.fnOf "piece" "LineReader.piece" (defArgs s_LineReader_piece) (defBody s_LineReader_piece) (defScope s_LineReader_piece) .none kV_LineReader_piece dc_LineReader_piece pm_LineReader_piece an_LineReader_piece cd_LineReader_piece ct_LineReader_piece, f_LineReader_row, PySem.W.fnOf "row" "LineReader.row" (defArgs s_LineReader_row) (defBody s_LineReader_row) (defScope s_LineReader_row) .none kV_LineReader_row dc_LineReader_row pm_LineReader_row an_LineReader_row cd_LineReader_row ct_LineReader_row, f_LineReader_line, PySem.W.fnOf "line" "LineReader.line" (defArgs s_LineReader_line) (defBody s_LineReader_line) (defScope s_LineReader_line) .none kV_LineReader_line dc_LineReader_line pm_LineReader_line an_LineReader_line cd_LineReader_line ct_LineReader_line, f_read_position, PySem.W.fnOf "read_position" "read_position" (defArgs s_read_position) (defBody s_read_position) (defScope s_read_position) .none kV_read_position dc_read_position pm_read_position an_read_position cd_read_position ct_read_position, f_beside, PySem.W.fnOf "beside" "beside" (defArgs s_beside) (defBody s_beside) (defScope s_beside) .none kV_beside dc_beside pm_beside an_beside cd_beside ct_beside, f_is_free, PySem.W.fnOf "is_free" "is_free" (defArgs s_is_free) (defBody s_is_free) (defScope s_is_free) .none kV_is_free dc_is_free pm_is_free an_is_free cd_is_free ct_is_free, f_may_stop, PySem.W.fnOf "may_stop" "may_stop" (defArgs s_may_stop) (defBody s_may_stop) (defScope s_may_stop) .none kV_may_stop dc_may_stop pm_may_stop an_may_stop cd_may_stop ct_may_stop, f_may_go_over, PySem.W.fnOf "may_go_over" "may_go_over" (defArgs s_may_go_over) (defBody s_may_go_over) (defScope s_may_go_over) .none kV_may_go_over dc_may_go_over pm_may_go_over an_may_go_over cd_may_go_over ct_may_go_over, f_goals_of, PySem.W.fnOf "goals_of" "goals_of" (defArgs s_goals_of) (defBody s_goals_of) (defScope s_goals_of) .none kV_goals_of dc_goals_of pm_goals_of an_goals_of cd_goals_of ct_goals_of, f_king_goals, PySem.W.fnOf "king_goals" "king_goals" (defArgs s_king_goals) (defBody s_king_goals) (defScope s_king_goals) .none kV_king_goals dc_king_goals pm_king_goals an_king_goals cd_king_goals ct_king_goals, f_movers, PySem.W.fnOf "movers" "movers" (defArgs s_movers) (defBody s_movers) (defScope s_movers) .none kV_movers dc_movers pm_movers an_movers cd_movers ct_movers, f_moves_of, PySem.W.fnOf "moves_of" "moves_of" (defArgs s_moves_of) (defBody s_moves_of) (defScope s_moves_of) .none kV_moves_of dc_moves_of pm_moves_of an_moves_of cd_moves_of ct_moves_of, f_has_move, PySem.W.fnOf "has_move" "has_move" (defArgs s_has_move) (defBody s_has_move) (defScope s_has_move) .none kV_has_move dc_has_move pm_has_move an_has_move cd_has_move ct_has_move, f_is_against, PySem.W.fnOf "is_against" "is_against" (defArgs s_is_against) (defBody s_is_against) (defScope s_is_against) .none kV_is_against dc_is_against pm_is_against an_is_against cd_is_against ct_is_against, f_has_hunter_or_against, PySem.W.fnOf "has_hunter_or_against" "has_hunter_or_against" (defArgs s_has_hunter_or_against) (defBody s_has_hunter_or_against) (defScope s_has_hunter_or_against) .none kV_has_hunter_or_against dc_has_hunter_or_against pm_has_hunter_or_against an_has_hunter_or_against cd_has_hunter_or_against ct_has_hunter_or_against, f_is_helper, PySem.W.fnOf "is_helper" "is_helper" (defArgs s_is_helper) (defBody s_is_helper) (defScope s_is_helper) .none kV_is_helper dc_is_helper pm_is_helper an_is_helper cd_is_helper ct_is_helper, f_taken_hunters, PySem.W.fnOf "taken_hunters" "taken_hunters" (defArgs s_taken_hunters) (defBody s_taken_hunters) (defScope s_taken_hunters) .none kV_taken_hunters dc_taken_hunters pm_taken_hunters an_taken_hunters cd_taken_hunters ct_taken_hunters, f_is_king_shut, PySem.W.fnOf "is_king_shut" "is_king_shut" (defArgs s_is_king_shut) (defBody s_is_king_shut) (defScope s_is_king_shut) .none kV_is_king_shut dc_is_king_shut pm_is_king_shut an_is_king_shut cd_is_king_shut ct_is_king_shut, f_taken_men, PySem.W.fnOf "taken_men" "taken_men" (defArgs s_taken_men) (defBody s_taken_men) (defScope s_taken_men) .none kV_taken_men dc_taken_men pm_taken_men an_taken_men cd_taken_men ct_taken_men, f_gone_to, PySem.W.fnOf "gone_to" "gone_to" (defArgs s_gone_to) (defBody s_gone_to) (defScope s_gone_to) .none kV_gone_to dc_gone_to pm_gone_to an_gone_to cd_gone_to ct_gone_to, f_made, PySem.W.fnOf "made" "made" (defArgs s_made) (defBody s_made) (defScope s_made) .none kV_made dc_made pm_made an_made cd_made ct_made, f_over_by, PySem.W.fnOf "over_by" "over_by" (defArgs s_over_by) (defBody s_over_by) (defScope s_over_by) .none kV_over_by dc_over_by pm_over_by an_over_by cd_over_by ct_over_by, f_have_hunters_won, PySem.W.fnOf "have_hunters_won" "have_hunters_won" (defArgs s_have_hunters_won) (defBody s_have_hunters_won) (defScope s_have_hunters_won) .none kV_have_hunters_won dc_have_hunters_won pm_have_hunters_won an_have_hunters_won cd_have_hunters_won ct_have_hunters_won, f_weighed, PySem.W.fnOf "weighed" "weighed" (defArgs s_weighed) (defBody s_weighed) (defScope s_weighed) .none kV_weighed dc_weighed pm_weighed an_weighed cd_weighed ct_weighed, f_Node___init__, PySem.W.fnOf "__init__" "Node.__init__" (defArgs s_Node___init__) (defBody s_Node___init__) (defScope s_Node___init__) .none kV_Node___init__ dc_Node___init__ pm_Node___init__ an_Node___init__ cd_Node___init__ ct_Node___init__, f_Looking___init__, PySem.W.fnOf "__init__" "Looking.__init__" (defArgs s_Looking___init__) (defBody s_Looking___init__) (defScope s_Looking___init__) .none kV_Looking___init__ dc_Looking___init__ pm_Looking___init__ an_Looking___init__ cd_Looking___init__ ct_Looking___init__, f_Looking_node, PySem.W.fnOf "node" "Looking.node" (defArgs s_Looking_node) (defBody s_Looking_node) (defScope s_Looking_node) .none kV_Looking_node dc_Looking_node pm_Looking_node an_Looking_node cd_Looking_node ct_Looking_node, f_worth, PySem.W.fnOf "worth" "worth" (defArgs s_worth) (defBody s_worth) (defScope s_worth) .none kV_worth dc_worth pm_worth an_worth cd_worth ct_worth, f_branch_worths, PySem.W.fnOf "branch_worths" "branch_worths" (defArgs s_branch_worths) (defBody s_branch_worths) (defScope s_branch_worths) .none kV_branch_worths dc_branch_worths pm_branch_worths an_branch_worths cd_branch_worths ct_branch_worths, f_row_of, PySem.W.fnOf "row_of" "row_of" (defArgs s_row_of) (defBody s_row_of) (defScope s_row_of) .none kV_row_of dc_row_of pm_row_of an_row_of cd_row_of ct_row_of, f_Refused___init__, PySem.W.fnOf "__init__" "Refused.__init__" (defArgs s_Refused___init__) (defBody s_Refused___init__) (defScope s_Refused___init__) .none kV_Refused___init__ dc_Refused___init__ pm_Refused___init__ an_Refused___init__ cd_Refused___init__ ct_Refused___init__, f_want, PySem.W.fnOf "want" "want" (defArgs s_want) (defBody s_want) (defScope s_want) .none kV_want dc_want pm_want an_want cd_want ct_want, f_Desk___init__, PySem.W.fnOf "__init__" "Desk.__init__" (defArgs s_Desk___init__) (defBody s_Desk___init__) (defScope s_Desk___init__) .none kV_Desk___init__ dc_Desk___init__ pm_Desk___init__ an_Desk___init__ cd_Desk___init__ ct_Desk___init__, f_Desk_set_rules, PySem.W.fnOf "set_rules" "Desk.set_rules" (defArgs s_Desk_set_rules) (defBody s_Desk_set_rules) (defScope s_Desk_set_rules) .none kV_Desk_set_rules dc_Desk_set_rules pm_Desk_set_rules an_Desk_set_rules cd_Desk_set_rules ct_Desk_set_rules, f_Desk_position_in, PySem.W.fnOf "position_in" "Desk.position_in" (defArgs s_Desk_position_in) (defBody s_Desk_position_in) (defScope s_Desk_position_in) .none kV_Desk_position_in dc_Desk_position_in pm_Desk_position_in an_Desk_position_in cd_Desk_position_in ct_Desk_position_in, f_Desk_weigh, PySem.W.fnOf "weigh" "Desk.weigh" (defArgs s_Desk_weigh) (defBody s_Desk_weigh) (defScope s_Desk_weigh) .none kV_Desk_weigh dc_Desk_weigh pm_Desk_weigh an_Desk_weigh cd_Desk_weigh ct_Desk_weigh, f_Desk_looked, PySem.W.fnOf "looked" "Desk.looked" (defArgs s_Desk_looked) (defBody s_Desk_looked) (defScope s_Desk_looked) .none kV_Desk_looked dc_Desk_looked pm_Desk_looked an_Desk_looked cd_Desk_looked ct_Desk_looked, f_Desk_ahead, PySem.W.fnOf "ahead" "Desk.ahead" (defArgs s_Desk_ahead) (defBody s_Desk_ahead) (defScope s_Desk_ahead) .none kV_Desk_ahead dc_Desk_ahead pm_Desk_ahead an_Desk_ahead cd_Desk_ahead ct_Desk_ahead, f_Desk_each, PySem.W.fnOf "each" "Desk.each" (defArgs s_Desk_each) (defBody s_Desk_each) (defScope s_Desk_each) .none kV_Desk_each dc_Desk_each pm_Desk_each an_Desk_each cd_Desk_each ct_Desk_each, f_Desk_done, PySem.W.fnOf "done" "Desk.done" (defArgs s_Desk_done) (defBody s_Desk_done) (defScope s_Desk_done) .none kV_Desk_done dc_Desk_done pm_Desk_done an_Desk_done cd_Desk_done ct_Desk_done, f_Desk_answer, PySem.W.fnOf "answer" "Desk.answer" (defArgs s_Desk_answer) (defBody s_Desk_answer) (defScope s_Desk_answer) .none kV_Desk_answer dc_Desk_answer pm_Desk_answer an_Desk_answer cd_Desk_answer ct_Desk_answer, f_answers, PySem.W.fnOf "answers" "answers" (defArgs s_answers) (defBody s_answers) (defScope s_answers) .none kV_answers dc_answers pm_answers an_answers cd_answers ct_answers, a_SIDES, a_ENMITIES, a_WAYS, a_AGAINST_HUNTERS, a_AGAINST_MEN, a_NUMBERS, a_WAY0, a_WAY1, a_WAY2, a_WAY3⟩,
  { F_Fault___init__ := fun_mk (st := s_Fault___init__) l_f_Fault___init__ c_f_Fault___init__ k_f_Fault___init__,
    b_Fault___init__ := (fun_mk (st := s_Fault___init__) l_f_Fault___init__ c_f_Fault___init__ k_f_Fault___init__).binds (ps := ["self", "kind", "place"]) fun _ _ _ _ _ _ us hl => match us, hl with | [_, _, _], _ => rfl,
    F_Bytes___init__ := fun_mk (st := s_Bytes___init__) l_f_Bytes___init__ c_f_Bytes___init__ k_f_Bytes___init__,
    b_Bytes___init__ := (fun_mk (st := s_Bytes___init__) l_f_Bytes___init__ c_f_Bytes___init__ k_f_Bytes___init__).binds (ps := ["self", "text"]) fun _ _ _ _ _ _ us hl => match us, hl with | [_, _], _ => rfl,
    F_Bytes_next_byte := fun_mk (st := s_Bytes_next_byte) l_f_Bytes_next_byte c_f_Bytes_next_byte k_f_Bytes_next_byte,
    b_Bytes_next_byte := (fun_mk (st := s_Bytes_next_byte) l_f_Bytes_next_byte c_f_Bytes_next_byte k_f_Bytes_next_byte).binds (ps := ["self"]) fun _ _ _ _ _ _ us hl => match us, hl with | [_], _ => rfl,
    F_Bytes_want := fun_mk (st := s_Bytes_want) l_f_Bytes_want c_f_Bytes_want k_f_Bytes_want,
    b_Bytes_want := (fun_mk (st := s_Bytes_want) l_f_Bytes_want c_f_Bytes_want k_f_Bytes_want).binds (ps := ["self", "truth"]) fun _ _ _ _ _ _ us hl => match us, hl with | [_, _], _ => rfl,
    F_Bytes_is_one_of := fun_mk (st := s_Bytes_is_one_of) l_f_Bytes_is_one_of c_f_Bytes_is_one_of k_f_Bytes_is_one_of,
    b_Bytes_is_one_of := (fun_mk (st := s_Bytes_is_one_of) l_f_Bytes_is_one_of c_f_Bytes_is_one_of k_f_Bytes_is_one_of).binds (ps := ["self", "signs"]) fun _ _ _ _ _ _ us hl => match us, hl with | [_, _], _ => rfl,
    F_Bytes_take := fun_mk (st := s_Bytes_take) l_f_Bytes_take c_f_Bytes_take k_f_Bytes_take,
    b_Bytes_take := (fun_mk (st := s_Bytes_take) l_f_Bytes_take c_f_Bytes_take k_f_Bytes_take).binds (ps := ["self", "signs"]) fun _ _ _ _ _ _ us hl => match us, hl with | [_, _], _ => rfl,
    F_Bytes_literal := fun_mk (st := s_Bytes_literal) l_f_Bytes_literal c_f_Bytes_literal k_f_Bytes_literal,
    b_Bytes_literal := (fun_mk (st := s_Bytes_literal) l_f_Bytes_literal c_f_Bytes_literal k_f_Bytes_literal).binds (ps := ["self", "word"]) fun _ _ _ _ _ _ us hl => match us, hl with | [_, _], _ => rfl,
    F_Bytes_line_end := fun_mk (st := s_Bytes_line_end) l_f_Bytes_line_end c_f_Bytes_line_end k_f_Bytes_line_end,
    b_Bytes_line_end := (fun_mk (st := s_Bytes_line_end) l_f_Bytes_line_end c_f_Bytes_line_end k_f_Bytes_line_end).binds (ps := ["self"]) fun _ _ _ _ _ _ us hl => match us, hl with | [_], _ => rfl,
    F_Bytes_choice := fun_mk (st := s_Bytes_choice) l_f_Bytes_choice c_f_Bytes_choice k_f_Bytes_choice,
    b_Bytes_choice := (fun_mk (st := s_Bytes_choice) l_f_Bytes_choice c_f_Bytes_choice k_f_Bytes_choice).binds (ps := ["self", "words"]) fun _ _ _ _ _ _ us hl => match us, hl with | [_, _], _ => rfl,
    F_Bytes_size := fun_mk (st := s_Bytes_size) l_f_Bytes_size c_f_Bytes_size k_f_Bytes_size,
    b_Bytes_size := (fun_mk (st := s_Bytes_size) l_f_Bytes_size c_f_Bytes_size k_f_Bytes_size).binds (ps := ["self"]) fun _ _ _ _ _ _ us hl => match us, hl with | [_], _ => rfl,
    F_Bytes_limit := fun_mk (st := s_Bytes_limit) l_f_Bytes_limit c_f_Bytes_limit k_f_Bytes_limit,
    b_Bytes_limit := (fun_mk (st := s_Bytes_limit) l_f_Bytes_limit c_f_Bytes_limit k_f_Bytes_limit).binds (ps := ["self"]) fun _ _ _ _ _ _ us hl => match us, hl with | [_], _ => rfl,
    F_Bytes_name := fun_mk (st := s_Bytes_name) l_f_Bytes_name c_f_Bytes_name k_f_Bytes_name,
    b_Bytes_name := (fun_mk (st := s_Bytes_name) l_f_Bytes_name c_f_Bytes_name k_f_Bytes_name).binds (ps := ["self"]) fun _ _ _ _ _ _ us hl => match us, hl with | [_], _ => rfl,
    F_Bytes_finish := fun_mk (st := s_Bytes_finish) l_f_Bytes_finish c_f_Bytes_finish k_f_Bytes_finish,
    b_Bytes_finish := (fun_mk (st := s_Bytes_finish) l_f_Bytes_finish c_f_Bytes_finish k_f_Bytes_finish).binds (ps := ["self"]) fun _ _ _ _ _ _ us hl => match us, hl with | [_], _ => rfl,
    F_is_letter := fun_mk (st := s_is_letter) l_f_is_letter c_f_is_letter k_f_is_letter,
    b_is_letter := (fun_mk (st := s_is_letter) l_f_is_letter c_f_is_letter k_f_is_letter).binds (ps := ["byte"]) fun _ _ _ _ _ _ us hl => match us, hl with | [_], _ => rfl,
    g_is_letter := PySem.W.mg_of X G gf_is_letter,
    F_Rules___init__ := fun_mk (st := s_Rules___init__) l_f_Rules___init__ c_f_Rules___init__ k_f_Rules___init__,
    b_Rules___init__ := (fun_mk (st := s_Rules___init__) l_f_Rules___init__ c_f_Rules___init__ k_f_Rules___init__).binds (ps := ["self"]) fun _ _ _ _ _ _ us hl => match us, hl with | [_], _ => rfl,
    F_Rules_is_edge := fun_mk (st := s_Rules_is_edge) l_f_Rules_is_edge c_f_Rules_is_edge k_f_Rules_is_edge,
    b_Rules_is_edge := (fun_mk (st := s_Rules_is_edge) l_f_Rules_is_edge c_f_Rules_is_edge k_f_Rules_is_edge).binds (ps := ["self", "cell"]) fun _ _ _ _ _ _ us hl => match us, hl with | [_, _], _ => rfl,
    F_Rules_is_goal := fun_mk (st := s_Rules_is_goal) l_f_Rules_is_goal c_f_Rules_is_goal k_f_Rules_is_goal,
    b_Rules_is_goal := (fun_mk (st := s_Rules_is_goal) l_f_Rules_is_goal c_f_Rules_is_goal k_f_Rules_is_goal).binds (ps := ["self", "cell"]) fun _ _ _ _ _ _ us hl => match us, hl with | [_, _], _ => rfl,
    F_Rules_has := fun_mk (st := s_Rules_has) l_f_Rules_has c_f_Rules_has k_f_Rules_has,
    b_Rules_has := (fun_mk (st := s_Rules_has) l_f_Rules_has c_f_Rules_has k_f_Rules_has).binds (ps := ["self", "cell"]) fun _ _ _ _ _ _ us hl => match us, hl with | [_, _], _ => rfl,
    F_Rules_may_stand := fun_mk (st := s_Rules_may_stand) l_f_Rules_may_stand c_f_Rules_may_stand k_f_Rules_may_stand,
    b_Rules_may_stand := (fun_mk (st := s_Rules_may_stand) l_f_Rules_may_stand c_f_Rules_may_stand k_f_Rules_may_stand).binds (ps := ["self", "sign", "cell"]) fun _ _ _ _ _ _ us hl => match us, hl with | [_, _, _], _ => rfl,
    F_Rules_settle := fun_mk (st := s_Rules_settle) l_f_Rules_settle c_f_Rules_settle k_f_Rules_settle,
    b_Rules_settle := (fun_mk (st := s_Rules_settle) l_f_Rules_settle c_f_Rules_settle k_f_Rules_settle).binds (ps := ["self"]) fun _ _ _ _ _ _ us hl => match us, hl with | [_], _ => rfl,
    F_rows_read := fun_mk (st := s_rows_read) l_f_rows_read c_f_rows_read k_f_rows_read,
    b_rows_read := (fun_mk (st := s_rows_read) l_f_rows_read c_f_rows_read k_f_rows_read).binds (ps := ["reader", "rules", "signs"]) fun _ _ _ _ _ _ us hl => match us, hl with | [_, _, _], _ => rfl,
    g_rows_read := PySem.W.mg_of X G gf_rows_read,
    F_head_read := fun_mk (st := s_head_read) l_f_head_read c_f_head_read k_f_head_read,
    b_head_read := (fun_mk (st := s_head_read) l_f_head_read c_f_head_read k_f_head_read).binds (ps := ["reader", "rules"]) fun _ _ _ _ _ _ us hl => match us, hl with | [_, _], _ => rfl,
    g_head_read := PySem.W.mg_of X G gf_head_read,
    F_king_read := fun_mk (st := s_king_read) l_f_king_read c_f_king_read k_f_king_read,
    b_king_read := (fun_mk (st := s_king_read) l_f_king_read c_f_king_read k_f_king_read).binds (ps := ["reader", "rules"]) fun _ _ _ _ _ _ us hl => match us, hl with | [_, _], _ => rfl,
    g_king_read := PySem.W.mg_of X G gf_king_read,
    F_rest_read := fun_mk (st := s_rest_read) l_f_rest_read c_f_rest_read k_f_rest_read,
    b_rest_read := (fun_mk (st := s_rest_read) l_f_rest_read c_f_rest_read k_f_rest_read).binds (ps := ["reader", "rules"]) fun _ _ _ _ _ _ us hl => match us, hl with | [_, _], _ => rfl,
    g_rest_read := PySem.W.mg_of X G gf_rest_read,
    F_second_of := fun_mk (st := s_second_of) l_f_second_of c_f_second_of k_f_second_of,
    b_second_of := (fun_mk (st := s_second_of) l_f_second_of c_f_second_of k_f_second_of).binds (ps := ["signs", "sign"]) fun _ _ _ _ _ _ us hl => match us, hl with | [_, _], _ => rfl,
    g_second_of := PySem.W.mg_of X G gf_second_of,
    F_wrong_pieces := fun_mk (st := s_wrong_pieces) l_f_wrong_pieces c_f_wrong_pieces k_f_wrong_pieces,
    b_wrong_pieces := (fun_mk (st := s_wrong_pieces) l_f_wrong_pieces c_f_wrong_pieces k_f_wrong_pieces).binds (ps := ["rules"]) fun _ _ _ _ _ _ us hl => match us, hl with | [_], _ => rfl,
    g_wrong_pieces := PySem.W.mg_of X G gf_wrong_pieces,
    F_is_goal_wrong := fun_mk (st := s_is_goal_wrong) l_f_is_goal_wrong c_f_is_goal_wrong k_f_is_goal_wrong,
    b_is_goal_wrong := (fun_mk (st := s_is_goal_wrong) l_f_is_goal_wrong c_f_is_goal_wrong k_f_is_goal_wrong).binds (ps := ["rules"]) fun _ _ _ _ _ _ us hl => match us, hl with | [_], _ => rfl,
    g_is_goal_wrong := PySem.W.mg_of X G gf_is_goal_wrong,
    F_lacks := fun_mk (st := s_lacks) l_f_lacks c_f_lacks k_f_lacks,
    b_lacks := (fun_mk (st := s_lacks) l_f_lacks c_f_lacks k_f_lacks).binds (ps := ["rules"]) fun _ _ _ _ _ _ us hl => match us, hl with | [_], _ => rfl,
    g_lacks := PySem.W.mg_of X G gf_lacks,
    F_read_rules := fun_mk (st := s_read_rules) l_f_read_rules c_f_read_rules k_f_read_rules,
    b_read_rules := (fun_mk (st := s_read_rules) l_f_read_rules c_f_read_rules k_f_read_rules).binds (ps := ["text"]) fun _ _ _ _ _ _ us hl => match us, hl with | [_], _ => rfl,
    g_read_rules := PySem.W.mg_of X G gf_read_rules,
    F_second_seats := fun_mk (st := s_second_seats) l_f_second_seats c_f_second_seats k_f_second_seats,
    b_second_seats := (fun_mk (st := s_second_seats) l_f_second_seats c_f_second_seats k_f_second_seats).binds (ps := ["rules"]) fun _ _ _ _ _ _ us hl => match us, hl with | [_], _ => rfl,
    g_second_seats := PySem.W.mg_of X G gf_second_seats,
    F_Position___init__ := fun_mk (st := s_Position___init__) l_f_Position___init__ c_f_Position___init__ k_f_Position___init__,
    b_Position___init__ := (fun_mk (st := s_Position___init__) l_f_Position___init__ c_f_Position___init__ k_f_Position___init__).binds (ps := ["self", "hunters", "men", "king", "turn"]) fun _ _ _ _ _ _ us hl => match us, hl with | [_, _, _, _, _], _ => rfl,
    F_Position_has_piece := fun_mk (st := s_Position_has_piece) l_f_Position_has_piece c_f_Position_has_piece k_f_Position_has_piece,
    b_Position_has_piece := (fun_mk (st := s_Position_has_piece) l_f_Position_has_piece c_f_Position_has_piece k_f_Position_has_piece).binds (ps := ["self", "cell"]) fun _ _ _ _ _ _ us hl => match us, hl with | [_, _], _ => rfl,
    F_LineReader___init__ := fun_mk (st := s_LineReader___init__) l_f_LineReader___init__ c_f_LineReader___init__ k_f_LineReader___init__,
    b_LineReader___init__ := (fun_mk (st := s_LineReader___init__) l_f_LineReader___init__ c_f_LineReader___init__ k_f_LineReader___init__).binds (ps := ["self", "text"]) fun _ _ _ _ _ _ us hl => match us, hl with | [_, _], _ => rfl,
    F_LineReader_gap := fun_mk (st := s_LineReader_gap) l_f_LineReader_gap c_f_LineReader_gap k_f_LineReader_gap,
    b_LineReader_gap := (fun_mk (st := s_LineReader_gap) l_f_LineReader_gap c_f_LineReader_gap k_f_LineReader_gap).binds (ps := ["self", "left"]) fun _ _ _ _ _ _ us hl => match us, hl with | [_, _], _ => rfl,
    F_LineReader_piece := fun_mk (st := s_LineReader_piece) l_f_LineReader_piece c_f_LineReader_piece k_f_LineReader_piece,
    b_LineReader_piece := (fun_mk (st := s_LineReader_piece) l_f_LineReader_piece c_f_LineReader_piece k_f_LineReader_piece).binds (ps := ["self", "cell"]) fun _ _ _ _ _ _ us hl => match us, hl with | [_, _], _ => rfl,
    F_LineReader_row := fun_mk (st := s_LineReader_row) l_f_LineReader_row c_f_LineReader_row k_f_LineReader_row,
    b_LineReader_row := (fun_mk (st := s_LineReader_row) l_f_LineReader_row c_f_LineReader_row k_f_LineReader_row).binds (ps := ["self", "y", "wide"]) fun _ _ _ _ _ _ us hl => match us, hl with | [_, _, _], _ => rfl,
    F_LineReader_line := fun_mk (st := s_LineReader_line) l_f_LineReader_line c_f_LineReader_line k_f_LineReader_line,
    b_LineReader_line := (fun_mk (st := s_LineReader_line) l_f_LineReader_line c_f_LineReader_line k_f_LineReader_line).binds (ps := ["self", "rules"]) fun _ _ _ _ _ _ us hl => match us, hl with | [_, _], _ => rfl,
    F_read_position := fun_mk (st := s_read_position) l_f_read_position c_f_read_position k_f_read_position,
    b_read_position := (fun_mk (st := s_read_position) l_f_read_position c_f_read_position k_f_read_position).binds (ps := ["rules", "text"]) fun _ _ _ _ _ _ us hl => match us, hl with | [_, _], _ => rfl,
    g_read_position := PySem.W.mg_of X G gf_read_position,
    F_beside := fun_mk (st := s_beside) l_f_beside c_f_beside k_f_beside,
    b_beside := (fun_mk (st := s_beside) l_f_beside c_f_beside k_f_beside).binds (ps := ["rules", "cell", "way"]) fun _ _ _ _ _ _ us hl => match us, hl with | [_, _, _], _ => rfl,
    g_beside := PySem.W.mg_of X G gf_beside,
    F_is_free := fun_mk (st := s_is_free) l_f_is_free c_f_is_free k_f_is_free,
    b_is_free := (fun_mk (st := s_is_free) l_f_is_free c_f_is_free k_f_is_free).binds (ps := ["rules", "position", "cell"]) fun _ _ _ _ _ _ us hl => match us, hl with | [_, _, _], _ => rfl,
    g_is_free := PySem.W.mg_of X G gf_is_free,
    F_may_stop := fun_mk (st := s_may_stop) l_f_may_stop c_f_may_stop k_f_may_stop,
    b_may_stop := (fun_mk (st := s_may_stop) l_f_may_stop c_f_may_stop k_f_may_stop).binds (ps := ["rules", "cell", "is_king"]) fun _ _ _ _ _ _ us hl => match us, hl with | [_, _, _], _ => rfl,
    g_may_stop := PySem.W.mg_of X G gf_may_stop,
    F_may_go_over := fun_mk (st := s_may_go_over) l_f_may_go_over c_f_may_go_over k_f_may_go_over,
    b_may_go_over := (fun_mk (st := s_may_go_over) l_f_may_go_over c_f_may_go_over k_f_may_go_over).binds (ps := ["rules", "cell", "is_king"]) fun _ _ _ _ _ _ us hl => match us, hl with | [_, _, _], _ => rfl,
    g_may_go_over := PySem.W.mg_of X G gf_may_go_over,
    F_goals_of := fun_mk (st := s_goals_of) l_f_goals_of c_f_goals_of k_f_goals_of,
    b_goals_of := (fun_mk (st := s_goals_of) l_f_goals_of c_f_goals_of k_f_goals_of).binds (ps := ["rules", "position", "cell", "is_king"]) fun _ _ _ _ _ _ us hl => match us, hl with | [_, _, _, _], _ => rfl,
    g_goals_of := PySem.W.mg_of X G gf_goals_of,
    F_king_goals := fun_mk (st := s_king_goals) l_f_king_goals c_f_king_goals k_f_king_goals,
    b_king_goals := (fun_mk (st := s_king_goals) l_f_king_goals c_f_king_goals k_f_king_goals).binds (ps := ["rules", "position"]) fun _ _ _ _ _ _ us hl => match us, hl with | [_, _], _ => rfl,
    g_king_goals := PySem.W.mg_of X G gf_king_goals,
    F_movers := fun_mk (st := s_movers) l_f_movers c_f_movers k_f_movers,
    b_movers := (fun_mk (st := s_movers) l_f_movers c_f_movers k_f_movers).binds (ps := ["position"]) fun _ _ _ _ _ _ us hl => match us, hl with | [_], _ => rfl,
    g_movers := PySem.W.mg_of X G gf_movers,
    F_moves_of := fun_mk (st := s_moves_of) l_f_moves_of c_f_moves_of k_f_moves_of,
    b_moves_of := (fun_mk (st := s_moves_of) l_f_moves_of c_f_moves_of k_f_moves_of).binds (ps := ["rules", "position"]) fun _ _ _ _ _ _ us hl => match us, hl with | [_, _], _ => rfl,
    g_moves_of := PySem.W.mg_of X G gf_moves_of,
    F_has_move := fun_mk (st := s_has_move) l_f_has_move c_f_has_move k_f_has_move,
    b_has_move := (fun_mk (st := s_has_move) l_f_has_move c_f_has_move k_f_has_move).binds (ps := ["rules", "position"]) fun _ _ _ _ _ _ us hl => match us, hl with | [_, _], _ => rfl,
    g_has_move := PySem.W.mg_of X G gf_has_move,
    F_is_against := fun_mk (st := s_is_against) l_f_is_against c_f_is_against k_f_is_against,
    b_is_against := (fun_mk (st := s_is_against) l_f_is_against c_f_is_against k_f_is_against).binds (ps := ["rules", "position", "cell", "enmities"]) fun _ _ _ _ _ _ us hl => match us, hl with | [_, _, _, _], _ => rfl,
    g_is_against := PySem.W.mg_of X G gf_is_against,
    F_has_hunter_or_against := fun_mk (st := s_has_hunter_or_against) l_f_has_hunter_or_against c_f_has_hunter_or_against k_f_has_hunter_or_against,
    b_has_hunter_or_against := (fun_mk (st := s_has_hunter_or_against) l_f_has_hunter_or_against c_f_has_hunter_or_against k_f_has_hunter_or_against).binds (ps := ["rules", "position", "cell"]) fun _ _ _ _ _ _ us hl => match us, hl with | [_, _, _], _ => rfl,
    g_has_hunter_or_against := PySem.W.mg_of X G gf_has_hunter_or_against,
    F_is_helper := fun_mk (st := s_is_helper) l_f_is_helper c_f_is_helper k_f_is_helper,
    b_is_helper := (fun_mk (st := s_is_helper) l_f_is_helper c_f_is_helper k_f_is_helper).binds (ps := ["rules", "position", "cell"]) fun _ _ _ _ _ _ us hl => match us, hl with | [_, _, _], _ => rfl,
    g_is_helper := PySem.W.mg_of X G gf_is_helper,
    F_taken_hunters := fun_mk (st := s_taken_hunters) l_f_taken_hunters c_f_taken_hunters k_f_taken_hunters,
    b_taken_hunters := (fun_mk (st := s_taken_hunters) l_f_taken_hunters c_f_taken_hunters k_f_taken_hunters).binds (ps := ["rules", "position", "cell"]) fun _ _ _ _ _ _ us hl => match us, hl with | [_, _, _], _ => rfl,
    g_taken_hunters := PySem.W.mg_of X G gf_taken_hunters,
    F_is_king_shut := fun_mk (st := s_is_king_shut) l_f_is_king_shut c_f_is_king_shut k_f_is_king_shut,
    b_is_king_shut := (fun_mk (st := s_is_king_shut) l_f_is_king_shut c_f_is_king_shut k_f_is_king_shut).binds (ps := ["rules", "position", "way"]) fun _ _ _ _ _ _ us hl => match us, hl with | [_, _, _], _ => rfl,
    g_is_king_shut := PySem.W.mg_of X G gf_is_king_shut,
    F_taken_men := fun_mk (st := s_taken_men) l_f_taken_men c_f_taken_men k_f_taken_men,
    b_taken_men := (fun_mk (st := s_taken_men) l_f_taken_men c_f_taken_men k_f_taken_men).binds (ps := ["rules", "position", "cell"]) fun _ _ _ _ _ _ us hl => match us, hl with | [_, _, _], _ => rfl,
    g_taken_men := PySem.W.mg_of X G gf_taken_men,
    F_gone_to := fun_mk (st := s_gone_to) l_f_gone_to c_f_gone_to k_f_gone_to,
    b_gone_to := (fun_mk (st := s_gone_to) l_f_gone_to c_f_gone_to k_f_gone_to).binds (ps := ["cells", "begin", "to"]) fun _ _ _ _ _ _ us hl => match us, hl with | [_, _, _], _ => rfl,
    g_gone_to := PySem.W.mg_of X G gf_gone_to,
    F_made := fun_mk (st := s_made) l_f_made c_f_made k_f_made,
    b_made := (fun_mk (st := s_made) l_f_made c_f_made k_f_made).binds (ps := ["rules", "position", "begin", "to"]) fun _ _ _ _ _ _ us hl => match us, hl with | [_, _, _, _], _ => rfl,
    g_made := PySem.W.mg_of X G gf_made,
    F_over_by := fun_mk (st := s_over_by) l_f_over_by c_f_over_by k_f_over_by,
    b_over_by := (fun_mk (st := s_over_by) l_f_over_by c_f_over_by k_f_over_by).binds (ps := ["rules", "position"]) fun _ _ _ _ _ _ us hl => match us, hl with | [_, _], _ => rfl,
    g_over_by := PySem.W.mg_of X G gf_over_by,
    F_have_hunters_won := fun_mk (st := s_have_hunters_won) l_f_have_hunters_won c_f_have_hunters_won k_f_have_hunters_won,
    b_have_hunters_won := (fun_mk (st := s_have_hunters_won) l_f_have_hunters_won c_f_have_hunters_won k_f_have_hunters_won).binds (ps := ["position", "over"]) fun _ _ _ _ _ _ us hl => match us, hl with | [_, _], _ => rfl,
    g_have_hunters_won := PySem.W.mg_of X G gf_have_hunters_won,
    F_weighed := fun_mk (st := s_weighed) l_f_weighed c_f_weighed k_f_weighed,
    b_weighed := (fun_mk (st := s_weighed) l_f_weighed c_f_weighed k_f_weighed).binds (ps := ["rules", "position", "weights"]) fun _ _ _ _ _ _ us hl => match us, hl with | [_, _, _], _ => rfl,
    g_weighed := PySem.W.mg_of X G gf_weighed,
    F_Node___init__ := fun_mk (st := s_Node___init__) l_f_Node___init__ c_f_Node___init__ k_f_Node___init__,
    b_Node___init__ := (fun_mk (st := s_Node___init__) l_f_Node___init__ c_f_Node___init__ k_f_Node___init__).binds (ps := ["self", "position", "over"]) fun _ _ _ _ _ _ us hl => match us, hl with | [_, _, _], _ => rfl,
    F_Looking___init__ := fun_mk (st := s_Looking___init__) l_f_Looking___init__ c_f_Looking___init__ k_f_Looking___init__,
    b_Looking___init__ := (fun_mk (st := s_Looking___init__) l_f_Looking___init__ c_f_Looking___init__ k_f_Looking___init__).binds (ps := ["self", "rules", "most"]) fun _ _ _ _ _ _ us hl => match us, hl with | [_, _, _], _ => rfl,
    F_Looking_node := fun_mk (st := s_Looking_node) l_f_Looking_node c_f_Looking_node k_f_Looking_node,
    b_Looking_node := (fun_mk (st := s_Looking_node) l_f_Looking_node c_f_Looking_node k_f_Looking_node).binds (ps := ["self", "position", "n"]) fun _ _ _ _ _ _ us hl => match us, hl with | [_, _, _], _ => rfl,
    F_worth := fun_mk (st := s_worth) l_f_worth c_f_worth k_f_worth,
    b_worth := (fun_mk (st := s_worth) l_f_worth c_f_worth k_f_worth).binds (ps := ["rules", "weights", "node", "d"]) fun _ _ _ _ _ _ us hl => match us, hl with | [_, _, _, _], _ => rfl,
    g_worth := PySem.W.mg_of X G gf_worth,
    F_branch_worths := fun_mk (st := s_branch_worths) l_f_branch_worths c_f_branch_worths k_f_branch_worths,
    b_branch_worths := (fun_mk (st := s_branch_worths) l_f_branch_worths c_f_branch_worths k_f_branch_worths).binds (ps := ["rules", "weights", "node", "d"]) fun _ _ _ _ _ _ us hl => match us, hl with | [_, _, _, _], _ => rfl,
    g_branch_worths := PySem.W.mg_of X G gf_branch_worths,
    F_row_of := fun_mk (st := s_row_of) l_f_row_of c_f_row_of k_f_row_of,
    b_row_of := (fun_mk (st := s_row_of) l_f_row_of c_f_row_of k_f_row_of).binds (ps := ["rules", "weights", "node"]) fun _ _ _ _ _ _ us hl => match us, hl with | [_, _, _], _ => rfl,
    g_row_of := PySem.W.mg_of X G gf_row_of,
    F_Refused___init__ := fun_mk (st := s_Refused___init__) l_f_Refused___init__ c_f_Refused___init__ k_f_Refused___init__,
    b_Refused___init__ := (fun_mk (st := s_Refused___init__) l_f_Refused___init__ c_f_Refused___init__ k_f_Refused___init__).binds (ps := ["self", "told"]) fun _ _ _ _ _ _ us hl => match us, hl with | [_, _], _ => rfl,
    F_want := fun_mk (st := s_want) l_f_want c_f_want k_f_want,
    b_want := (fun_mk (st := s_want) l_f_want c_f_want k_f_want).binds (ps := ["truth", "number"]) fun _ _ _ _ _ _ us hl => match us, hl with | [_, _], _ => rfl,
    g_want := PySem.W.mg_of X G gf_want,
    F_Desk___init__ := fun_mk (st := s_Desk___init__) l_f_Desk___init__ c_f_Desk___init__ k_f_Desk___init__,
    b_Desk___init__ := (fun_mk (st := s_Desk___init__) l_f_Desk___init__ c_f_Desk___init__ k_f_Desk___init__).binds (ps := ["self"]) fun _ _ _ _ _ _ us hl => match us, hl with | [_], _ => rfl,
    F_Desk_set_rules := fun_mk (st := s_Desk_set_rules) l_f_Desk_set_rules c_f_Desk_set_rules k_f_Desk_set_rules,
    b_Desk_set_rules := (fun_mk (st := s_Desk_set_rules) l_f_Desk_set_rules c_f_Desk_set_rules k_f_Desk_set_rules).binds (ps := ["self", "text"]) fun _ _ _ _ _ _ us hl => match us, hl with | [_, _], _ => rfl,
    F_Desk_position_in := fun_mk (st := s_Desk_position_in) l_f_Desk_position_in c_f_Desk_position_in k_f_Desk_position_in,
    b_Desk_position_in := (fun_mk (st := s_Desk_position_in) l_f_Desk_position_in c_f_Desk_position_in k_f_Desk_position_in).binds (ps := ["self", "line", "weights"]) fun _ _ _ _ _ _ us hl => match us, hl with | [_, _, _], _ => rfl,
    F_Desk_weigh := fun_mk (st := s_Desk_weigh) l_f_Desk_weigh c_f_Desk_weigh k_f_Desk_weigh,
    b_Desk_weigh := (fun_mk (st := s_Desk_weigh) l_f_Desk_weigh c_f_Desk_weigh k_f_Desk_weigh).binds (ps := ["self", "weights", "line"]) fun _ _ _ _ _ _ us hl => match us, hl with | [_, _, _], _ => rfl,
    F_Desk_looked := fun_mk (st := s_Desk_looked) l_f_Desk_looked c_f_Desk_looked k_f_Desk_looked,
    b_Desk_looked := (fun_mk (st := s_Desk_looked) l_f_Desk_looked c_f_Desk_looked k_f_Desk_looked).binds (ps := ["self", "position", "n", "most"]) fun _ _ _ _ _ _ us hl => match us, hl with | [_, _, _, _], _ => rfl,
    F_Desk_ahead := fun_mk (st := s_Desk_ahead) l_f_Desk_ahead c_f_Desk_ahead k_f_Desk_ahead,
    b_Desk_ahead := (fun_mk (st := s_Desk_ahead) l_f_Desk_ahead c_f_Desk_ahead k_f_Desk_ahead).binds (ps := ["self", "weights", "n", "most", "line"]) fun _ _ _ _ _ _ us hl => match us, hl with | [_, _, _, _, _], _ => rfl,
    F_Desk_each := fun_mk (st := s_Desk_each) l_f_Desk_each c_f_Desk_each k_f_Desk_each,
    b_Desk_each := (fun_mk (st := s_Desk_each) l_f_Desk_each c_f_Desk_each k_f_Desk_each).binds (ps := ["self", "weights", "n", "most", "line"]) fun _ _ _ _ _ _ us hl => match us, hl with | [_, _, _, _, _], _ => rfl,
    F_Desk_done := fun_mk (st := s_Desk_done) l_f_Desk_done c_f_Desk_done k_f_Desk_done,
    b_Desk_done := (fun_mk (st := s_Desk_done) l_f_Desk_done c_f_Desk_done k_f_Desk_done).binds (ps := ["self", "call", "n", "text"]) fun _ _ _ _ _ _ us hl => match us, hl with | [_, _, _, _], _ => rfl,
    F_Desk_answer := fun_mk (st := s_Desk_answer) l_f_Desk_answer c_f_Desk_answer k_f_Desk_answer,
    b_Desk_answer := (fun_mk (st := s_Desk_answer) l_f_Desk_answer c_f_Desk_answer k_f_Desk_answer).binds (ps := ["self", "call", "n", "text"]) fun _ _ _ _ _ _ us hl => match us, hl with | [_, _, _, _], _ => rfl,
    F_answers := fun_mk (st := s_answers) l_f_answers c_f_answers k_f_answers,
    b_answers := (fun_mk (st := s_answers) l_f_answers c_f_answers k_f_answers).binds (ps := ["calls"]) fun _ _ _ _ _ _ us hl => match us, hl with | [_], _ => rfl,
    g_answers := PySem.W.mg_of X G gf_answers,
    g_Bytes := PySem.W.mg_of X G gc_Bytes,
    mk_Bytes := ⟨mk_Bytes, me_Bytes___init__, i_f_Bytes___init__, kc_Bytes⟩,
    rd_Bytes := { cl := ⟨pg_Bytes, hd_Bytes, po_Bytes, sa_Bytes⟩, n_text := no_Bytes_text, n_at := no_Bytes_at, m_next_byte := ⟨me_Bytes_next_byte, i_f_Bytes_next_byte, k_f_Bytes_next_byte⟩, m_want := ⟨me_Bytes_want, i_f_Bytes_want, k_f_Bytes_want⟩, m_is_one_of := ⟨me_Bytes_is_one_of, i_f_Bytes_is_one_of, k_f_Bytes_is_one_of⟩, m_take := ⟨me_Bytes_take, i_f_Bytes_take, k_f_Bytes_take⟩, m_literal := ⟨me_Bytes_literal, i_f_Bytes_literal, k_f_Bytes_literal⟩, m_line_end := ⟨me_Bytes_line_end, i_f_Bytes_line_end, k_f_Bytes_line_end⟩, m_choice := ⟨me_Bytes_choice, i_f_Bytes_choice, k_f_Bytes_choice⟩, m_size := ⟨me_Bytes_size, i_f_Bytes_size, k_f_Bytes_size⟩, m_limit := ⟨me_Bytes_limit, i_f_Bytes_limit, k_f_Bytes_limit⟩, m_name := ⟨me_Bytes_name, i_f_Bytes_name, k_f_Bytes_name⟩, m_finish := ⟨me_Bytes_finish, i_f_Bytes_finish, k_f_Bytes_finish⟩ },
    g_Rules := PySem.W.mg_of X G gc_Rules,
    mk_Rules := ⟨mk_Rules, me_Rules___init__, i_f_Rules___init__, kc_Rules⟩,
    cl_Rules := ⟨pg_Rules, hd_Rules, po_Rules, sa_Rules⟩,
    m_Rules_is_edge := ⟨me_Rules_is_edge, i_f_Rules_is_edge, k_f_Rules_is_edge⟩,
    m_Rules_is_goal := ⟨me_Rules_is_goal, i_f_Rules_is_goal, k_f_Rules_is_goal⟩,
    m_Rules_has := ⟨me_Rules_has, i_f_Rules_has, k_f_Rules_has⟩,
    m_Rules_may_stand := ⟨me_Rules_may_stand, i_f_Rules_may_stand, k_f_Rules_may_stand⟩,
    m_Rules_settle := ⟨me_Rules_settle, i_f_Rules_settle, k_f_Rules_settle⟩,
    n_Rules_wide := no_Rules_wide,
    n_Rules_high := no_Rules_high,
    n_Rules_is_king_first := no_Rules_is_king_first,
    n_Rules_slides := no_Rules_slides,
    n_Rules_armed := no_Rules_armed,
    n_Rules_four := no_Rules_four,
    n_Rules_passed := no_Rules_passed,
    n_Rules_seat_enmity := no_Rules_seat_enmity,
    n_Rules_exit_enmity := no_Rules_exit_enmity,
    n_Rules_is_goal_exits := no_Rules_is_goal_exits,
    n_Rules_goal_place := no_Rules_goal_place,
    n_Rules_seat := no_Rules_seat,
    n_Rules_exits := no_Rules_exits,
    n_Rules_walls := no_Rules_walls,
    n_Rules_ground := no_Rules_ground,
    n_Rules_start := no_Rules_start,
    g_Position := PySem.W.mg_of X G gc_Position,
    mk_Position := ⟨mk_Position, me_Position___init__, i_f_Position___init__, kc_Position⟩,
    cl_Position := ⟨pg_Position, hd_Position, po_Position, sa_Position⟩,
    m_Position_has_piece := ⟨me_Position_has_piece, i_f_Position_has_piece, k_f_Position_has_piece⟩,
    n_Position_hunters := no_Position_hunters,
    n_Position_men := no_Position_men,
    n_Position_king := no_Position_king,
    n_Position_turn := no_Position_turn,
    n_Position_pieces := no_Position_pieces,
    g_LineReader := PySem.W.mg_of X G gc_LineReader,
    mk_LineReader := ⟨mk_LineReader, me_LineReader___init__, i_f_LineReader___init__, kc_LineReader⟩,
    rd_LineReader := { cl := ⟨pg_LineReader, hd_LineReader, po_LineReader, sa_LineReader⟩, n_text := no_LineReader_text, n_at := no_LineReader_at, m_next_byte := ⟨me_LineReader_next_byte, i_f_Bytes_next_byte, k_f_Bytes_next_byte⟩, m_want := ⟨me_LineReader_want, i_f_Bytes_want, k_f_Bytes_want⟩, m_is_one_of := ⟨me_LineReader_is_one_of, i_f_Bytes_is_one_of, k_f_Bytes_is_one_of⟩, m_take := ⟨me_LineReader_take, i_f_Bytes_take, k_f_Bytes_take⟩, m_literal := ⟨me_LineReader_literal, i_f_Bytes_literal, k_f_Bytes_literal⟩, m_line_end := ⟨me_LineReader_line_end, i_f_Bytes_line_end, k_f_Bytes_line_end⟩, m_choice := ⟨me_LineReader_choice, i_f_Bytes_choice, k_f_Bytes_choice⟩, m_size := ⟨me_LineReader_size, i_f_Bytes_size, k_f_Bytes_size⟩, m_limit := ⟨me_LineReader_limit, i_f_Bytes_limit, k_f_Bytes_limit⟩, m_name := ⟨me_LineReader_name, i_f_Bytes_name, k_f_Bytes_name⟩, m_finish := ⟨me_LineReader_finish, i_f_Bytes_finish, k_f_Bytes_finish⟩ },
    cl_LineReader := ⟨pg_LineReader, hd_LineReader, po_LineReader, sa_LineReader⟩,
    m_LineReader_gap := ⟨me_LineReader_gap, i_f_LineReader_gap, k_f_LineReader_gap⟩,
    m_LineReader_piece := ⟨me_LineReader_piece, i_f_LineReader_piece, k_f_LineReader_piece⟩,
    m_LineReader_row := ⟨me_LineReader_row, i_f_LineReader_row, k_f_LineReader_row⟩,
    m_LineReader_line := ⟨me_LineReader_line, i_f_LineReader_line, k_f_LineReader_line⟩,
    n_LineReader_stood := no_LineReader_stood,
    g_Node := PySem.W.mg_of X G gc_Node,
    mk_Node := ⟨mk_Node, me_Node___init__, i_f_Node___init__, kc_Node⟩,
    cl_Node := ⟨pg_Node, hd_Node, po_Node, sa_Node⟩,
    n_Node_position := no_Node_position,
    n_Node_over := no_Node_over,
    n_Node_branches := no_Node_branches,
    g_Looking := PySem.W.mg_of X G gc_Looking,
    mk_Looking := ⟨mk_Looking, me_Looking___init__, i_f_Looking___init__, kc_Looking⟩,
    cl_Looking := ⟨pg_Looking, hd_Looking, po_Looking, sa_Looking⟩,
    m_Looking_node := ⟨me_Looking_node, i_f_Looking_node, k_f_Looking_node⟩,
    n_Looking_rules := no_Looking_rules,
    n_Looking_left := no_Looking_left,
    g_Desk := PySem.W.mg_of X G gc_Desk,
    mk_Desk := ⟨mk_Desk, me_Desk___init__, i_f_Desk___init__, kc_Desk⟩,
    cl_Desk := ⟨pg_Desk, hd_Desk, po_Desk, sa_Desk⟩,
    m_Desk_set_rules := ⟨me_Desk_set_rules, i_f_Desk_set_rules, k_f_Desk_set_rules⟩,
    m_Desk_position_in := ⟨me_Desk_position_in, i_f_Desk_position_in, k_f_Desk_position_in⟩,
    m_Desk_weigh := ⟨me_Desk_weigh, i_f_Desk_weigh, k_f_Desk_weigh⟩,
    m_Desk_looked := ⟨me_Desk_looked, i_f_Desk_looked, k_f_Desk_looked⟩,
    m_Desk_ahead := ⟨me_Desk_ahead, i_f_Desk_ahead, k_f_Desk_ahead⟩,
    m_Desk_each := ⟨me_Desk_each, i_f_Desk_each, k_f_Desk_each⟩,
    m_Desk_done := ⟨me_Desk_done, i_f_Desk_done, k_f_Desk_done⟩,
    m_Desk_answer := ⟨me_Desk_answer, i_f_Desk_answer, k_f_Desk_answer⟩,
    n_Desk_rules := no_Desk_rules,
    cr_Bytes := ⟨rd_c_Bytes, ga_c_Bytes⟩,
    cv_Bytes___init__ := ⟨cv_at, rfl⟩,
    g_Fault := PySem.W.mg_of X G gc_Fault,
    ox_Fault := ⟨⟨nm_Fault, q_Fault, N_Fault, bs_Fault, _, sn_Fault, sub_Fault, ab_Fault, col_Fault, dd_Fault, m0_Fault, m1_Fault, m2_Fault, m3_Fault, m5_Fault, xl_Fault, by decide +kernel⟩, xsa_Fault, xe_Fault, xt_Fault, xk_Fault⟩,
    i_Fault := me_Fault___init__,
    ti_Fault := xti_Fault,
    nf_kind := xnf_kind,
    nf_place := xnf_place,
    xf_Fault := ⟨xga_Fault, xgg_Fault, xe_Fault, xhd_Fault⟩,
    ex_Fault := exm_self xe_Fault xis_Fault xt_Fault xss_Fault,
    g_Refused := PySem.W.mg_of X G gc_Refused,
    ox_Refused := ⟨⟨nm_Refused, q_Refused, N_Refused, bs_Refused, _, sn_Refused, sub_Refused, ab_Refused, col_Refused, dd_Refused, m0_Refused, m1_Refused, m2_Refused, m3_Refused, m5_Refused, xl_Refused, by decide +kernel⟩, xsa_Refused, xe_Refused, xt_Refused, xk_Refused⟩,
    i_Refused := me_Refused___init__,
    ti_Refused := xti_Refused,
    nf_told := xnf_told,
    xf_Refused := ⟨xga_Refused, xgg_Refused, xe_Refused, xhd_Refused⟩,
    ex_Refused := exm_self xe_Refused xis_Refused xt_Refused xss_Refused,
    g_TooMany := PySem.W.mg_of X G gc_TooMany,
    xTM := xTM,
    kTM := xk_TooMany,
    bTM := xe_TooMany,
    tTM := xt_TooMany,
    ex_TooMany := exm_self xe_TooMany xis_TooMany xt_TooMany xss_TooMany,
    ve := ve,
    n_len := PySem.W.mg_none_of X G nn_len,
    n_int := PySem.W.mg_none_of X G nn_int,
    n_ord := PySem.W.mg_none_of X G nn_ord,
    n_max := PySem.W.mg_none_of X G nn_max,
    n_min := PySem.W.mg_none_of X G nn_min,
    n_sorted := PySem.W.mg_none_of X G nn_sorted,
    n_all := PySem.W.mg_none_of X G nn_all,
    n_list := PySem.W.mg_none_of X G nn_list,
    n_dict := PySem.W.mg_none_of X G nn_dict,
    n_range := PySem.W.mg_none_of X G nn_range,
    n_ValueError := PySem.W.mg_none_of X G nn_ValueError,
    g_LINE_END := ⟨_, PySem.W.mg_of X G gk_LINE_END⟩,
    g_FARTHEST := ⟨_, PySem.W.mg_of X G gk_FARTHEST⟩,
    g_MOST_LIMIT := ⟨_, PySem.W.mg_of X G gk_MOST_LIMIT⟩,
    g_MOST_NAME := ⟨_, PySem.W.mg_of X G gk_MOST_NAME⟩,
    g_GROUND := ⟨_, PySem.W.mg_of X G gk_GROUND⟩,
    g_START := ⟨_, PySem.W.mg_of X G gk_START⟩,
    g_SIDES := PySem.W.mg_of X G gk_SIDES,
    t_SIDES := ⟨_, _, _, lt_SIDES, rfl, rfl, rfl, by show 2 ≤ sizeLine; decide, (.cons ⟨_, rfl⟩ (.cons ⟨_, rfl⟩ .nil))⟩,
    g_ENMITIES := PySem.W.mg_of X G gk_ENMITIES,
    t_ENMITIES := ⟨_, _, _, lt_ENMITIES, rfl, rfl, rfl, by show 4 ≤ sizeLine; decide, (.cons ⟨_, rfl⟩ (.cons ⟨_, rfl⟩ (.cons ⟨_, rfl⟩ (.cons ⟨_, rfl⟩ .nil))))⟩,
    g_NO_TEXT := ⟨_, PySem.W.mg_of X G gk_NO_TEXT⟩,
    g_SECOND_SEAT := ⟨_, PySem.W.mg_of X G gk_SECOND_SEAT⟩,
    g_WRONG_PIECE_rules := ⟨_, PySem.W.mg_of X G gk_WRONG_PIECE_rules⟩,
    g_SECOND_KING := ⟨_, PySem.W.mg_of X G gk_SECOND_KING⟩,
    g_NO_GOAL := ⟨_, PySem.W.mg_of X G gk_NO_GOAL⟩,
    g_NOT_THERE := ⟨_, PySem.W.mg_of X G gk_NOT_THERE⟩,
    g_HUNTERS := ⟨_, PySem.W.mg_of X G gk_HUNTERS⟩,
    g_KING := ⟨_, PySem.W.mg_of X G gk_KING⟩,
    g_WRONG_PIECE_positions := ⟨_, PySem.W.mg_of X G gk_WRONG_PIECE_positions⟩,
    g_NO_KING := ⟨_, PySem.W.mg_of X G gk_NO_KING⟩,
    g_WAYS := PySem.W.mg_of X G gk_WAYS,
    t_WAY0 := ⟨_, _, _, lt_WAY0, rfl, rfl, rfl, by show 2 ≤ sizeLine; decide, (.cons ⟨_, rfl⟩ (.cons ⟨_, rfl⟩ .nil))⟩,
    t_WAY1 := ⟨_, _, _, lt_WAY1, rfl, rfl, rfl, by show 2 ≤ sizeLine; decide, (.cons ⟨_, rfl⟩ (.cons ⟨_, rfl⟩ .nil))⟩,
    t_WAY2 := ⟨_, _, _, lt_WAY2, rfl, rfl, rfl, by show 2 ≤ sizeLine; decide, (.cons ⟨_, rfl⟩ (.cons ⟨_, rfl⟩ .nil))⟩,
    t_WAY3 := ⟨_, _, _, lt_WAY3, rfl, rfl, rfl, by show 2 ≤ sizeLine; decide, (.cons ⟨_, rfl⟩ (.cons ⟨_, rfl⟩ .nil))⟩,
    t_WAYS := ⟨_, _, _, lt_WAYS, rfl, rfl, rfl, by show 4 ≤ sizeLine; decide, .cons rfl (.cons rfl (.cons rfl (.cons rfl .nil)))⟩,
    g_NOT_OVER := ⟨_, PySem.W.mg_of X G gk_NOT_OVER⟩,
    g_KING_TAKEN := ⟨_, PySem.W.mg_of X G gk_KING_TAKEN⟩,
    g_AT_GOAL := ⟨_, PySem.W.mg_of X G gk_AT_GOAL⟩,
    g_NO_MOVE := ⟨_, PySem.W.mg_of X G gk_NO_MOVE⟩,
    g_AGAINST_HUNTERS := PySem.W.mg_of X G gk_AGAINST_HUNTERS,
    t_AGAINST_HUNTERS := ⟨_, _, _, lt_AGAINST_HUNTERS, rfl, rfl, rfl, by show 2 ≤ sizeLine; decide, (.cons ⟨_, rfl⟩ (.cons ⟨_, rfl⟩ .nil))⟩,
    g_AGAINST_MEN := PySem.W.mg_of X G gk_AGAINST_MEN,
    t_AGAINST_MEN := ⟨_, _, _, lt_AGAINST_MEN, rfl, rfl, rfl, by show 2 ≤ sizeLine; decide, (.cons ⟨_, rfl⟩ (.cons ⟨_, rfl⟩ .nil))⟩,
    g_END := ⟨_, PySem.W.mg_of X G gk_END⟩,
    g_BAD := ⟨_, PySem.W.mg_of X G gk_BAD⟩,
    g_NO_RULES := ⟨_, PySem.W.mg_of X G gk_NO_RULES⟩,
    g_BAD_LINE := ⟨_, PySem.W.mg_of X G gk_BAD_LINE⟩,
    g_BAD_RULES := ⟨_, PySem.W.mg_of X G gk_BAD_RULES⟩,
    g_BAD_WEIGHT := ⟨_, PySem.W.mg_of X G gk_BAD_WEIGHT⟩,
    g_TOO_MANY := ⟨_, PySem.W.mg_of X G gk_TOO_MANY⟩,
    g_MOST_WEIGHT := ⟨_, PySem.W.mg_of X G gk_MOST_WEIGHT⟩,
    g_MOST_AHEAD := ⟨_, PySem.W.mg_of X G gk_MOST_AHEAD⟩,
    g_MOST_MOVES := ⟨_, PySem.W.mg_of X G gk_MOST_MOVES⟩,
    g_NUMBERS := PySem.W.mg_of X G gk_NUMBERS,
    t_NUMBERS := ⟨_, _, _, lt_NUMBERS, rfl, rfl, rfl, by show 4 ≤ sizeLine; decide, (.cons ⟨_, rfl⟩ (.cons ⟨_, rfl⟩ (.cons ⟨_, rfl⟩ (.cons ⟨_, rfl⟩ .nil))))⟩,
    g_EACH := ⟨_, PySem.W.mg_of X G gk_EACH⟩ },
  fun s us hu => match us, hu with | [_], _ => .of_eq rfl⟩
end Tf

open PySem PySem.W PyProof.Rows
set_option maxRecDepth 100000 in
set_option maxHeartbeats 0 in
theorem PySem.Challenge.cw_taflahead_s01_answers_holds : PySem.Challenge.rw_taflahead_s01_answers.Holds := by
  w_on; k_headS; (case hw => exact ⟨[.list [.int 0, .int 0]], by decide +kernel, by decide +kernel⟩)
  k_fillS
  refine L2.walk_specK (r := PySem.Challenge.rw_taflahead_s01_answers) (k := 21) (CX := L2.CX0) (ps := ["calls"]) (sp := Tf.sp_answers) (by decide +kernel) rfl rfl ⟨rfl, by decide, by decide⟩ (fun w h Y => PySem.W.kIn_of Y) ?F ?S (fun _ _ _ _ z => z)
  case S =>
    intro K H xs a hO hwi hask hx
    cases hx with
    | cons h1 h2 =>
      cases h2
      cases h1 with
      | lst hs ha =>
        have e := L2.ints_dw a.1 _ ha
        subst e
        exact ⟨_, a.1, rfl, hs, hask, fun H' p hp _ => .lst (L2.SqL.of hp) (L2.dw_ints _)⟩
  case F =>
    intro w mg fa h Y KX G hmg
    suffices hT : ∃ A, Tf.Txt _ mg A ∧ ∀ (s : Shared) (us : List Value), us.length = 1 → BindsTo s A.d_answers ⟨us, []⟩ (([PySem.Str.ofString "calls"] : List PySem.Str).zip us) by
      obtain ⟨A, T, hb⟩ := hT
      have e := hmg.symm.trans T.g_answers
      cases e
      exact ⟨A.d_answers, hb, fun base _ _ => Tf.ok_answers T⟩
    refine' Tf.all_mk KX G ?gc_Fault ?gc_Bytes ?gc_Rules ?gc_Position ?gc_LineReader ?gc_TooMany ?gc_Node ?gc_Looking ?gc_Refused ?gc_Desk ?me_Fault___init__ ?me_Bytes___init__ ?me_Bytes_next_byte ?me_Bytes_want ?me_Bytes_is_one_of ?me_Bytes_take ?me_Bytes_literal ?me_Bytes_line_end ?me_Bytes_choice ?me_Bytes_size ?me_Bytes_limit ?me_Bytes_name ?me_Bytes_finish ?gf_is_letter ?me_Rules___init__ ?me_Rules_is_edge ?me_Rules_is_goal ?me_Rules_has ?me_Rules_may_stand ?me_Rules_settle ?gf_rows_read ?gf_head_read ?gf_king_read ?gf_rest_read ?gf_second_of ?gf_wrong_pieces ?gf_is_goal_wrong ?gf_lacks ?gf_read_rules ?gf_second_seats ?me_Position___init__ ?me_Position_has_piece ?me_LineReader___init__ ?me_LineReader_gap ?me_LineReader_piece ?me_LineReader_row ?me_LineReader_line ?gf_read_position ?gf_beside ?gf_is_free ?gf_may_stop ?gf_may_go_over ?gf_goals_of ?gf_king_goals ?gf_movers ?gf_moves_of ?gf_has_move ?gf_is_against ?gf_has_hunter_or_against ?gf_is_helper ?gf_taken_hunters ?gf_is_king_shut ?gf_taken_men ?gf_gone_to ?gf_made ?gf_over_by ?gf_have_hunters_won ?gf_weighed ?me_Node___init__ ?me_Looking___init__ ?me_Looking_node ?gf_worth ?gf_branch_worths ?gf_row_of ?me_Refused___init__ ?gf_want ?me_Desk___init__ ?me_Desk_set_rules ?me_Desk_position_in ?me_Desk_weigh ?me_Desk_looked ?me_Desk_ahead ?me_Desk_each ?me_Desk_done ?me_Desk_answer ?gf_answers ?l_f_Fault___init__ ?c_f_Fault___init__ ?k_f_Fault___init__ ?l_f_Bytes___init__ ?c_f_Bytes___init__ ?k_f_Bytes___init__ ?l_f_Bytes_next_byte ?c_f_Bytes_next_byte ?k_f_Bytes_next_byte ?l_f_Bytes_want ?c_f_Bytes_want ?k_f_Bytes_want ?l_f_Bytes_is_one_of ?c_f_Bytes_is_one_of ?k_f_Bytes_is_one_of ?l_f_Bytes_take ?c_f_Bytes_take ?k_f_Bytes_take ?l_f_Bytes_literal ?c_f_Bytes_literal ?k_f_Bytes_literal ?l_f_Bytes_line_end ?c_f_Bytes_line_end ?k_f_Bytes_line_end ?l_f_Bytes_choice ?c_f_Bytes_choice ?k_f_Bytes_choice ?l_f_Bytes_size ?c_f_Bytes_size ?k_f_Bytes_size ?l_f_Bytes_limit ?c_f_Bytes_limit ?k_f_Bytes_limit ?l_f_Bytes_name ?c_f_Bytes_name ?k_f_Bytes_name ?l_f_Bytes_finish ?c_f_Bytes_finish ?k_f_Bytes_finish ?l_f_is_letter ?c_f_is_letter ?k_f_is_letter ?l_f_Rules___init__ ?c_f_Rules___init__ ?k_f_Rules___init__ ?l_f_Rules_is_edge ?c_f_Rules_is_edge ?k_f_Rules_is_edge ?l_f_Rules_is_goal ?c_f_Rules_is_goal ?k_f_Rules_is_goal ?l_f_Rules_has ?c_f_Rules_has ?k_f_Rules_has ?l_f_Rules_may_stand ?c_f_Rules_may_stand ?k_f_Rules_may_stand ?l_f_Rules_settle ?c_f_Rules_settle ?k_f_Rules_settle ?l_f_rows_read ?c_f_rows_read ?k_f_rows_read ?l_f_head_read ?c_f_head_read ?k_f_head_read ?l_f_king_read ?c_f_king_read ?k_f_king_read ?l_f_rest_read ?c_f_rest_read ?k_f_rest_read ?l_f_second_of ?c_f_second_of ?k_f_second_of ?l_f_wrong_pieces ?c_f_wrong_pieces ?k_f_wrong_pieces ?l_f_is_goal_wrong ?c_f_is_goal_wrong ?k_f_is_goal_wrong ?l_f_lacks ?c_f_lacks ?k_f_lacks ?l_f_read_rules ?c_f_read_rules ?k_f_read_rules ?l_f_second_seats ?c_f_second_seats ?k_f_second_seats ?l_f_Position___init__ ?c_f_Position___init__ ?k_f_Position___init__ ?l_f_Position_has_piece ?c_f_Position_has_piece ?k_f_Position_has_piece ?l_f_LineReader___init__ ?c_f_LineReader___init__ ?k_f_LineReader___init__ ?l_f_LineReader_gap ?c_f_LineReader_gap ?k_f_LineReader_gap ?l_f_LineReader_piece ?c_f_LineReader_piece ?k_f_LineReader_piece ?l_f_LineReader_row ?c_f_LineReader_row ?k_f_LineReader_row ?l_f_LineReader_line ?c_f_LineReader_line ?k_f_LineReader_line ?l_f_read_position ?c_f_read_position ?k_f_read_position ?l_f_beside ?c_f_beside ?k_f_beside ?l_f_is_free ?c_f_is_free ?k_f_is_free ?l_f_may_stop ?c_f_may_stop ?k_f_may_stop ?l_f_may_go_over ?c_f_may_go_over ?k_f_may_go_over ?l_f_goals_of ?c_f_goals_of ?k_f_goals_of ?l_f_king_goals ?c_f_king_goals ?k_f_king_goals ?l_f_movers ?c_f_movers ?k_f_movers ?l_f_moves_of ?c_f_moves_of ?k_f_moves_of ?l_f_has_move ?c_f_has_move ?k_f_has_move ?l_f_is_against ?c_f_is_against ?k_f_is_against ?l_f_has_hunter_or_against ?c_f_has_hunter_or_against ?k_f_has_hunter_or_against ?l_f_is_helper ?c_f_is_helper ?k_f_is_helper ?l_f_taken_hunters ?c_f_taken_hunters ?k_f_taken_hunters ?l_f_is_king_shut ?c_f_is_king_shut ?k_f_is_king_shut ?l_f_taken_men ?c_f_taken_men ?k_f_taken_men ?l_f_gone_to ?c_f_gone_to ?k_f_gone_to ?l_f_made ?c_f_made ?k_f_made ?l_f_over_by ?c_f_over_by ?k_f_over_by ?l_f_have_hunters_won ?c_f_have_hunters_won ?k_f_have_hunters_won ?l_f_weighed ?c_f_weighed ?k_f_weighed ?l_f_Node___init__ ?c_f_Node___init__ ?k_f_Node___init__ ?l_f_Looking___init__ ?c_f_Looking___init__ ?k_f_Looking___init__ ?l_f_Looking_node ?c_f_Looking_node ?k_f_Looking_node ?l_f_worth ?c_f_worth ?k_f_worth ?l_f_branch_worths ?c_f_branch_worths ?k_f_branch_worths ?l_f_row_of ?c_f_row_of ?k_f_row_of ?l_f_Refused___init__ ?c_f_Refused___init__ ?k_f_Refused___init__ ?l_f_want ?c_f_want ?k_f_want ?l_f_Desk___init__ ?c_f_Desk___init__ ?k_f_Desk___init__ ?l_f_Desk_set_rules ?c_f_Desk_set_rules ?k_f_Desk_set_rules ?l_f_Desk_position_in ?c_f_Desk_position_in ?k_f_Desk_position_in ?l_f_Desk_weigh ?c_f_Desk_weigh ?k_f_Desk_weigh ?l_f_Desk_looked ?c_f_Desk_looked ?k_f_Desk_looked ?l_f_Desk_ahead ?c_f_Desk_ahead ?k_f_Desk_ahead ?l_f_Desk_each ?c_f_Desk_each ?k_f_Desk_each ?l_f_Desk_done ?c_f_Desk_done ?k_f_Desk_done ?l_f_Desk_answer ?c_f_Desk_answer ?k_f_Desk_answer ?l_f_answers ?c_f_answers ?k_f_answers ?mk_Bytes ?kc_Bytes ?i_f_Bytes___init__ ?pg_Bytes ?hd_Bytes ?po_Bytes ?sa_Bytes ?no_Bytes_text ?no_Bytes_at ?i_f_Bytes_next_byte ?i_f_Bytes_want ?i_f_Bytes_is_one_of ?i_f_Bytes_take ?i_f_Bytes_literal ?i_f_Bytes_line_end ?i_f_Bytes_choice ?i_f_Bytes_size ?i_f_Bytes_limit ?i_f_Bytes_name ?i_f_Bytes_finish ?mk_Rules ?kc_Rules ?i_f_Rules___init__ ?pg_Rules ?hd_Rules ?po_Rules ?sa_Rules ?i_f_Rules_is_edge ?i_f_Rules_is_goal ?i_f_Rules_has ?i_f_Rules_may_stand ?i_f_Rules_settle ?no_Rules_wide ?no_Rules_high ?no_Rules_is_king_first ?no_Rules_slides ?no_Rules_armed ?no_Rules_four ?no_Rules_passed ?no_Rules_seat_enmity ?no_Rules_exit_enmity ?no_Rules_is_goal_exits ?no_Rules_goal_place ?no_Rules_seat ?no_Rules_exits ?no_Rules_walls ?no_Rules_ground ?no_Rules_start ?mk_Position ?kc_Position ?i_f_Position___init__ ?pg_Position ?hd_Position ?po_Position ?sa_Position ?i_f_Position_has_piece ?no_Position_hunters ?no_Position_men ?no_Position_king ?no_Position_turn ?no_Position_pieces ?mk_LineReader ?kc_LineReader ?i_f_LineReader___init__ ?pg_LineReader ?hd_LineReader ?po_LineReader ?sa_LineReader ?no_LineReader_text ?no_LineReader_at ?me_LineReader_next_byte ?me_LineReader_want ?me_LineReader_is_one_of ?me_LineReader_take ?me_LineReader_literal ?me_LineReader_line_end ?me_LineReader_choice ?me_LineReader_size ?me_LineReader_limit ?me_LineReader_name ?me_LineReader_finish ?i_f_LineReader_gap ?i_f_LineReader_piece ?i_f_LineReader_row ?i_f_LineReader_line ?no_LineReader_stood ?mk_Node ?kc_Node ?i_f_Node___init__ ?pg_Node ?hd_Node ?po_Node ?sa_Node ?no_Node_position ?no_Node_over ?no_Node_branches ?mk_Looking ?kc_Looking ?i_f_Looking___init__ ?pg_Looking ?hd_Looking ?po_Looking ?sa_Looking ?i_f_Looking_node ?no_Looking_rules ?no_Looking_left ?mk_Desk ?kc_Desk ?i_f_Desk___init__ ?pg_Desk ?hd_Desk ?po_Desk ?sa_Desk ?i_f_Desk_set_rules ?i_f_Desk_position_in ?i_f_Desk_weigh ?i_f_Desk_looked ?i_f_Desk_ahead ?i_f_Desk_each ?i_f_Desk_done ?i_f_Desk_answer ?no_Desk_rules ?rd_c_Bytes ?ga_c_Bytes ?cv_at ?xl_Fault ?xsa_Fault ?xe_Fault ?xt_Fault ?xk_Fault ?xti_Fault ?xnf_kind ?xnf_place ?xga_Fault ?xgg_Fault ?xhd_Fault ?xis_Fault ?xss_Fault ?xl_Refused ?xsa_Refused ?xe_Refused ?xt_Refused ?xk_Refused ?xti_Refused ?xnf_told ?xga_Refused ?xgg_Refused ?xhd_Refused ?xis_Refused ?xss_Refused ?xTM ?xk_TooMany ?xe_TooMany ?xt_TooMany ?xis_TooMany ?xss_TooMany ?ve ?nn_len ?nn_int ?nn_ord ?nn_max ?nn_min ?nn_sorted ?nn_all ?nn_list ?nn_dict ?nn_range ?nn_ValueError ?gk_LINE_END ?gk_FARTHEST ?gk_MOST_LIMIT ?gk_MOST_NAME ?gk_GROUND ?gk_START ?gk_SIDES ?gk_ENMITIES ?gk_NO_TEXT ?gk_SECOND_SEAT ?gk_WRONG_PIECE_rules ?gk_SECOND_KING ?gk_NO_GOAL ?gk_NOT_THERE ?gk_HUNTERS ?gk_KING ?gk_WRONG_PIECE_positions ?gk_NO_KING ?gk_WAYS ?gk_NOT_OVER ?gk_KING_TAKEN ?gk_AT_GOAL ?gk_NO_MOVE ?gk_AGAINST_HUNTERS ?gk_AGAINST_MEN ?gk_END ?gk_BAD ?gk_NO_RULES ?gk_BAD_LINE ?gk_BAD_RULES ?gk_BAD_WEIGHT ?gk_TOO_MANY ?gk_MOST_WEIGHT ?gk_MOST_AHEAD ?gk_MOST_MOVES ?gk_NUMBERS ?gk_EACH ?lt_SIDES ?lt_ENMITIES ?lt_WAYS ?lt_WAY0 ?lt_WAY1 ?lt_WAY2 ?lt_WAY3 ?lt_AGAINST_HUNTERS ?lt_AGAINST_MEN ?lt_NUMBERS
    (case gc_Fault => k_is); (case gc_Bytes => k_is); (case gc_Rules => k_is); (case gc_Position => k_is); (case gc_LineReader => k_is); (case gc_TooMany => k_is)
    (case gc_Node => k_is); (case gc_Looking => k_is); (case gc_Refused => k_is); (case gc_Desk => k_is); (case me_Fault___init__ => k_is); (case me_Bytes___init__ => k_is)
    (case me_Bytes_next_byte => k_is); (case me_Bytes_want => k_is); (case me_Bytes_is_one_of => k_is); (case me_Bytes_take => k_is); (case me_Bytes_literal => k_is); (case me_Bytes_line_end => k_is)
    (case me_Bytes_choice => k_is); (case me_Bytes_size => k_is); (case me_Bytes_limit => k_is); (case me_Bytes_name => k_is); (case me_Bytes_finish => k_is); (case gf_is_letter => k_is)
    (case me_Rules___init__ => k_is); (case me_Rules_is_edge => k_is); (case me_Rules_is_goal => k_is); (case me_Rules_has => k_is); (case me_Rules_may_stand => k_is); (case me_Rules_settle => k_is)
    (case gf_rows_read => k_is); (case gf_head_read => k_is); (case gf_king_read => k_is); (case gf_rest_read => k_is); (case gf_second_of => k_is); (case gf_wrong_pieces => k_is)
    (case gf_is_goal_wrong => k_is); (case gf_lacks => k_is); (case gf_read_rules => k_is); (case gf_second_seats => k_is); (case me_Position___init__ => k_is); (case me_Position_has_piece => k_is)
    (case me_LineReader___init__ => k_is); (case me_LineReader_gap => k_is); (case me_LineReader_piece => k_is); (case me_LineReader_row => k_is); (case me_LineReader_line => k_is); (case gf_read_position => k_is)
    (case gf_beside => k_is); (case gf_is_free => k_is); (case gf_may_stop => k_is); (case gf_may_go_over => k_is); (case gf_goals_of => k_is); (case gf_king_goals => k_is)
    (case gf_movers => k_is); (case gf_moves_of => k_is); (case gf_has_move => k_is); (case gf_is_against => k_is); (case gf_has_hunter_or_against => k_is); (case gf_is_helper => k_is)
    (case gf_taken_hunters => k_is); (case gf_is_king_shut => k_is); (case gf_taken_men => k_is); (case gf_gone_to => k_is); (case gf_made => k_is); (case gf_over_by => k_is)
    (case gf_have_hunters_won => k_is); (case gf_weighed => k_is); (case me_Node___init__ => k_is); (case me_Looking___init__ => k_is); (case me_Looking_node => k_is); (case gf_worth => k_is)
    (case gf_branch_worths => k_is); (case gf_row_of => k_is); (case me_Refused___init__ => k_is); (case gf_want => k_is); (case me_Desk___init__ => k_is); (case me_Desk_set_rules => k_is)
    (case me_Desk_position_in => k_is); (case me_Desk_weigh => k_is); (case me_Desk_looked => k_is); (case me_Desk_ahead => k_is); (case me_Desk_each => k_is); (case me_Desk_done => k_is)
    (case me_Desk_answer => k_is); (case gf_answers => k_is); (case l_f_Fault___init__ => k_is); (case c_f_Fault___init__ => k_is); (case k_f_Fault___init__ => k_is); (case l_f_Bytes___init__ => k_is)
    (case c_f_Bytes___init__ => k_is); (case k_f_Bytes___init__ => k_is); (case l_f_Bytes_next_byte => k_is); (case c_f_Bytes_next_byte => k_is); (case k_f_Bytes_next_byte => k_is); (case l_f_Bytes_want => k_is)
    (case c_f_Bytes_want => k_is); (case k_f_Bytes_want => k_is); (case l_f_Bytes_is_one_of => k_is); (case c_f_Bytes_is_one_of => k_is); (case k_f_Bytes_is_one_of => k_is); (case l_f_Bytes_take => k_is)
    (case c_f_Bytes_take => k_is); (case k_f_Bytes_take => k_is); (case l_f_Bytes_literal => k_is); (case c_f_Bytes_literal => k_is); (case k_f_Bytes_literal => k_is); (case l_f_Bytes_line_end => k_is)
    (case c_f_Bytes_line_end => k_is); (case k_f_Bytes_line_end => k_is); (case l_f_Bytes_choice => k_is); (case c_f_Bytes_choice => k_is); (case k_f_Bytes_choice => k_is); (case l_f_Bytes_size => k_is)
    (case c_f_Bytes_size => k_is); (case k_f_Bytes_size => k_is); (case l_f_Bytes_limit => k_is); (case c_f_Bytes_limit => k_is); (case k_f_Bytes_limit => k_is); (case l_f_Bytes_name => k_is)
    (case c_f_Bytes_name => k_is); (case k_f_Bytes_name => k_is); (case l_f_Bytes_finish => k_is); (case c_f_Bytes_finish => k_is); (case k_f_Bytes_finish => k_is); (case l_f_is_letter => k_is)
    (case c_f_is_letter => k_is); (case k_f_is_letter => k_is); (case l_f_Rules___init__ => k_is); (case c_f_Rules___init__ => k_is); (case k_f_Rules___init__ => k_is); (case l_f_Rules_is_edge => k_is)
    (case c_f_Rules_is_edge => k_is); (case k_f_Rules_is_edge => k_is); (case l_f_Rules_is_goal => k_is); (case c_f_Rules_is_goal => k_is); (case k_f_Rules_is_goal => k_is); (case l_f_Rules_has => k_is)
    (case c_f_Rules_has => k_is); (case k_f_Rules_has => k_is); (case l_f_Rules_may_stand => k_is); (case c_f_Rules_may_stand => k_is); (case k_f_Rules_may_stand => k_is); (case l_f_Rules_settle => k_is)
    (case c_f_Rules_settle => k_is); (case k_f_Rules_settle => k_is); (case l_f_rows_read => k_is); (case c_f_rows_read => k_is); (case k_f_rows_read => k_is); (case l_f_head_read => k_is)
    (case c_f_head_read => k_is); (case k_f_head_read => k_is); (case l_f_king_read => k_is); (case c_f_king_read => k_is); (case k_f_king_read => k_is); (case l_f_rest_read => k_is)
    (case c_f_rest_read => k_is); (case k_f_rest_read => k_is); (case l_f_second_of => k_is); (case c_f_second_of => k_is); (case k_f_second_of => k_is); (case l_f_wrong_pieces => k_is)
    (case c_f_wrong_pieces => k_is); (case k_f_wrong_pieces => k_is); (case l_f_is_goal_wrong => k_is); (case c_f_is_goal_wrong => k_is); (case k_f_is_goal_wrong => k_is); (case l_f_lacks => k_is)
    (case c_f_lacks => k_is); (case k_f_lacks => k_is); (case l_f_read_rules => k_is); (case c_f_read_rules => k_is); (case k_f_read_rules => k_is); (case l_f_second_seats => k_is)
    (case c_f_second_seats => k_is); (case k_f_second_seats => k_is); (case l_f_Position___init__ => k_is); (case c_f_Position___init__ => k_is); (case k_f_Position___init__ => k_is); (case l_f_Position_has_piece => k_is)
    (case c_f_Position_has_piece => k_is); (case k_f_Position_has_piece => k_is); (case l_f_LineReader___init__ => k_is); (case c_f_LineReader___init__ => k_is); (case k_f_LineReader___init__ => k_is); (case l_f_LineReader_gap => k_is)
    (case c_f_LineReader_gap => k_is); (case k_f_LineReader_gap => k_is); (case l_f_LineReader_piece => k_is); (case c_f_LineReader_piece => k_is); (case k_f_LineReader_piece => k_is); (case l_f_LineReader_row => k_is)
    (case c_f_LineReader_row => k_is); (case k_f_LineReader_row => k_is); (case l_f_LineReader_line => k_is); (case c_f_LineReader_line => k_is); (case k_f_LineReader_line => k_is); (case l_f_read_position => k_is)
    (case c_f_read_position => k_is); (case k_f_read_position => k_is); (case l_f_beside => k_is); (case c_f_beside => k_is); (case k_f_beside => k_is); (case l_f_is_free => k_is)
    (case c_f_is_free => k_is); (case k_f_is_free => k_is); (case l_f_may_stop => k_is); (case c_f_may_stop => k_is); (case k_f_may_stop => k_is); (case l_f_may_go_over => k_is)
    (case c_f_may_go_over => k_is); (case k_f_may_go_over => k_is); (case l_f_goals_of => k_is); (case c_f_goals_of => k_is); (case k_f_goals_of => k_is); (case l_f_king_goals => k_is)
    (case c_f_king_goals => k_is); (case k_f_king_goals => k_is); (case l_f_movers => k_is); (case c_f_movers => k_is); (case k_f_movers => k_is); (case l_f_moves_of => k_is)
    (case c_f_moves_of => k_is); (case k_f_moves_of => k_is); (case l_f_has_move => k_is); (case c_f_has_move => k_is); (case k_f_has_move => k_is); (case l_f_is_against => k_is)
    (case c_f_is_against => k_is); (case k_f_is_against => k_is); (case l_f_has_hunter_or_against => k_is); (case c_f_has_hunter_or_against => k_is); (case k_f_has_hunter_or_against => k_is); (case l_f_is_helper => k_is)
    (case c_f_is_helper => k_is); (case k_f_is_helper => k_is); (case l_f_taken_hunters => k_is); (case c_f_taken_hunters => k_is); (case k_f_taken_hunters => k_is); (case l_f_is_king_shut => k_is)
    (case c_f_is_king_shut => k_is); (case k_f_is_king_shut => k_is); (case l_f_taken_men => k_is); (case c_f_taken_men => k_is); (case k_f_taken_men => k_is); (case l_f_gone_to => k_is)
    (case c_f_gone_to => k_is); (case k_f_gone_to => k_is); (case l_f_made => k_is); (case c_f_made => k_is); (case k_f_made => k_is); (case l_f_over_by => k_is)
    (case c_f_over_by => k_is); (case k_f_over_by => k_is); (case l_f_have_hunters_won => k_is); (case c_f_have_hunters_won => k_is); (case k_f_have_hunters_won => k_is); (case l_f_weighed => k_is)
    (case c_f_weighed => k_is); (case k_f_weighed => k_is); (case l_f_Node___init__ => k_is); (case c_f_Node___init__ => k_is); (case k_f_Node___init__ => k_is); (case l_f_Looking___init__ => k_is)
    (case c_f_Looking___init__ => k_is); (case k_f_Looking___init__ => k_is); (case l_f_Looking_node => k_is); (case c_f_Looking_node => k_is); (case k_f_Looking_node => k_is); (case l_f_worth => k_is)
    (case c_f_worth => k_is); (case k_f_worth => k_is); (case l_f_branch_worths => k_is); (case c_f_branch_worths => k_is); (case k_f_branch_worths => k_is); (case l_f_row_of => k_is)
    (case c_f_row_of => k_is); (case k_f_row_of => k_is); (case l_f_Refused___init__ => k_is); (case c_f_Refused___init__ => k_is); (case k_f_Refused___init__ => k_is); (case l_f_want => k_is)
    (case c_f_want => k_is); (case k_f_want => k_is); (case l_f_Desk___init__ => k_is); (case c_f_Desk___init__ => k_is); (case k_f_Desk___init__ => k_is); (case l_f_Desk_set_rules => k_is)
    (case c_f_Desk_set_rules => k_is); (case k_f_Desk_set_rules => k_is); (case l_f_Desk_position_in => k_is); (case c_f_Desk_position_in => k_is); (case k_f_Desk_position_in => k_is); (case l_f_Desk_weigh => k_is)
    (case c_f_Desk_weigh => k_is); (case k_f_Desk_weigh => k_is); (case l_f_Desk_looked => k_is); (case c_f_Desk_looked => k_is); (case k_f_Desk_looked => k_is); (case l_f_Desk_ahead => k_is)
    (case c_f_Desk_ahead => k_is); (case k_f_Desk_ahead => k_is); (case l_f_Desk_each => k_is); (case c_f_Desk_each => k_is); (case k_f_Desk_each => k_is); (case l_f_Desk_done => k_is)
    (case c_f_Desk_done => k_is); (case k_f_Desk_done => k_is); (case l_f_Desk_answer => k_is); (case c_f_Desk_answer => k_is); (case k_f_Desk_answer => k_is); (case l_f_answers => k_is)
    (case c_f_answers => k_is); (case k_f_answers => k_is); (case mk_Bytes => k_is); (case kc_Bytes => k_is); (case i_f_Bytes___init__ => k_is); (case pg_Bytes => k_is)
    (case hd_Bytes => k_is); (case po_Bytes => k_is); (case sa_Bytes => k_is); (case no_Bytes_text => k_is); (case no_Bytes_at => k_is); (case i_f_Bytes_next_byte => k_is)
    (case i_f_Bytes_want => k_is); (case i_f_Bytes_is_one_of => k_is); (case i_f_Bytes_take => k_is); (case i_f_Bytes_literal => k_is); (case i_f_Bytes_line_end => k_is); (case i_f_Bytes_choice => k_is)
    (case i_f_Bytes_size => k_is); (case i_f_Bytes_limit => k_is); (case i_f_Bytes_name => k_is); (case i_f_Bytes_finish => k_is); (case mk_Rules => k_is); (case kc_Rules => k_is)
    (case i_f_Rules___init__ => k_is); (case pg_Rules => k_is); (case hd_Rules => k_is); (case po_Rules => k_is); (case sa_Rules => k_is); (case i_f_Rules_is_edge => k_is)
    (case i_f_Rules_is_goal => k_is); (case i_f_Rules_has => k_is); (case i_f_Rules_may_stand => k_is); (case i_f_Rules_settle => k_is); (case no_Rules_wide => k_is); (case no_Rules_high => k_is)
    (case no_Rules_is_king_first => k_is); (case no_Rules_slides => k_is); (case no_Rules_armed => k_is); (case no_Rules_four => k_is); (case no_Rules_passed => k_is); (case no_Rules_seat_enmity => k_is)
    (case no_Rules_exit_enmity => k_is); (case no_Rules_is_goal_exits => k_is); (case no_Rules_goal_place => k_is); (case no_Rules_seat => k_is); (case no_Rules_exits => k_is); (case no_Rules_walls => k_is)
    (case no_Rules_ground => k_is); (case no_Rules_start => k_is); (case mk_Position => k_is); (case kc_Position => k_is); (case i_f_Position___init__ => k_is); (case pg_Position => k_is)
    (case hd_Position => k_is); (case po_Position => k_is); (case sa_Position => k_is); (case i_f_Position_has_piece => k_is); (case no_Position_hunters => k_is); (case no_Position_men => k_is)
    (case no_Position_king => k_is); (case no_Position_turn => k_is); (case no_Position_pieces => k_is); (case mk_LineReader => k_is); (case kc_LineReader => k_is); (case i_f_LineReader___init__ => k_is)
    (case pg_LineReader => k_is); (case hd_LineReader => k_is); (case po_LineReader => k_is); (case sa_LineReader => k_is); (case no_LineReader_text => k_is); (case no_LineReader_at => k_is)
    (case me_LineReader_next_byte => k_is); (case me_LineReader_want => k_is); (case me_LineReader_is_one_of => k_is); (case me_LineReader_take => k_is); (case me_LineReader_literal => k_is); (case me_LineReader_line_end => k_is)
    (case me_LineReader_choice => k_is); (case me_LineReader_size => k_is); (case me_LineReader_limit => k_is); (case me_LineReader_name => k_is); (case me_LineReader_finish => k_is); (case i_f_LineReader_gap => k_is)
    (case i_f_LineReader_piece => k_is); (case i_f_LineReader_row => k_is); (case i_f_LineReader_line => k_is); (case no_LineReader_stood => k_is); (case mk_Node => k_is); (case kc_Node => k_is)
    (case i_f_Node___init__ => k_is); (case pg_Node => k_is); (case hd_Node => k_is); (case po_Node => k_is); (case sa_Node => k_is); (case no_Node_position => k_is)
    (case no_Node_over => k_is); (case no_Node_branches => k_is); (case mk_Looking => k_is); (case kc_Looking => k_is); (case i_f_Looking___init__ => k_is); (case pg_Looking => k_is)
    (case hd_Looking => k_is); (case po_Looking => k_is); (case sa_Looking => k_is); (case i_f_Looking_node => k_is); (case no_Looking_rules => k_is); (case no_Looking_left => k_is)
    (case mk_Desk => k_is); (case kc_Desk => k_is); (case i_f_Desk___init__ => k_is); (case pg_Desk => k_is); (case hd_Desk => k_is); (case po_Desk => k_is)
    (case sa_Desk => k_is); (case i_f_Desk_set_rules => k_is); (case i_f_Desk_position_in => k_is); (case i_f_Desk_weigh => k_is); (case i_f_Desk_looked => k_is); (case i_f_Desk_ahead => k_is)
    (case i_f_Desk_each => k_is); (case i_f_Desk_done => k_is); (case i_f_Desk_answer => k_is); (case no_Desk_rules => k_is); (case rd_c_Bytes => k_is); (case ga_c_Bytes => k_is)
    (case cv_at => k_is); (case xl_Fault => k_is); (case xsa_Fault => k_is); (case xe_Fault => k_is); (case xt_Fault => k_is); (case xk_Fault => k_is)
    (case xti_Fault => k_is); (case xnf_kind => k_is); (case xnf_place => k_is); (case xga_Fault => k_is); (case xgg_Fault => k_is); (case xhd_Fault => k_is)
    (case xis_Fault => k_is); (case xss_Fault => first | rfl | k_is); (case xl_Refused => k_is); (case xsa_Refused => k_is); (case xe_Refused => k_is); (case xt_Refused => k_is)
    (case xk_Refused => k_is); (case xti_Refused => k_is); (case xnf_told => k_is); (case xga_Refused => k_is); (case xgg_Refused => k_is); (case xhd_Refused => k_is)
    (case xis_Refused => k_is); (case xss_Refused => first | rfl | k_is); (case xTM => k_exc); (case xk_TooMany => k_is); (case xe_TooMany => k_is); (case xt_TooMany => k_is)
    (case xis_TooMany => k_is); (case xss_TooMany => first | rfl | k_is); (case ve => k_is); (case nn_len => k_is); (case nn_int => k_is); (case nn_ord => k_is)
    (case nn_max => k_is); (case nn_min => k_is); (case nn_sorted => k_is); (case nn_all => k_is); (case nn_list => k_is); (case nn_dict => k_is)
    (case nn_range => k_is); (case nn_ValueError => k_is); (case gk_LINE_END => k_is); (case gk_FARTHEST => k_is); (case gk_MOST_LIMIT => k_is); (case gk_MOST_NAME => k_is)
    (case gk_GROUND => k_is); (case gk_START => k_is); (case gk_SIDES => k_is); (case gk_ENMITIES => k_is); (case gk_NO_TEXT => k_is); (case gk_SECOND_SEAT => k_is)
    (case gk_WRONG_PIECE_rules => k_is); (case gk_SECOND_KING => k_is); (case gk_NO_GOAL => k_is); (case gk_NOT_THERE => k_is); (case gk_HUNTERS => k_is); (case gk_KING => k_is)
    (case gk_WRONG_PIECE_positions => k_is); (case gk_NO_KING => k_is); (case gk_WAYS => k_is); (case gk_NOT_OVER => k_is); (case gk_KING_TAKEN => k_is); (case gk_AT_GOAL => k_is)
    (case gk_NO_MOVE => k_is); (case gk_AGAINST_HUNTERS => k_is); (case gk_AGAINST_MEN => k_is); (case gk_END => k_is); (case gk_BAD => k_is); (case gk_NO_RULES => k_is)
    (case gk_BAD_LINE => k_is); (case gk_BAD_RULES => k_is); (case gk_BAD_WEIGHT => k_is); (case gk_TOO_MANY => k_is); (case gk_MOST_WEIGHT => k_is); (case gk_MOST_AHEAD => k_is)
    (case gk_MOST_MOVES => k_is); (case gk_NUMBERS => k_is); (case gk_EACH => k_is); (case lt_SIDES => k_is); (case lt_ENMITIES => k_is); (case lt_WAYS => k_is)
    (case lt_WAY0 => k_is); (case lt_WAY1 => k_is); (case lt_WAY2 => k_is); (case lt_WAY3 => k_is); (case lt_AGAINST_HUNTERS => k_is); (case lt_AGAINST_MEN => k_is)
    (case lt_NUMBERS => k_is)

