import PyProof.Rows.All
import Wide.All
import OpenK.AllK
import Wide.FinOn
import HandS.ForMost
import HandS.Evl
import HandS.EndBits
import HandS.WideBits
import HandS.Star
import PyProof.ReprRoads
import PyProof.ReprLen
import KE.KExcSuper
import HandS.ExcInit
import HandS.ExcField
import HandS.ExcIs
import HandS.IsInst
import HandS.ExcOwn
import HandS.Replace
import HandS.ReplaceLit
import HandS.Ends
import HandS.HeadEnd
import HandS.Head0
import HandS.Head1
import HandS.Head2
import HandS.HeadHook1
import HandS.HeadHook2
import KE.KTab
import HandS.Defaults
import HandS.Dict
import HandS.Codes
import HandS.Deep
import PySem.Challenge.RW_leastkept_k01_errors_each_of_its_own
import HandS.TupAny
set_option Elab.async false
set_option linter.all false
set_option maxRecDepth 100000
set_option maxHeartbeats 4000000
namespace DL
open PySem L2 Evl PySem.Spec PyProof.Rows
/-! ### promises that ask that no repr is under way -/
structure FnG (P : Program) (w : World) (K : PySem.W.Frag) (mg : Str → Option Value) (base : Heap) (CX : CXT) (k : Nat) (f : Addr) (fd : FuncData) (ps : List Str) (sp : Sp) : Prop where
  len : ∀ vs H Q E, sp vs H Q E → vs.length = ps.length
  run : ∀ (A : Around) (outer : List Env) (s : Shared) (H : Hp) (args : Args) (us : List Value) (vs : List V) (Q : VK) (E : XK), A.guards = some [] → Room k A →
    Env0 P w K mg base A outer s H → BindsTo s fd args (ps.zip us) → Vals vs us → sp vs H Q E → codeAny (model P w) A (.call (.ref f) args) (CR CX outer P w H s Q E) s
section
variable {P : Program} {w : World} {K : PySem.W.Frag} {mg : Str → Option Value} {base : Heap} {CX : CXT} {j k : Nat} {f : Addr} {fd : FuncData} {ps : List Str} {sp : Sp}
theorem FnG.of (F : FnOk P w K mg base CX k f fd ps sp) : FnG P w K mg base CX k f fd ps sp :=
  ⟨F.len, fun A outer s H args us vs Q E _ => F.run A outer s H args us vs Q E⟩
theorem FnG.mono (F : FnG P w K mg base CX j f fd ps sp) (h : j ≤ k) : FnG P w K mg base CX k f fd ps sp :=
  ⟨F.len, fun A outer s H args us vs Q E hg hr => F.run A outer s H args us vs Q E hg (hr.mono h)⟩
theorem fnG_of {name qual : Str} {params : Arguments} {body : List Stmt} {scope : Scope} {dV kV doc pm cdv ct oc : Value} {an od : Option Addr} {osl : Array (Option Value)} {N : List Str}
    (lk : K.lookup f = some ⟨oc, od, .func (PySem.W.fnOf name qual params body scope dV kV doc pm an cdv ct), osl⟩) (hcd : PySem.W.codeIn K cdv qual = true) (S : FnScope N ps scope) (len : ∀ vs H Q E, sp vs H Q E → vs.length = ps.length)
    (hbody : ∀ (A : Around) (outer : List Env) (s : Shared) (H : Hp) (vs : List V) (Q : VK) (E : XK), A.guards = some [] → Room k (A.deeper (envOfC qual scope s.heap.objs.size f cdv)) → sp vs H Q E →
      ∃ t, PSs (cxOf CX P w K mg base N qual scope f cdv A outer s H E) body t ∧ t { nx := fun _ H' => Q .non H', rt := Q } (L2.start N vs) H) :
    FnG P w K mg base CX (k + 1) f (PySem.W.fnOf name qual params body scope dV kV doc pm an cdv ct) ps sp := by
  refine ⟨len, fun A outer s H args us vs Q E hgd hr e0 hb r hsp => ?_⟩
  have hl := len _ _ _ _ hsp
  have KX : K.In s.heap := e0.mod.kin.keeps fun b o z => (e0.bs b o z).1
  have lim : s.heap.NoLimit := e0.mod.nolimit.keeps fun b o z => (e0.bs b o z).1
  have hkind : ∀ y ∈ ps.zip us, scope.names.lookup y.1 = some .local ∨ (scope.names.lookup y.1 = some .cell ∧ ((cellsFrom (s.heap.objs.size + 1) scope.names []).lookup y.1).isSome = true) := by
    rintro ⟨n, v⟩ hy
    exact (S.par n (List.of_mem_zip hy).1).imp id fun q => ⟨q, PySem.W.cellsFrom_some _ _ _ (.inl q)⟩
  refine codeAny_call_function hr.depth (KX _ _ lk) rfl S.co S.gen rfl (PySem.W.codeRec_of KX hcd) (hb _ _ _ _ (wpAny_newFunctionEnv_cells S.kind hkind fun env he s1 x => ?_))
  subst he
  refine ⟨lim.keeps x.toInCall.keep, codeAny_func ?_⟩
  obtain ⟨t, ht, hq⟩ := hbody A outer s H vs Q E hgd (hr.deeper _) hsp
  have I : Inv (cxOf CX P w K mg base N qual scope f cdv A outer s H E) [] (L2.start N vs) H s1 := inv_start S hr.hd e0 hl r x
  refine wpAny_mono (ht.run [] s1 (L2.start N vs) H _ I hq) (fun fl s' hs => ?_) fun e s' hs => hs
  cases fl with
  | ret u =>
    obtain ⟨v, σ', H', J, rv, q⟩ := hs
    exact ⟨v, H', J.os, J.bare, J.base, J.hok, rv, q⟩
  | next =>
    obtain ⟨σ', H', J, q⟩ := hs
    exact ⟨.non, H', J.os, J.bare, J.base, J.hok, rfl, q⟩
  | brk => obtain ⟨_, _, _, q⟩ := hs; exact q.elim
  | cont => obtain ⟨_, _, _, q⟩ := hs; exact q.elim
/-- a def that asks for it, no exception leaves -/
theorem Fun.okG {x qual : Str} {st : Stmt} {N : List Str} (F : L2.Fun K x qual st f fd) (S : FnScope N ps (defScope st)) (len : ∀ vs H Q E, sp vs H Q E → vs.length = ps.length)
    (hbody : ∀ (cdv : Value) (A : Around) (outer : List Env) (s : Shared) (H : Hp) (vs : List V) (Q : VK) (E : XK), A.guards = some [] →
      Room k (A.deeper (envOfC qual (defScope st) s.heap.objs.size f cdv)) → sp vs H Q E →
      ∃ t, PSs (cxOf CX P w K mg base N qual (defScope st) f cdv A outer s H E).nox (defBody st) t ∧ t { nx := fun _ H' => Q .non H', rt := Q } (L2.start N vs) H) :
    FnG P w K mg base CX (k + 1) f fd ps sp := by
  obtain ⟨oc, od, kV, doc, pm, an, cdv, ct, osl, rfl, lk, hcd⟩ := F.ex
  refine fnG_of lk hcd S len fun A outer s H vs Q E hg hr hsp => ?_
  obtain ⟨t, h, q⟩ := hbody cdv A outer s H vs Q E hg hr hsp
  exact ⟨t, h.nox, q⟩
end
/-! ### calls -/
section
variable {X : Cx} {CX : CXT} {k : Nat} {f : Addr} {fd : FuncData} {ps ks : List Str} {sp : Sp} {E : XK} {x : Str} {p pos : Pos} {e : Expr} {es : List Expr} {kws : List Keyword} {t tk : TA}
theorem run_fnG {pins : List (Addr × Obj)} {σ : L2.St} {H : Hp} {s : Shared} {Q : VK} {us : List Value} {vs : List V} {args : Args} (F : FnG X.prog X.w X.K X.mg X.base CX k f fd ps sp) (hgd : X.A.guards = some []) (hr : Room k X.A)
    (hb : BindsTo s fd args (ps.zip us)) (hx : Passes CX X E) (I : Inv X pins σ H s) (r : Vals vs us) (h : sp vs H Q E) : codeAny (model X.prog X.w) X.A (.call (.ref f) args) (fun r s' => match r with
      | .ok (.ret u) => EP X pins σ Q u s'
      | .ok _ => False
      | .error e => X.xe e s') s := by
  refine codeAny_mono (F.run X.A X.stack s H args us vs Q E hgd hr I.env0 hb r h) fun r s' hq => ?_
  cases r with
  | error e => exact hx pins σ H s e s' I hq
  | ok fl =>
    cases fl with
    | ret u => exact I.after hq
    | next => exact hq
    | brk => exact hq
    | cont => exact hq
end

/-! ### a def of the text with its promise -/
/-- G: it asks that no repr is under way -/
def Rn (G : Bool) (P : Program) (w : World) (K : PySem.W.Frag) (mg : Str → Option Value) (base : Heap) (CX : CXT) (k : Nat) (f : Addr) (fd : FuncData) (ps : List Str) (sp : Sp) : Prop :=
  match G with
  | true => FnG P w K mg base CX k f fd ps sp
  | false => FnOk P w K mg base CX k f fd ps sp
theorem Rn.toG {G : Bool} {P : Program} {w : World} {K : PySem.W.Frag} {mg : Str → Option Value} {base : Heap} {CX : CXT} {k : Nat} {f : Addr} {fd : FuncData} {ps : List Str} {sp : Sp} (h : Rn G P w K mg base CX k f fd ps sp) :
    FnG P w K mg base CX k f fd ps sp := by
  cases G with
  | true => exact h
  | false => exact FnG.of h
/-- the def stands, at its name -/
structure DefAt (K : PySem.W.Frag) (mg : Str → Option Value) (x : Str) (st : Stmt) : Prop where
  ex : ∃ f fd, L2.Fun K x x st f fd ∧ mg x = some (.ref f)
structure DefOk (P : Program) (w : World) (K : PySem.W.Frag) (mg : Str → Option Value) (base : Heap) (CX : CXT) (G : Bool) (k : Nat) (x : Str) (st : Stmt) (ps : List Str) (sp : Sp) : Prop where
  ex : ∃ f fd, L2.Fun K x x st f fd ∧ mg x = some (.ref f) ∧ Rn G P w K mg base CX k f fd ps sp
section
variable {P : Program} {w : World} {K : PySem.W.Frag} {mg : Str → Option Value} {base : Heap} {CX : CXT} {j k : Nat} {x : Str} {st : Stmt} {ps : List Str} {sp : Sp}
theorem DefAt.ok {N : List Str} (D : DefAt K mg x st) (S : FnScope N ps (defScope st)) (len : ∀ vs H Q E, sp vs H Q E → vs.length = ps.length)
    (hbody : ∀ (f : Addr) (cdv : Value) (A : Around) (outer : List Env) (s : Shared) (H : Hp) (vs : List V) (Q : VK) (E : XK), Room k (A.deeper (envOfC x (defScope st) s.heap.objs.size f cdv)) → sp vs H Q E →
      ∃ t, PSs (cxOf CX P w K mg base N x (defScope st) f cdv A outer s H E).nox (defBody st) t ∧ t { nx := fun _ H' => Q .non H', rt := Q } (L2.start N vs) H) :
    DefOk P w K mg base CX false (k + 1) x st ps sp := by
  obtain ⟨f, fd, F, hm⟩ := D.ex
  refine ⟨f, fd, F, hm, ?_⟩
  obtain ⟨oc, od, kV, doc, pm, an, cdv, ct, osl, rfl, lk, hcd⟩ := F.ex
  refine fn_of lk hcd S len fun A outer s H vs Q E hr hsp => ?_
  obtain ⟨t, h, q⟩ := hbody f cdv A outer s H vs Q E hr hsp
  exact ⟨t, h.nox, q⟩
theorem DefAt.okG {N : List Str} (D : DefAt K mg x st) (S : FnScope N ps (defScope st)) (len : ∀ vs H Q E, sp vs H Q E → vs.length = ps.length)
    (hbody : ∀ (f : Addr) (cdv : Value) (A : Around) (outer : List Env) (s : Shared) (H : Hp) (vs : List V) (Q : VK) (E : XK), A.guards = some [] → Room k (A.deeper (envOfC x (defScope st) s.heap.objs.size f cdv)) → sp vs H Q E →
      ∃ t, PSs (cxOf CX P w K mg base N x (defScope st) f cdv A outer s H E).nox (defBody st) t ∧ t { nx := fun _ H' => Q .non H', rt := Q } (L2.start N vs) H) :
    DefOk P w K mg base CX true (k + 1) x st ps sp := by
  obtain ⟨f, fd, F, hm⟩ := D.ex
  exact ⟨f, fd, F, hm, Fun.okG F S len fun cdv A outer s H vs Q E => hbody f cdv A outer s H vs Q E⟩
/-- a def that may raise -/
theorem DefAt.okX {N : List Str} (D : DefAt K mg x st) (S : FnScope N ps (defScope st)) (len : ∀ vs H Q E, sp vs H Q E → vs.length = ps.length)
    (hbody : ∀ (f : Addr) (cdv : Value) (A : Around) (outer : List Env) (s : Shared) (H : Hp) (vs : List V) (Q : VK) (E : XK), Room k (A.deeper (envOfC x (defScope st) s.heap.objs.size f cdv)) → sp vs H Q E →
      ∃ t, PSs (cxOf CX P w K mg base N x (defScope st) f cdv A outer s H E) (defBody st) t ∧ t { nx := fun _ H' => Q .non H', rt := Q } (L2.start N vs) H) :
    DefOk P w K mg base CX false (k + 1) x st ps sp := by
  obtain ⟨f, fd, F, hm⟩ := D.ex
  refine ⟨f, fd, F, hm, ?_⟩
  obtain ⟨oc, od, kV, doc, pm, an, cdv, ct, osl, rfl, lk, hcd⟩ := F.ex
  exact fn_of lk hcd S len fun A outer s H vs Q E hr hsp => hbody f cdv A outer s H vs Q E hr hsp
theorem DefOk.mono {G : Bool} (D : DefOk P w K mg base CX G j x st ps sp) (h : j ≤ k) : DefOk P w K mg base CX G k x st ps sp := by
  obtain ⟨f, fd, F, hm, R⟩ := D.ex
  refine ⟨f, fd, F, hm, ?_⟩
  cases G with
  | true => exact FnG.mono R h
  | false => exact FnOk.mono R h
theorem DefOk.imp {sp' : Sp} {G : Bool} (D : DefOk P w K mg base CX G k x st ps sp) (h : ∀ vs H Q E, sp' vs H Q E → sp vs H Q E) : DefOk P w K mg base CX G k x st ps sp' := by
  obtain ⟨f, fd, F, hm, R⟩ := D.ex
  refine ⟨f, fd, F, hm, ?_⟩
  cases G with
  | true => exact ⟨fun vs H Q E z => R.len vs H Q E (h vs H Q E z), fun A outer s H args us vs Q E hg hr e0 hb r z => R.run A outer s H args us vs Q E hg hr e0 hb r (h vs H Q E z)⟩
  | false => exact FnOk.imp R h
end
/-- how the parameters are bound by position -/
def BindP (x : Str) (st : Stmt) (ps : List Str) : Prop := ∀ (kV doc pm : Value) (an : Option Addr) (cdv ct : Value) (us : List Value), us.length = ps.length →
  bindArgs (PySem.W.fnOf x x (defArgs st) (defBody st) (defScope st) .none kV doc pm an cdv ct) ⟨us, []⟩ = pure (ps.zip us)
/-- .. by the keywords ks alone; g puts their values in the parameters' order -/
def BindK (x : Str) (st : Stmt) (ps ks : List Str) (g : {α : Type} → List α → List α) : Prop := ∀ (kV doc pm : Value) (an : Option Addr) (cdv ct : Value) (us : List Value), us.length = ks.length →
  bindArgs (PySem.W.fnOf x x (defArgs st) (defBody st) (defScope st) .none kV doc pm an cdv ct) ⟨[], ks.zip us⟩ = pure (ps.zip (g us))
section
variable {X : Cx} {CX : CXT} {G : Bool} {k : Nat} {st : Stmt} {ps ks : List Str} {sp : Sp} {E : XK} {x : Str} {p pos : Pos} {e : Expr} {es : List Expr} {kws : List Keyword} {t tk : TA}
theorem run_D {pins : List (Addr × Obj)} {σ : L2.St} {H : Hp} {s : Shared} {Q : VK} {us : List Value} {vs : List V} {args : Args} {f : Addr} {fd : FuncData} (R : Rn G X.prog X.w X.K X.mg X.base CX k f fd ps sp) (hgd : G = false ∨ X.A.guards = some []) (hr : Room k X.A)
    (hb : BindsTo s fd args (ps.zip us)) (hx : Passes CX X E) (I : Inv X pins σ H s) (r : Vals vs us) (h : sp vs H Q E) : codeAny (model X.prog X.w) X.A (.call (.ref f) args) (fun r s' => match r with
      | .ok (.ret u) => EP X pins σ Q u s'
      | .ok _ => False
      | .error e => X.xe e s') s := by
  have main : codeAny (model X.prog X.w) X.A (.call (.ref f) args) (CR CX X.stack X.prog X.w H s Q E) s := by
    cases G with
    | true => exact R.run X.A X.stack s H args us vs Q E (hgd.resolve_left (by decide)) hr I.env0 hb r h
    | false => exact R.run X.A X.stack s H args us vs Q E hr I.env0 hb r h
  refine codeAny_mono main fun r s' hq => ?_
  cases r with
  | error e => exact hx pins σ H s e s' I hq
  | ok fl =>
    cases fl with
    | ret u => exact I.after hq
    | next => exact hq
    | brk => exact hq
    | cont => exact hq
theorem Rn.len {f : Addr} {fd : FuncData} {P : Program} {w : World} {K : PySem.W.Frag} {mg : Str → Option Value} {base : Heap} (R : Rn G P w K mg base CX k f fd ps sp) {vs : List V} {H : Hp} {Q : VK} (h : sp vs H Q E) : vs.length = ps.length :=
  R.toG.len vs H Q E h
/-- f(e, ..) -/
theorem pe_callD (D : DefOk X.prog X.w X.K X.mg X.base CX G k x st ps sp) (hr : Room k X.A) (hgd : G = false ∨ X.A.guards = some []) (hb : BindP x st ps) (hx : Passes CX X E) (ha : PA X (e :: es) t) (hg : Gl X x := by rfl)
    (hdb : (x == ("__debug__" : Str)) = false := by decide) (he : starEach (e :: es) X.env = (false, eval e X.env) :: starEach es X.env := by rfl) (hpl : (backTo pos (starEach es X.env)).any (·.1) = false := by rfl) :
    PE X (.Call (.Name x p) (e :: es) [] pos) (tCall sp [] E t) := by
  obtain ⟨f, fd, F, hm, R⟩ := D.ex
  refine ⟨fun pins s σ H Q I h => wpAny_Call_Name_kw (ld_glob I hg hm ?_ hdb)⟩
  refine PySem.W.callWith_K (h₀ := X.base) I.ok.mod.kin F.kp (thn (ha.run pos pins s σ H _ I h) fun us s1 z => ?_) he hpl
  obtain ⟨vs, H1, I1, r, q⟩ := z
  refine ⟨I1.kIn, ?_⟩
  have q' : sp vs H1 Q E := by
    have q0 : sp (vs ++ []) H1 Q E := q
    rwa [List.append_nil] at q0
  have hl : us.length = ps.length := by rw [← r.length]; exact R.len q'
  obtain ⟨oc, od, kV, doc, pm, an, cdv, ct, osl, rfl, lk, hcd⟩ := F.ex
  have hbt : BindsTo s1 _ ⟨[] ++ us, []⟩ (ps.zip us) := .of_eq (hb kV doc pm an cdv ct us hl)
  refine wpAny_call (codeAny_mono (run_D R hgd hr hbt hx I1 r q') fun r s' hq => ?_)
  cases r with
  | error e => exact hq
  | ok fl => cases fl with
    | ret u => exact hq
    | next => exact hq
    | brk => exact hq
    | cont => exact hq
/-- f() -/
theorem pe_callD0 (D : DefOk X.prog X.w X.K X.mg X.base CX G k x st [] sp) (hr : Room k X.A) (hgd : G = false ∨ X.A.guards = some []) (hb : BindP x st []) (hx : Passes CX X E) (hg : Gl X x := by rfl)
    (hdb : (x == ("__debug__" : Str)) = false := by decide) : PE X (.Call (.Name x p) [] [] pos) (tCall sp [] E tNil) := by
  obtain ⟨f, fd, F, hm, R⟩ := D.ex
  refine ⟨fun pins s σ H Q I h => wpAny_Call_Name_kw (ld_glob I hg hm ?_ hdb)⟩
  refine PySem.W.callWith_K0 I.kIn F.kp ?_
  obtain ⟨oc, od, kV, doc, pm, an, cdv, ct, osl, rfl, lk, hcd⟩ := F.ex
  have hbt : BindsTo s _ ⟨[] ++ [], []⟩ (([] : List Str).zip []) := .of_eq (hb kV doc pm an cdv ct [] rfl)
  refine wpAny_call (codeAny_mono (run_D R hgd hr hbt hx I .nil h) fun r s' hq => ?_)
  cases r with
  | error e => exact hq
  | ok fl => cases fl with
    | ret u => exact hq
    | next => exact hq
    | brk => exact hq
    | cont => exact hq
/-- f(k = e, ..) -/
def tCallKO (n : Nat) (sp : Sp) (g : {α : Type} → List α → List α) (E : XK) (tk : TA) : TE := fun σ H Q => tk σ H fun zs H2 => zs.length = n ∧ sp (g zs) H2 Q E
theorem pe_callDK {g : {α : Type} → List α → List α} (D : DefOk X.prog X.w X.K X.mg X.base CX G k x st ps sp) (hr : Room k X.A) (hgd : G = false ∨ X.A.guards = some []) (hb : BindK x st ps ks g) (hrel : ∀ {vs : List V} {us : List Value}, Vals vs us → Vals (g vs) (g us)) (hx : Passes CX X E)
    (hkw : PK X kws tk) (hks : (backToKw pos (keywordEach kws X.env)).filterMap (·.1) = ks := by rfl) (hall : (backToKw pos (keywordEach kws X.env)).all (·.1.isSome) = true := by rfl) (hg : Gl X x := by rfl)
    (hdb : (x == ("__debug__" : Str)) = false := by decide)
    (hpl : ((backTo pos (starEach [] X.env)).any (·.1) || (backToKw pos (keywordEach kws X.env)).any (·.1.isNone)) = false := by rfl) :
    PE X (.Call (.Name x p) [] kws pos) (tCallKO ks.length sp g E tk) := by
  obtain ⟨f, fd, F, hm, R⟩ := D.ex
  refine ⟨fun pins s σ H Q I h => wpAny_Call_Name_kw (ld_glob I hg hm ?_ hdb)⟩
  refine PySem.W.callWith_KW0 (h₀ := X.base) I.ok.mod.kin F.kp hall ?_ hpl
  refine thn (hkw.run pos pins s σ H _ I h) fun ws s2 z => ?_
  obtain ⟨zs, H2, I2, rz, hl, q2⟩ := z
  refine ⟨I2.kIn, ?_⟩
  rw [hks]
  obtain ⟨oc, od, kV, doc, pm, an, cdv, ct, osl, rfl, lk, hcd⟩ := F.ex
  have hbt : BindsTo s2 _ ⟨[], ks.zip ws⟩ (ps.zip (g ws)) := .of_eq (hb kV doc pm an cdv ct ws (by rw [← rz.length]; exact hl))
  refine wpAny_call (codeAny_mono (run_D R hgd hr hbt hx I2 (hrel rz) q2) fun r s' hq => ?_)
  cases r with
  | error e => exact hq
  | ok fl => cases fl with
    | ret u => exact hq
    | next => exact hq
    | brk => exact hq
    | cont => exact hq
end
end DL

set_option maxHeartbeats 4000000
namespace DL
open PySem L2 Evl PySem.Spec PyProof.Rows
/-! ### data -/
section
variable {K : PySem.W.Frag} {H H' : Hp}
mutual
theorem dp_ex (e : Ex H H') : ∀ {v : V} {d : PyData}, Dp K H v d → Dp K H' v d
  | _, _, .non => .non
  | _, _, .bl b => .bl b
  | _, _, .int i => .int i
  | _, _, .str x => .str x
  | _, _, .lst h a => .lst (ex_l e h) (dpa_ex e a)
  | _, _, .tup h a => .tup (ex_t e h) (dpa_ex e a)
theorem dpa_ex (e : Ex H H') : ∀ {vs : List V} {ds : List PyData}, DpAll K H vs ds → DpAll K H' vs ds
  | _, _, .nil => .nil
  | _, _, .cons a r => .cons (dp_ex e a) (dpa_ex e r)
end
mutual
theorem dp_nodict : ∀ {v : V} {d : PyData}, Dp K H v d → d.hasDict = false
  | _, _, .non => rfl
  | _, _, .bl b => rfl
  | _, _, .int i => rfl
  | _, _, .str x => rfl
  | _, _, .lst h a => by show PyData.hasDictAll _ = false; exact dpa_nodict a
  | _, _, .tup h a => by show PyData.hasDictAll _ = false; exact dpa_nodict a
theorem dpa_nodict : ∀ {vs : List V} {ds : List PyData}, DpAll K H vs ds → PyData.hasDictAll ds = false
  | _, _, .nil => rfl
  | _, _, .cons a r => by
    show (PyData.hasDict _ || PyData.hasDictAll _) = false
    rw [dp_nodict a, dpa_nodict r]
    rfl
end
theorem dpa_len : ∀ {vs : List V} {ds : List PyData}, DpAll K H vs ds → vs.length = ds.length
  | _, _, .nil => rfl
  | _, _, .cons _ r => congrArg (· + 1) (dpa_len r)
theorem dpa_get : ∀ {vs : List V} {ds : List PyData} {i : Nat} {d : PyData}, DpAll K H vs ds → ds[i]? = some d → ∃ v, vs[i]? = some v ∧ Dp K H v d
  | _, _, 0, _, .cons a _, h => ⟨_, rfl, (Option.some.inj h) ▸ a⟩
  | _, _, i + 1, _, .cons _ r, h => dpa_get (i := i) r h
  | _, _, 0, _, .nil, h => nomatch h
  | _, _, i + 1, _, .nil, h => nomatch h
theorem dpa_getV : ∀ {vs : List V} {ds : List PyData} {i : Nat} {v : V}, DpAll K H vs ds → vs[i]? = some v → ∃ d, ds[i]? = some d ∧ Dp K H v d
  | _, _, 0, _, .cons a _, h => ⟨_, rfl, (Option.some.inj h) ▸ a⟩
  | _, _, i + 1, _, .cons _ r, h => dpa_getV (i := i) r h
  | _, _, 0, _, .nil, h => nomatch h
  | _, _, i + 1, _, .nil, h => nomatch h
theorem dpa_app : ∀ {vs us : List V} {ds es : List PyData}, DpAll K H vs ds → DpAll K H us es → DpAll K H (vs ++ us) (ds ++ es)
  | _, _, _, _, .nil, h => h
  | _, _, _, _, .cons a r, h => .cons a (dpa_app r h)
theorem dpa_one {v : V} {d : PyData} (h : Dp K H v d) : DpAll K H [v] [d] := .cons h .nil
theorem dpa_take : ∀ (n : Nat) {vs : List V} {ds : List PyData}, DpAll K H vs ds → DpAll K H (vs.take n) (ds.take n)
  | 0, _, _, _ => by simpa using DpAll.nil
  | n + 1, _, _, .nil => .nil
  | n + 1, _, _, .cons a r => .cons a (dpa_take n r)
theorem dpa_drop : ∀ (n : Nat) {vs : List V} {ds : List PyData}, DpAll K H vs ds → DpAll K H (vs.drop n) (ds.drop n)
  | 0, _, _, h => h
  | n + 1, _, _, .nil => .nil
  | n + 1, _, _, .cons a r => dpa_drop n r
theorem dpa_set : ∀ {vs : List V} {ds : List PyData} (n : Nat) {v : V} {d : PyData}, DpAll K H vs ds → Dp K H v d → DpAll K H (vs.set n v) (ds.set n d)
  | _, _, _, _, _, .nil, _ => .nil
  | _, _, 0, _, _, .cons _ r, h => .cons h r
  | _, _, n + 1, _, _, .cons a r, h => .cons a (dpa_set n r h)
theorem dpa_erase : ∀ {vs : List V} {ds : List PyData} (n : Nat), DpAll K H vs ds → DpAll K H (vs.eraseIdx n) (ds.eraseIdx n)
  | _, _, _, .nil => .nil
  | _, _, 0, .cons _ r => r
  | _, _, n + 1, .cons a r => .cons a (dpa_erase n r)
/-- scalars by their values -/
theorem dp_int {v : V} {i : Int} (h : Dp K H v (.int i)) : v = .int i := by cases h; rfl
theorem dp_str {v : V} {x : Str} (h : Dp K H v (.str x)) : v = .str x := by cases h; rfl
theorem dp_bl {v : V} {b : Bool} (h : Dp K H v (.bool b)) : v = .bl b := by cases h; rfl
theorem dp_non {v : V} (h : Dp K H v .none) : v = .non := by cases h; rfl
theorem dp_tup {v : V} {ds : List PyData} (h : Dp K H v (.tuple ds)) : ∃ a xs, v = .ref a ∧ SqT K H a xs ∧ DpAll K H xs ds := by cases h with | tup h a => exact ⟨_, _, rfl, h, a⟩
theorem dp_lst {v : V} {ds : List PyData} (h : Dp K H v (.list ds)) : ∃ a xs, v = .ref a ∧ SqL K H a xs ∧ DpAll K H xs ds := by cases h with | lst h a => exact ⟨_, _, rfl, h, a⟩
/-- lists of texts, of ints -/
theorem dpa_strs : ∀ xs : List Str, DpAll K H (xs.map V.str) (xs.map PyData.str)
  | [] => .nil
  | x :: r => .cons (.str x) (dpa_strs r)
theorem dpa_ints : ∀ xs : List Int, DpAll K H (xs.map V.int) (xs.map PyData.int)
  | [] => .nil
  | x :: r => .cons (.int x) (dpa_ints r)
theorem dpa_bls : ∀ xs : List Bool, DpAll K H (xs.map V.bl) (xs.map PyData.bool)
  | [] => .nil
  | x :: r => .cons (.bl x) (dpa_bls r)
theorem dpa_strs_eq : ∀ {xs : List Str} {vs : List V}, DpAll K H vs (xs.map PyData.str) → vs = xs.map V.str
  | [], _, .nil => rfl
  | x :: r, _, .cons a b => by rw [dp_str a, dpa_strs_eq b]; rfl
end
/-! ### repr -/
/-- data that repr tells whole -/
structure Shows (d : PyData) : Prop where
  ok : d.showable = true
  deep : d.depth ≤ 40
  fits : d.shown.length ≤ sizeLine
section
variable {X : Cx} {k : Nat}
theorem call_reprD (hgd : X.A.guards = some []) (hr : Room k X.A) : CallR X (.builtin "repr") (fun xs H Q => ∃ v d, xs = [v] ∧ Dp X.K H v d ∧ Shows d ∧ Q (.str d.shown) H) := by
  intro pins s σ H xs us Q I r h
  obtain ⟨v, d, rfl, hd, hs, q⟩ := h
  obtain ⟨u, rfl, rv⟩ := vals1 r
  have hun := hr.un
  cases hd with
  | non => obtain rfl : u = Value.none := rv; exact PySem.P.repr_of_none ⟨.str _, H, I.tok _, ⟨_, rfl⟩, q⟩
  | bl b =>
    obtain rfl : u = Value.bool b := rv
    refine PySem.P.repr_of_bool ⟨.str _, H, I.tok _, ⟨_, rfl⟩, ?_⟩
    cases b <;> exact q
  | int i =>
    obtain ⟨t, rfl⟩ : ∃ t, u = Value.int i t := rv
    exact PySem.P.repr_of_int (by simpa [PyData.showable] using hs.ok) ⟨.str _, H, I.tok _, ⟨_, rfl⟩, q⟩
  | str x =>
    obtain ⟨t, rfl⟩ : ∃ t, u = Value.str x t := rv
    exact PySem.P.repr_of_str ⟨.str _, H, I.tok _, ⟨_, rfl⟩, q⟩ (hsz := hs.fits)
  | @lst a ys ds hq ha =>
    obtain rfl : u = Value.ref a := rv
    have hd : Dp X.K H (.ref a) (.list ds) := .lst hq ha
    obtain ⟨as, rd⟩ := Dp.reads I _ _ _ hd rfl
    exact repr_of_reads' rd hs.ok (PyData.noDict_hsm (dp_nodict hd)) hgd (by have := hs.deep; omega) (fun _ _ z => z) (fun h' u' tk kp => ⟨.str _, H, I.kept kp, ⟨_, rfl⟩, q⟩) (hsz := hs.fits)
  | @tup a ys ds hq ha =>
    obtain rfl : u = Value.ref a := rv
    have hd : Dp X.K H (.ref a) (.tuple ds) := .tup hq ha
    obtain ⟨as, rd⟩ := Dp.reads I _ _ _ hd rfl
    exact repr_of_reads' rd hs.ok (PyData.noDict_hsm (dp_nodict hd)) hgd (by have := hs.deep; omega) (fun _ _ z => z) (fun h' u' tk kp => ⟨.str _, H, I.kept kp, ⟨_, rfl⟩, q⟩) (hsz := hs.fits)
end
/-! ### evaluating to data -/
def EvD (K : PySem.W.Frag) (te : TE) (σ : L2.St) (H : Hp) (d : PyData) : Prop := ∀ H1, Ex H H1 → ∀ Q : VK, (∀ v H2, Ex H1 H2 → Dp K H2 v d → Q v H2) → te σ H1 Q
section
variable {K : PySem.W.Frag} {σ : L2.St} {H H' : Hp} {ta tb te : TE} {d : PyData}
theorem EvD.mono (e : Ex H H') (h : EvD K te σ H d) : EvD K te σ H' d := fun H1 a Q q => h H1 (e.trans a) Q q
theorem evd_var {i : Nat} {v : V} (h : σ[i]? = some (some v)) (hd : Dp K H v d) : EvD K (tVar i) σ H d := fun H1 e Q q => ⟨v, h, q v H1 (Ex.refl H1) (dp_ex e hd)⟩
theorem evd_ev {v : V} (h : Ev te σ H v) (hd : Dp K H v d) : EvD K te σ H d := fun H1 e Q q => h H1 e Q fun H2 e2 => q v H2 e2 (dp_ex (e.trans e2) hd)
theorem ev_evd_int {i : Int} (h : EvD K te σ H (.int i)) : Ev te σ H (.int i) := fun H1 e Q q => h H1 e Q fun v H2 e2 hd => by cases hd; exact q H2 e2
theorem ev_evd_str {i : Str} (h : EvD K te σ H (.str i)) : Ev te σ H (.str i) := fun H1 e Q q => h H1 e Q fun v H2 e2 hd => by cases hd; exact q H2 e2
theorem ev_evd_bl {i : Bool} (h : EvD K te σ H (.bool i)) : Ev te σ H (.bl i) := fun H1 e Q q => h H1 e Q fun v H2 e2 hd => by cases hd; exact q H2 e2
/-- several -/
def EvDs (K : PySem.W.Frag) (ta : TA) (σ : L2.St) (H : Hp) (ds : List PyData) : Prop := ∀ H1, Ex H H1 → ∀ Q : List V → Hp → Prop, (∀ vs H2, Ex H1 H2 → DpAll K H2 vs ds → Q vs H2) → ta σ H1 Q
theorem evds_nil : EvDs K tNil σ H [] := fun H1 e Q q => q [] H1 (Ex.refl H1) .nil
theorem evds_cons {tr : TA} {ds : List PyData} (h : EvD K ta σ H d) (hr : EvDs K tr σ H ds) : EvDs K (tCons ta tr) σ H (d :: ds) := fun H1 e Q q =>
  h H1 e _ fun v H2 e2 hv => hr H2 (e.trans e2) _ fun vs H3 e3 hvs => q (v :: vs) H3 (e2.trans e3) (.cons (dp_ex e3 hv) hvs)
theorem evd_tup {ta : TA} {ds : List PyData} (h : EvDs K ta σ H ds) (hl : ds.length ≤ 100000) : EvD K (tTup ta) σ H (.tuple ds) := fun H1 e Q q =>
  h H1 e _ fun vs H2 e2 hvs => ⟨sz_of (by rw [dpa_len hvs]; exact hl), fun p hp => q _ _ (e2.trans (Ex.new hp)) (.tup (st_of upd_same) (dpa_ex (Ex.new hp) hvs))⟩
theorem evd_lst {ta : TA} {ds : List PyData} (h : EvDs K ta σ H ds) (hl : ds.length ≤ 100000) : EvD K (tLst ta) σ H (.list ds) := fun H1 e Q q =>
  h H1 e _ fun vs H2 e2 hvs => ⟨sz_of (by rw [dpa_len hvs]; exact hl), fun p hp => q _ _ (e2.trans (Ex.new hp)) (.lst (sq_of upd_same) (dpa_ex (Ex.new hp) hvs))⟩
theorem evd_if {t : TT} {b : Bool} (h : EvT t σ H b) (h1 : b = true → EvD K ta σ H d) (h2 : b = false → EvD K tb σ H d) : EvD K (tIf t ta tb) σ H d := fun H1 e Q q => h H1 e _ fun H2 e2 => by
  cases b with
  | true => exact h1 rfl H2 (e.trans e2) Q fun v H3 e3 => q v H3 (e2.trans e3)
  | false => exact h2 rfl H2 (e.trans e2) Q fun v H3 e3 => q v H3 (e2.trans e3)
end
end DL

set_option maxHeartbeats 4000000
namespace DL
open PySem L2 Evl PySem.Spec PyProof.Rows
/-! ### constants of the text -/
def ConstAt (mg : Str → Option Value) (x : Str) (v : V) : Prop := ∃ u, mg x = some u ∧ RelV v u
def TupAt (K : PySem.W.Frag) (mg : Str → Option Value) (x : Str) (vs : List V) : Prop := ∃ a, mg x = some (.ref a) ∧ ∀ H, SqT K H a vs
def tTupC (K : PySem.W.Frag) (vs : List V) : TE := fun _ H Q => ∀ a, (∀ H, SqT K H a vs) → Q (.ref a) H
section
variable {X : Cx} {x : Str} {v : V} {vs : List V} {pos : Pos}
theorem pe_const (c : ConstAt X.mg x v) (hg : Gl X x := by rfl) (hd : (x == ("__debug__" : Str)) = false := by decide) : PE X (.Name x pos) (tC v) := by
  obtain ⟨u, h, r⟩ := c
  exact pe_glob hg h r hd
theorem pe_tupc (c : TupAt X.K X.mg x vs) (hg : Gl X x := by rfl) (hd : (x == ("__debug__" : Str)) = false := by decide) : PE X (.Name x pos) (tTupC X.K vs) := by
  obtain ⟨a, h, r⟩ := c
  have b : PE X (.Name x pos) (tC (.ref a)) := pe_glob hg h rfl hd
  exact ⟨fun pins s σ H Q I z => b.run pins s σ H Q I (z a r)⟩
end
/-! ### the heap without some lists that change -/
def hid (ps : List Addr) (H : Hp) : Hp := fun a => if a ∈ ps then none else H a
theorem hid_ex {ps : List Addr} {H : Hp} : Ex (hid ps H) H := fun a o h => by
  unfold hid at h
  split at h
  · cases h
  · exact h
theorem hid_of {ps : List Addr} {H : Hp} {a : Addr} {o : HO} (h : H a = some o) (n : a ∉ ps) : hid ps H a = some o := by
  unfold hid
  rw [if_neg n]
  exact h
theorem hid_get {ps : List Addr} {H : Hp} {a : Addr} {o : HO} (h : hid ps H a = some o) : H a = some o ∧ a ∉ ps := by
  unfold hid at h
  split at h
  · cases h
  · rename_i z; exact ⟨h, z⟩
/-- what is kept but for some lists -/
def Kp (ps : List Addr) (H H' : Hp) : Prop := ∀ a o, a ∉ ps → H a = some o → H' a = some o
theorem Kp.refl {ps : List Addr} (H : Hp) : Kp ps H H := fun _ _ _ h => h
theorem Kp.trans {ps : List Addr} {H H1 H2 : Hp} (a : Kp ps H H1) (b : Kp ps H1 H2) : Kp ps H H2 := fun x o n h => b x o n (a x o n h)
theorem Kp.ex {ps : List Addr} {H H1 : Hp} (a : Kp ps H H1) : Ex (hid ps H) (hid ps H1) := fun x o h => by
  obtain ⟨h1, h2⟩ := hid_get h
  exact hid_of (a x o h2 h1) h2
theorem Kp.of {ps : List Addr} {H H1 : Hp} (a : Ex H H1) : Kp ps H H1 := fun x o _ h => a x o h
theorem Kp.mono {ps qs : List Addr} {H H1 : Hp} (a : Kp ps H H1) (h : ∀ x ∈ ps, x ∈ qs) : Kp qs H H1 := fun x o n z => a x o (fun m => n (h x m)) z
theorem Kp.new {ps : List Addr} {H : Hp} {p : Addr} {o : HO} (h : H p = none) : Kp ps H (upd H p o) := Kp.of (Ex.new h)
theorem Kp.upd {ps : List Addr} {H H1 : Hp} {p : Addr} {o : HO} (a : Kp ps H H1) (h : p ∈ ps) : Kp ps H (upd H1 p o) := fun x u n z => by
  have nx : x ≠ p := fun e => n (e ▸ h)
  rw [upd_ne nx]
  exact a x u n z
/-- an object that H does not know may change -/
theorem Kp.mut {ps : List Addr} {H H1 : Hp} {p : Addr} {o : HO} (a : Kp ps H H1) (h : H p = none) : Kp ps H (L2.upd H1 p o) := fun x u n z => by
  rw [upd_ne (ne_of_none z h)]
  exact a x u n z
/-- at an address kept -/
theorem Kp.at {ps : List Addr} {H H1 : Hp} {a : Addr} {o : HO} (k : Kp ps H H1) (h : H a = some o) (n : a ∉ ps) : H1 a = some o := k a o n h
theorem kp_l {ps : List Addr} {K : PySem.W.Frag} {H H' : Hp} {a : Addr} {xs : List V} (k : Kp ps H H') (n : a ∉ ps) (h : SqL K H a xs) : SqL K H' a xs := by
  rcases h with (h | ⟨o, h⟩) | h
  · exact .inl (.inl (k a _ n h))
  · exact .inl (.inr ⟨o, k a _ n h⟩)
  · exact .inr h
theorem kp_t {ps : List Addr} {K : PySem.W.Frag} {H H' : Hp} {a : Addr} {xs : List V} (k : Kp ps H H') (n : a ∉ ps) (h : SqT K H a xs) : SqT K H' a xs := by
  rcases h with (h | ⟨o, h⟩) | h
  · exact .inl (.inl (k a _ n h))
  · exact .inl (.inr ⟨o, k a _ n h⟩)
  · exact .inr h
/-! ### the tuples of a heap: they never change -/
def tp (H : Hp) : Hp := fun a => match H a with
  | some (.tup xs) => some (.tup xs)
  | _ => none
theorem tp_of {H : Hp} {a : Addr} {xs : List V} (h : H a = some (.tup xs)) : tp H a = some (.tup xs) := by
  unfold tp
  rw [h]
theorem tp_get {H : Hp} {a : Addr} {o : HO} (h : tp H a = some o) : ∃ xs, o = .tup xs ∧ H a = some (.tup xs) := by
  unfold tp at h
  split at h
  · rename_i xs e
    exact ⟨xs, (Option.some.inj h).symm, e⟩
  · cases h
theorem tp_sub {H : Hp} : Ex (tp H) H := fun a o h => by
  obtain ⟨xs, rfl, e⟩ := tp_get h
  exact e
/-- tuples are kept -/
def Tp (H H' : Hp) : Prop := ∀ a xs, H a = some (.tup xs) → H' a = some (.tup xs)
theorem Tp.refl (H : Hp) : Tp H H := fun _ _ h => h
theorem Tp.trans {H H1 H2 : Hp} (a : Tp H H1) (b : Tp H1 H2) : Tp H H2 := fun x xs h => b x xs (a x xs h)
theorem Tp.ex {H H' : Hp} (t : Tp H H') : Ex (tp H) (tp H') := fun a o h => by
  obtain ⟨xs, rfl, e⟩ := tp_get h
  exact tp_of (t a xs e)
theorem Tp.of {H H' : Hp} (e : Ex H H') : Tp H H' := fun a xs h => e a _ h
theorem Tp.new {H : Hp} {p : Addr} {o : HO} (h : H p = none) : Tp H (L2.upd H p o) := Tp.of (Ex.new h)
/-- a list changes -/
theorem Tp.lst {H : Hp} {p : Addr} {xs : List V} {o : HO} (h : H p = some (.lst xs)) : Tp H (L2.upd H p o) := fun a ys e => by
  have n : a ≠ p := fun z => by rw [z, h] at e; cases e
  rw [upd_ne n]
  exact e
theorem Kp.tp {ps : List Addr} {H H' : Hp} (k : Kp ps H H') (h : ∀ a ∈ ps, ∃ xs, H a = some (.lst xs)) : Tp H H' := fun a xs e => by
  refine k a _ (fun m => ?_) e
  obtain ⟨ys, z⟩ := h a m
  rw [e] at z
  cases z
theorem dp_tp {K : PySem.W.Frag} {H : Hp} {v : V} {d : PyData} (h : Dp K (DL.tp H) v d) : Dp K H v d := dp_ex tp_sub h
theorem dpa_tp {K : PySem.W.Frag} {H : Hp} {v : List V} {d : List PyData} (h : DpAll K (DL.tp H) v d) : DpAll K H v d := dpa_ex tp_sub h
/-! ### ints -/
theorem pylong_small {i j : Int} (h0 : 0 < j) (h1 : j < 1073741824) : Builtin.divisionGoesByPylong i j = false := by
  show (decide ((if j == 0 then 0 else j.natAbs.log2 / 30 + 1) > 300) && _) = false
  rw [if_neg (show ¬ (j == 0) = true by simpa using (show j ≠ 0 by omega))]
  have e : j.natAbs.log2 / 30 = 0 := by
    have h : j.natAbs < 2 ^ 30 := by
      have : (2 : Nat) ^ 30 = 1073741824 := by decide
      omega
    have : j.natAbs.log2 < 30 := (Nat.log2_lt (by omega)).mpr h
    omega
  rw [e]
  rfl
theorem itT {c : Bool} {A B : Prop} (h : c = true) (a : A) : if c = true then A else B := by rw [if_pos h]; exact a
theorem itF {c : Bool} {A B : Prop} (h : c = false) (b : B) : if c = true then A else B := by rw [h, if_neg Bool.false_ne_true]; exact b
theorem str_ne {x y : Str} (h : x ≠ y) : decide (V.str x = V.str y) = false := decide_eq_false fun e => h (V.str.inj e)
theorem str_eq {x y : Str} (h : x = y) : decide (V.str x = V.str y) = true := decide_eq_true (congrArg V.str h)
/-- a comprehension without tests -/
theorem lc_yes {A B : Hp → Prop} {σ : L2.St} {H : Hp} (h : A H) : tYes σ H (fun b H3 => if b = true then A H3 else B H3) := by
  show if true = true then A H else B H
  rw [if_pos rfl]
  exact h
end DL

set_option maxHeartbeats 4000000
namespace DL
open PySem L2 Evl PySem.Spec PyProof.Rows PySem.W PySem.Calls
/-! ### super().__init__(x) of an exception -/
section
variable {prog : Program} {w : World} {A : Around} {E : Value → Shared → Prop} {h : Heap} {g : Array GenState} {d : Drawn} {t : Nat} {os : OsState}
variable {nm q : Str} {C N : Addr} {bs bm bmB : List Value} {hdct : Bool} {sn : List Str} {sub : List Value} {ab : Bool} {col : Option Bool} {dd : Option Addr} {k0 k1 k2 k3 k5 : Option Value} {B newId initId : String}
theorem call_mw (hl : initId.startsWith "lifetime." = false) (FB : ExcBaseFacts B newId initId bmB) {u e t0 : Addr} {rest : List Value} {Q : Value → Shared → Prop}
    (hC : h.get? C = some (excClassObj nm q C N bs bm hdct sn sub ab col dd k0 k1 k2 k3 k5 newId)) (he : h.get? e = some (HandSPX.excO C t0)) (hu : h.get? u = some (kxs_mw initId e)) (hz : rest.length ≤ sizeLine)
    (hq : ∀ h2 t1, (∀ b o, b ≠ e → h.get? b = some o → h2.get? b = some o) → h2.get? e = some (HandSPX.excO C t1) → Q .none ⟨h2, g, d, t, os⟩) :
    wpAny (model prog w) A (call (.ref u) rest) Q E ⟨h, g, d, t, os⟩ := by
  refine wpAny_call (codeAny_of_tree ?_)
  show wpAny _ A.in1 (callAny (.ref u) ⟨rest, []⟩) _ _ _
  simp only [callAny]
  refine wpAny_bind (wpAny_load hu ?_)
  have isMw : (Value.type "method-wrapper" == Value.type "method" || Value.type "method-wrapper" == Value.type "builtin_function_or_method" || Value.type "method-wrapper" == Value.type "method-wrapper") = true := by decide
  simp only [kxs_mw, isMw, if_true]
  refine KFB.if_so (by decide) (wpAny_bind (check_bound_init FB.toExcCallFacts hC he rfl (wpAny_pure ?_)))
  refine ⟨Code.quiet_builtin _ hl, codeAny_builtin FB.initEntry ?_⟩
  rw [Around.under_plainId FB.init.plain _]
  wp_walk
  refine hq _ h.objs.size (fun b o hb ho => ?_) ?_
  · exact (Heap.get?_update_other _ _ (Ne.symm hb)).trans (Heap.get?_push_of_some _ ho)
  · exact Heap.get?_update_self _ (Heap.get?_push_of_some _ he) rfl
end
/-! ### the def __init__(self, x): super().__init__(x); self.f = x -/
section
variable {P : Program} {w : World} {K : Frag} {mg : Str → Option Value} {base : Heap} {A : Around} {outer : List Env} {s : Shared} {H : Hp}
/-- the context of its body -/
def cxS (P : Program) (w : World) (K : Frag) (mg : Str → Option Value) (base : Heap) (N : List Str) (qual : Str) (scope : Scope) (f : Addr) (cdv : Value) (cc : Addr) (A : Around) (outer : List Env) (s : Shared) (H : Hp) : Cx where
  prog := P
  w := w
  K := K
  mg := mg
  base := base
  A := A.deeper (ksEnv qual scope s.heap.objs.size f cdv cc)
  N := N
  s_0 := s
  H_0 := H
  env := ksEnv qual scope s.heap.objs.size f cdv cc
  outer := outer
  stack := ksEnv qual scope s.heap.objs.size f cdv cc :: outer
  ex := []
  fn := fun x => x != "__class__"
  calm := true
  pn := []
  xe := fun _ _ => False
/-- what the def's scope is -/
structure SupScope (a x : Str) (sc : Scope) : Prop where
  kind : sc.kind = .function
  co : sc.isCoroutine = false
  gen : sc.isGenerator = false
  ne : a ≠ x
  nc : a ≠ "__class__"
  nx : x ≠ "__class__"
  cell : ∀ y ∈ sc.names, y.2 ≠ .cell
  free : ∀ y ∈ sc.names, y.2 = .free → y.1 = "__class__"
  la : sc.names.lookup a = some .local
  lx : sc.names.lookup x = some .local
  lc : sc.names.lookup ("__class__" : Str) = some .free
  ls : sc.names.lookup ("super" : Str) = some .globalImplicit
theorem inv_super {a x qual : Str} {scope : Scope} {f cc : Addr} {cdv ua ux : Value} {va vx : V} {h0 : Heap} {tk : Nat} {oc : Obj} {vcell : Option Value} (S : SupScope a x scope) (hd : A.handled = none) (e0 : Env0 P w K mg base A outer s H) (ra : RelV va ua) (rx : RelV vx ux)
    (hcc : K.lookup cc = some oc) (hoc : oc.data = .cell vcell)
    (hns : h0.Ns s.heap.objs.size (fun y => ([(a, ua), (x, ux)] : List (Str × Value)).reverse.lookup y)) (hk : ∀ b o, s.heap.get? b = some o → h0.get? b = some o) :
    L2.Inv (cxS P w K mg base [a, x] qual scope f cdv cc A outer s H) [] [some va, some vx] H { s with heap := h0, toks := tk } := by
  have KB := e0.mod.kin _ _ hcc
  have hHcc := (e0.bs _ _ KB).2
  have lk1 : ∀ (y : Str) (c : Addr), ([("__class__", cc)] : List (Str × Addr)).lookup y = some c → y = "__class__" ∧ c = cc := by
    intro y c h
    by_cases e : y = "__class__"
    · subst e
      simp [List.lookup] at h
      exact ⟨rfl, h.symm⟩
    · have : (y == ("__class__" : Str)) = false := by simpa using e
      simp [List.lookup, this] at h
  have noA : ∀ b : Addr, b ∉ (cxS P w K mg base [a, x] qual scope f cdv cc A outer s H).ex := fun b z => absurd (show b ∈ ([] : List Addr) from z) (by simp)
  have cdf : h0.get? cc = some oc := hk _ _ (e0.bs _ _ KB).1
  refine ⟨⟨e0.mod, S.kind, rfl, rfl, Nat.le_refl _, fun y z c h1 h2 => ?_, fun y hy => ?_, fun y c hfn h => ?_, fun _ => hd, Around.frames_deeper e0.frames, .inr ⟨rfl, rfl⟩, fun b z => absurd z (noA b), e0.bs, e0.bsz, fun b _ _ => noA b, fun b z => absurd z (noA b), e0.funs, e0.frf⟩,
    rfl, e0.bare, Un.kept hk, ⟨_, hns, fun i y v h1 h2 h3 => ?_⟩, fun y c h => ⟨vcell, ?_⟩, e0.hok.fresh (Nat.le_refl _), fun y c h => ?_, fun p hp => absurd (show p ∈ ([] : List (Addr × Obj)) from hp) (by simp), e0.hok.kept hk, rfl⟩
  · rw [(lk1 _ _ h1).1, (lk1 _ _ h2).1]
  · have hy : scope.names.lookup y = some .cell ∨ scope.names.lookup y = some .free := hy
    rcases hy with hy | hy
    · exact absurd rfl (S.cell _ (PySem.mem_of_lookup hy))
    · have := S.free _ (PySem.mem_of_lookup hy) rfl
      exact ⟨cc, by rw [show y = "__class__" from this]; rfl⟩
  · have e := (lk1 _ _ h).1
    subst e
    exact absurd (show (("__class__" : Str) != "__class__") = true from hfn) (by decide +kernel)
  · have nxa : (x == a) = false := by simpa using fun e : x = a => S.ne e.symm
    have nax : (a == x) = false := by simpa using S.ne
    match i, h1, h2 with
    | 0, h1, h2 =>
      have e1 : y = a := (Option.some.inj h1).symm
      have e2 : v = va := by simpa using h2.symm
      subst e1; subst e2
      refine ⟨ua, ra, .inl ⟨S.la, ?_⟩⟩
      simp [List.lookup, nax]
    | 1, h1, h2 =>
      have e1 : y = x := (Option.some.inj h1).symm
      have e2 : v = vx := by simpa using h2.symm
      subst e1; subst e2
      refine ⟨ux, rx, .inl ⟨S.lx, ?_⟩⟩
      simp [List.lookup]
    | n + 2, h1, h2 => simp at h2
  · have e := (lk1 _ _ h).2
    subst e
    exact ⟨oc, cdf, hoc⟩
  · rw [(lk1 _ _ h).2]
    exact hHcc
/-- what __init__ wishes: the exception that is being made, the value -/
def spInit (K : Frag) (D : Addr) (fld : Str) : Sp := fun vs H Q _ => ∃ (e C : Addr) (y : V), vs = [.ref e, y] ∧ H e = some (exo e C none) ∧ OexC K C ∧ findIn K (.ref C) fld = some none ∧ mroIn K C (.ref D) = some true ∧
  ks_superIn K C D "__init__" = some (some (.builtin "ValueError.__init__")) ∧ subIn K (.ref C) (.type "ValueError") = some true ∧
  ∀ dx, H dx = none → dx ≠ e → Q .non (upd (upd H dx (exd dx [(fld, y)])) e (exo e C (some dx)))
variable {CX : CXT} {k : Nat} {f cc cda D : Addr} {name qual fld a x file : Str} {params : Arguments} {body : List Stmt} {scope : Scope} {dV kV doc pm ct oc ccl cl : Value} {an od cdd cld : Option Addr} {osl ccs csl : Array (Option Value)} {ar : Arg} {vs : Array Value} {tf : Tok} {cdD : ClassData}
  {p0 p1 p2 p3 p4 p5 p6 p7 p8 p9 : Pos}
theorem fn_super (lk : K.lookup f = some ⟨oc, od, .func (ksFn name qual params body scope dV kV doc pm an (.ref cda) ct cc), osl⟩)
    (hbd : body = [.Expr (.Call (.Attribute (.Call (.Name "super" p0) [] [] p1) "__init__" p2) [.Name x p3] [] p4) p5, .Assign [.Attribute (.Name a p6) fld p7] (.Name x p8) p9])
    (hcd : codeIn K (.ref cda) qual = true) (S : SupScope a x scope) (hp : (params.posonlyargs ++ params.args).head? = some ar) (har : ar.arg = a)
    (hcode : K.lookup cda = some ⟨ccl, cdd, .fields vs, ccs⟩) (hvs : vs[2]? = some (.str file tf)) (hfile : ((P.main.file : Str) == file) = true)
    (hcell : K.lookup cc = some ⟨cl, cld, .cell (some (.ref D)), csl⟩) (hD : clsIn K D = some cdD) (hsm : mg "super" = none) (htop : (P.main.scope.names.lookup ("super" : Str)).isSome = false) (hot : nsIn K cStatics "thirdparty.any" = some none)
    {pl : Addr → Sem Bool} (hc : ∀ L : Addr, eval (.Call (.Attribute (.Call (.Name "super" p0) [] [] p1) "__init__" p2) [.Name x p3] [] p4) (ksEnv qual scope L f (.ref cda) cc) = (do
      let ov ← attributeBase (.Call (.Name "super" p0) [] [] p1) "__init__" (ksEnv qual scope L f (.ref cda) cc) (eval (.Call (.Name "super" p0) [] [] p1) (ksEnv qual scope L f (.ref cda) cc))
      standAt p2.atName
      let (m, first) ← holding [ov] (getMethod ov "__init__" (pl L))
      callWith p4 m first (backTo p4 (starEach [.Name x p3] (ksEnv qual scope L f (.ref cda) cc))) []))
    (hda : (a == ("__debug__" : Str)) = false) (hca : (a == ("__classdict__" : Str)) = false) (hdx : (x == ("__debug__" : Str)) = false) (hcx : (x == ("__classdict__" : Str)) = false) :
    FnOk P w K mg base CX (k + 1) f (ksFn name qual params body scope dV kV doc pm an (.ref cda) ct cc) [a, x] (spInit K D fld) := by
  subst hbd
  refine ⟨fun vs H Q E h => ?_, fun A outer s H args us vals Q E hr e0 hb r hsp => ?_⟩
  · obtain ⟨e, C, y, rfl, _⟩ := h
    rfl
  obtain ⟨e, C, y, rfl, he, T, hno, hmro, hsup, hsub, kk⟩ := hsp
  obtain ⟨ue, uy, rfl, re, ry⟩ := vals2 r
  obtain rfl : ue = Value.ref e := re
  have KX : K.In s.heap := e0.mod.kin.keeps fun b o z => (e0.bs b o z).1
  have lim : s.heap.NoLimit := e0.mod.nolimit.keeps fun b o z => (e0.bs b o z).1
  refine ks_codeAny_call_defAt (fd := ksFn name qual params _ scope dV kV doc pm an (.ref cda) ct cc) (binds := [(a, .ref e), (x, uy)]) hr.depth (KX _ _ lk) rfl lim (codeRec_of KX hcd) rfl hb S.cell (fun z hz => ?_) (fun h0 hns hk => ?_) S.co S.gen S.kind
  · rcases List.mem_cons.mp hz with z1 | z1
    · rw [z1]; exact S.la
    · rw [List.mem_singleton.mp z1]; exact S.lx
  have I0 := inv_super (qual := qual) (f := f) (cdv := .ref cda) (tk := s.toks + 2) S hr.hd e0 (va := .ref e) (ua := .ref e) (ra := rfl) (rx := ry) hcell rfl hns hk
  have KI : K.In h0 := I0.kIn
  obtain ⟨nm, q, N, bs, bm, sn, sub, ab, col, dd, k0, k1, k2, k3, k5, hC, hbm⟩ := T.cls
  obtain ⟨t1, ho⟩ := exo_at I0.hok he
  obtain ⟨hp0, g0, d0, t0, os0⟩ := s
  have hEnv : callEnv (ksFn name qual params [.Expr (.Call (.Attribute (.Call (.Name "super" p0) [] [] p1) "__init__" p2) [.Name x p3] [] p4) p5, .Assign [.Attribute (.Name a p6) fld p7] (.Name x p8) p9] scope dV kV doc pm an (.ref cda) ct cc) hp0.objs.size f = ksEnv qual scope hp0.objs.size f (.ref cda) cc := rfl
  rw [hEnv]
  obtain ⟨mb, bl1, bl2⟩ := I0.mod.blt
  obtain ⟨oD, hD1, hD2⟩ : ∃ oD, h0.get? D = some oD ∧ oD.data = .cls cdD := by
    unfold clsIn at hD
    split at hD
    · rename_i c1 d1 cd1 sl1 hl1
      exact ⟨_, KI _ _ hl1, congrArg Data.cls (Option.some.inj hD)⟩
    · cases hD
  have hne : (x == a) = false := by simpa using fun z : x = a => S.ne z.symm
  have hna : (a == x) = false := by simpa using S.ne
  refine ks_wpAt_execs_cons (ks_wpAt_Expr_any (ks_wpAt_MethodCall (ks_wpAt_super_base (env := ksEnv qual scope hp0.objs.size f (.ref cda) cc) S.ls S.lc (by decide +kernel) rfl (KI _ _ lk) rfl hp rfl (KI _ _ hcode) rfl hvs hfile htop ?_) (hc _)) ?_ ?_)
  · refine ks_loadName_global S.kind S.ls (loadGlobal_builtin (I0.mod.glob.keeps I0.bk) hsm (bl1.keeps I0.bk) ((bl2 _ (by decide +kernel)).trans (by decide +kernel)) ⟨rfl, ?_⟩)
    refine wpAny_loadName_free S.kind S.lc rfl ⟨_, KI _ _ hcell, rfl⟩ ?_
    rw [har]
    refine wpAny_loadName_local S.kind S.la hns (v := .ref e) (by simp [List.lookup, hna]) ?_
    refine ks_wpAny_isType_cls hD1 hD2 ⟨rfl, ?_⟩
    refine ks_wpAny_call_super hD1 hD2 ho rfl (fun c z => nomatch z) (looks_mroIn KI hmro) (fun h1 hso k1 => ?_)
    have K1 : K.In h1 := KI.keeps k1
    have ho1 := k1 _ _ ho
    have hsz : h0.objs.size < h1.objs.size := Heap.lt_size hso
    cases hcl : clsIn K C with
    | none =>
      unfold ks_superIn at hsup
      rw [hcl] at hsup
      cases hsup
    | some cd =>
      unfold ks_superIn at hsup
      rw [hcl] at hsup
      have inst : InstAt h1 e { cls := .ref C, dict := none, data := .fields #[.ref t1, .none, .none, .none, .bool false, .none] } C none := ⟨ho1, rfl, rfl, trivial⟩
      refine kxs_getMethod kxs_ValueError hso (looks_opaque K1 hot) (l₀ := cd.mro) (fun A Q E s k q => wpAny_bind ((looks_clsIn K1 hcl) A _ E s k (wpAny_pure q))) rfl K1 hsup (inst.type.andThen (looks_subIn K1 hsub)) (ks_ne K1 inst hcl) (by decide +kernel) ?_
      have hee : starEach [.Name x p3] (ksEnv qual scope hp0.objs.size f (.ref cda) cc) = (false, eval (.Name x p3) (ksEnv qual scope hp0.objs.size f (.ref cda) cc)) :: starEach [] (ksEnv qual scope hp0.objs.size f (.ref cda) cc) := rfl
      have k2 : ∀ b o, h1.get? b = some o → (h1.push (kxs_mw "ValueError.__init__" e)).get? b = some o := fun b o z => Heap.get?_push_of_some _ z
      show wpAny _ _ (callWith p4 (.ref h1.objs.size) [] (backTo p4 (starEach [.Name x p3] (ksEnv qual scope hp0.objs.size f (.ref cda) cc))) []) _ _ _
      refine kxs_callWith (i := "ValueError.__init__") (x := e) rfl (evalArgs_plain (spliced_cons ?_))
      refine wpAny_Name (wpAny_loadName_local S.kind S.lx (hns.keeps fun b o z => k2 _ _ (k1 _ _ z)) (v := uy) (by simp [List.lookup]) (spliced_nil ?_)) hdx
      have hu : (h1.push (kxs_mw "ValueError.__init__" e)).get? h1.objs.size = some (kxs_mw "ValueError.__init__" e) := Heap.get?_push_at rfl rfl
      refine ⟨hu, ?_⟩
      show wpAny _ _ (call (.ref h1.objs.size) [uy]) _ _ _
      refine call_mw (by decide +kernel) F.excBase_ValueError (k2 _ _ (K1 _ _ hC)) (k2 _ _ ho1) hu (by show 1 ≤ sizeLine; decide) (fun h3 t3 k3 hx3 => ?_)
      have k4 : ∀ b o, b ≠ e → h0.get? b = some o → h3.get? b = some o := fun b o hb z => k3 b o hb (k2 _ _ (k1 _ _ z))
      have J := fun tk : Nat => I0.write (t' := tk) (x := e) (e := e) (o := exo e C none) (by rw [he]; exact True.intro) (.inl rfl) k4 ⟨_, hx3⟩ (exo_ok hx3)
      have eu : upd H e (exo e C none) = H := by
        funext b
        by_cases hb : b = e
        · rw [hb, upd_same, he]
        · rw [upd_ne hb]
      rw [eu] at J
      refine PySem.wpAt_of_wpAny ?_
      have st : PSs (cxS P w K mg base [a, x] qual scope f (.ref cda) cc A outer ⟨hp0, g0, d0, t0, os0⟩ H) [.Assign [.Attribute (.Name a p6) fld p7] (.Name x p8) p9] _ :=
        pss_one (ps_ost (pe_var (i := 0) rfl (.inl S.la) hda hca) (pe_var (i := 1) rfl (.inl S.lx) hdx hcx))
      refine wpAny_mono (st.run [] _ _ H { nx := fun _ H' => Q .non H', rt := Q } (J _) ?_) (fun fl s' hs => ?_) (fun _ _ z => z.elim)
      · exact ⟨_, rfl, _, rfl, e, C, rfl, T, hno, .inl ⟨he, fun dx n ne => kk dx n ne⟩⟩
      · cases fl with
        | ret u =>
          obtain ⟨v, σ', H', J, rv, z⟩ := hs
          exact ⟨v, H', J.os, J.bare, J.base, J.hok, rv, z⟩
        | next =>
          obtain ⟨σ', H', J, z⟩ := hs
          exact ⟨.non, H', J.os, J.bare, J.base, J.hok, rfl, z⟩
        | brk => obtain ⟨_, _, _, z⟩ := hs; exact z.elim
        | cont => obtain ⟨_, _, _, z⟩ := hs; exact z.elim
  · exact I0.quiet
  · rfl
end
end DL

set_option maxHeartbeats 4000000
namespace DL
open PySem L2 Evl PySem.Spec PyProof.Rows
/-- an error class that keeps what it was given, at its name -/
structure ErrAt (P : Program) (w : World) (K : PySem.W.Frag) (mg : Str → Option Value) (base : Heap) (x fld : Str) (C : Addr) : Prop where
  here : mg x = some (.ref C)
  cls : OexC K C
  init : ∃ fI fd, PySem.W.findIn K (.ref C) "__init__" = some (some (.ref fI)) ∧ PySem.W.typeIn K (.ref fI) = some (.type "function") ∧ Binds K fd ["self", fld] [] ∧ ∀ (CX : CXT) (k : Nat), FnOk P w K mg base CX (k + 1) fI fd ["self", fld] (spInit K C fld)
  bare : PySem.W.findIn K (.ref C) fld = some none
  mro : PySem.W.mroIn K C (.ref C) = some true
  sup : PySem.W.ks_superIn K C C "__init__" = some (some (.builtin "ValueError.__init__"))
  sub : PySem.W.subIn K (.ref C) (.type "ValueError") = some true
  xf : XfC K C
  hit : PySem.W.exmOne K (.ref C) (.ref C) = some true
section
variable {X : Cx} {x fld : Str} {C : Addr} {e : Expr} {te : TE} {p pos : Pos} {P : Program} {w : World} {K : PySem.W.Frag} {mg : Str → Option Value} {base : Heap}
theorem pmk_err (T : ErrAt X.prog X.w X.K X.mg X.base x fld C) (hr : Room 2 X.A) (ha : PE X e te) (hg : Gl X x := by rfl) (hdb : (x == ("__debug__" : Str)) = false := by decide)
    (he : starEach [e] X.env = (false, eval e X.env) :: starEach [] X.env := by rfl) : PMk X (.Call (.Name x p) [e] [] pos) (tMkO C (spInit X.K C fld) [] (tCons te tNil)) := by
  obtain ⟨fI, fd, h1, h2, h3, h4⟩ := T.init
  exact pmk_oex (CX := CX0) (k := 1) T.cls h1 h2 (h4 _ 0) hr h3 .nil pass0 hg T.here (pa_cons ha pa_nil he) hdb he rfl
theorem err_ev (T : ErrAt P w K mg base x fld C) {σ : L2.St} {H : Hp} {v : V} {Q : XK} (h : Ev te σ H v) (q : ∀ d H', Ex H H' → H' d = some (.xd [(fld, v)]) → Q (.ref C) (some d) H') :
    tMkO C (spInit K C fld) [] (tCons te tNil) σ H Q := by
  refine h H (Ex.refl H) _ fun H1 e1 => ⟨by show 1 ≤ 1000; decide, fun a ha => ⟨a, C, v, rfl, upd_same, T.cls, T.bare, T.mro, T.sup, T.sub, fun d hd nd => ⟨rfl, d, [(fld, v)], upd_same, by rw [upd_ne nd, upd_same], ?_, ?_⟩⟩⟩
  · rw [upd_ne nd] at hd
    exact hd
  · rw [upd_ne nd] at hd
    refine q d _ (fun b o hb => ?_) upd_same
    have nbd : b ≠ d := ne_of_none (e1 b o hb) hd
    have nba : b ≠ a := ne_of_none (e1 b o hb) ha
    rw [upd_ne nbd, del_ne nba, upd_ne nba, upd_ne nbd, upd_ne nba]
    exact e1 b o hb
end
end DL

set_option maxHeartbeats 4000000
namespace DL
open PySem Builtin Builtin.ObjectAttr PySem.HandSPX
/-! ### an error class is called: by keywords too, its __init__ a def or ValueError's -/
section
variable {M : Model} {A : Around} {E : Value → Shared → Prop} {h : Heap} {g : Array GenState} {d : Drawn} {t : Nat} {os : OsState}
variable {nm q : Str} {C N : Addr} {bs bm bmB : List Value} {hdct : Bool} {sn : List Str} {sub : List Value} {ab : Bool} {col : Option Bool} {dd : Option Addr} {k0 k1 k2 k3 k5 : Option Value} {B newId initId : String}
theorem check_new_kw (F : ExcBaseFacts B newId initId bmB) (hT : ∀ X : String, bm.contains (.type X) = bmB.contains (.type X)) {rest : List Value} {kw : List (Str × Value)} {Q : Unit → Shared → Prop}
    (hC : h.get? C = some (excClassObj nm q C N bs bm hdct sn sub ab col dd k0 k1 k2 k3 k5 newId)) (hq : Q () ⟨h, g, d, t, os⟩) : wpAny M A (checkBuiltinCall newId ⟨.ref C :: rest, kw⟩) Q E ⟨h, g, d, t, os⟩ := by
  have hcont : (Value.ref C :: bm).contains (.type B) = true := by rw [List.contains_cons, hT, F.hasB, Bool.or_true]
  have hstar := F.noStar
  simp only [checkBuiltinCall, F.newKind, F.newSplit, F.newRow]
  repeat (first | refine wpAny_loadPart_at hC ?_ | (refine wpAny_isSubtype_exc hC ?_; rw [hcont]) | refine wpAny_staticBase_exc hC ?_ | refine wpAny_madeBy_exc hC ?_ | simp only [bne_self_eq_false, Bool.false_eq_true, if_false] | wp_step)
  exact hq
end
section
variable {prog : Program} {w : World} {A : Around} {E : Value → Shared → Prop} {R : Result → Shared → Prop} {h : Heap} {g : Array GenState} {d : Drawn} {t : Nat} {os : OsState}
variable {nm q : Str} {C N : Addr} {bs bm bmB : List Value} {hdct : Bool} {sn : List Str} {sub : List Value} {ab : Bool} {col : Option Bool} {dd : Option Addr} {k0 k1 k2 k3 k5 : Option Value} {B newId initId : String}
theorem new_kw (F : ExcBaseFacts B newId initId bmB) (hT : ∀ X : String, bm.contains (.type X) = bmB.contains (.type X)) {rest : List Value} {kw : List (Str × Value)}
    (hC : h.get? C = some (excClassObj nm q C N bs bm hdct sn sub ab col dd k0 k1 k2 k3 k5 newId))
    (hq : R (.ok (.ret (.ref (h.objs.size + 1)))) ⟨(h.push { cls := .type "tuple", data := .seq rest.toArray }).push
      { cls := .ref C, data := .fields #[.ref h.objs.size, .none, .none, .none, .bool false, .none] }, g, d, t, os⟩) (hrest : rest.length ≤ sizeLine) :
    codeAny (model prog w) A (.builtin newId ⟨.ref C :: rest, kw⟩) R ⟨h, g, d, t, os⟩ := by
  have hends := F.ends
  have hcB : (Value.ref C :: bm).contains (.type B) = true := by rw [List.contains_cons, hT, F.hasB, Bool.or_true]
  have hcA : (Value.ref C :: bm).contains (.type "AttributeError") = false := by rw [List.contains_cons, hT, F.noAttr]; rfl
  have hcN : (Value.ref C :: bm).contains (.type "NameError") = false := by rw [List.contains_cons, hT, F.noName]; rfl
  refine codeAny_builtinAt F.entry ?_
  unfold Builtin.«BaseException.__new__»
  refine wpAt_bind ?_
  show wpAt _ _ _ (stack >>= _) _ _ _
  refine wpAt_bind (wpAt_stack fun p below => wpAt_of_wpAny ?_)
  wp_walk
  refine wpAt_of_wpAny ?_
  rw [F.owner]
  repeat (first | with_reducible refine wpAny_madeHere_exc F.canon hC ?_ | with_reducible refine wpAny_loadPart_at hC ?_ | (with_reducible refine wpAny_isSubtype_exc hC ?_; first | rw [hcB] | rw [hcA] | rw [hcN]) | wp_step)
  show R _ _
  rw [Heap.size_push]
  exact hq
theorem check_type_kw {M : Model} {rest : List Value} {kw : List (Str × Value)} {Q : Unit → Shared → Prop} (hC : h.get? C = some (excClassObj nm q C N bs bm hdct sn sub ab col dd k0 k1 k2 k3 k5 newId))
    (hq : Q () ⟨h, g, d, t, os⟩) : wpAny M A (checkBuiltinCall "type.__call__" ⟨.ref C :: rest, kw⟩) Q E ⟨h, g, d, t, os⟩ := by
  have f3 := tc_sub
  have hT : (⟨h, g, d, t, os⟩ : Shared).TypeIs (.ref C) "type" := ⟨_, hC, rfl⟩
  simp only [checkBuiltinCall, tc_kind, tc_split]
  repeat (any_goals (first | assumption | with_reducible refine wpAny_loadPart_at hC ?_ | with_reducible refine wpAny_onRaise ?_ | with_reducible refine wpAny_map ?_ | wp_step))
theorem type_call_kw (F : ExcBaseFacts B newId initId bmB) (hT : ∀ X : String, bm.contains (.type X) = bmB.contains (.type X)) {rest : List Value} {kw : List (Str × Value)} {fv : Value} {Q : Fin → Shared → Prop}
    (hC : h.get? C = some (excClassObj nm q C N bs bm hdct sn sub ab col dd k0 k1 k2 k3 k5 newId))
    (hi : W.Looks (model prog w) h (typeLookup (.ref C) "__init__") (some fv)) (hb : ∀ self, W.Looks (model prog w) h (bindSpecial fv self) (fv, [self])) (hrest : rest.length ≤ sizeLine)
    (hq : codeAny (model prog w) A (.call fv ⟨.ref (h.objs.size + 1) :: rest, kw⟩)
      (fun r s' => match r with | .ok (.ret v) => v = .none ∧ Q (.done (.ret (.ref (h.objs.size + 1)))) s' | .ok _ => False | .error e => E e s')
      ⟨(h.push (W.kdv_tup rest)).push (excO C h.objs.size), g, d, t, os⟩) :
    wpAny (model prog w) A (Builtin.«type.__call__» ⟨.ref C :: rest, kw⟩) Q E ⟨h, g, d, t, os⟩ := by
  repeat (first | with_reducible refine wpAny_loadPart_at hC ?_ | with_reducible refine wpAny_madeBy_exc hC ?_ | wp_step)
  refine codeAny_call_builtin_code (Code.quiet_builtin _ F.quiet) (check_new_kw F hT hC ?_)
  refine new_kw F hT hC ?_ hrest
  show wpAny _ _ _ _ _ _
  have k : ∀ b o, h.get? b = some o → ((h.push (W.kdv_tup rest)).push (excO C h.objs.size)).get? b = some o := fun b o e => Heap.get?_push_of_some _ (Heap.get?_push_of_some _ e)
  have hC₁ := k _ _ hC
  have hget : ((h.push (W.kdv_tup rest)).push (excO C h.objs.size)).get? (h.objs.size + 1) = some (excO C h.objs.size) := by heap_get
  have hcC : (Value.ref C :: bm).contains (.ref C) = true := by simp
  have i1 := hi.keeps k
  have b1 := (hb (.ref (h.objs.size + 1))).keeps k
  unfold isInstance
  repeat (first | with_reducible refine wpAny_loadPart_at hget ?_ | (with_reducible refine wpAny_isSubtype_exc hC₁ ?_; rw [hcC]) | wp_step)
  show wpAny _ _ (typeLookup (.ref C) _) _ _ _
  refine i1.at ?_
  refine wpAny_holding (wpAny_bind (b1.at ?_))
  refine wpAny_bind (wpAny_call (codeAny_mono hq fun r s' z => ?_))
  rcases r with e | (v | _ | _ | _) <;> first | exact z | exact z.elim | skip
  obtain ⟨rfl, z⟩ := z
  first
    | exact wpAny_pure (wpAny_pure z)
    | (wp_walk; exact z)
theorem call_kw (F : ExcBaseFacts B newId initId bmB) (hT : ∀ X : String, bm.contains (.type X) = bmB.contains (.type X)) {rest : List Value} {kw : List (Str × Value)} {fv : Value}
    (hC : h.get? C = some (excClassObj nm q C N bs bm hdct sn sub ab col dd k0 k1 k2 k3 k5 newId))
    (hi : W.Looks (model prog w) h (typeLookup (.ref C) "__init__") (some fv)) (hb : ∀ self, W.Looks (model prog w) h (bindSpecial fv self) (fv, [self])) (hrest : rest.length ≤ sizeLine)
    (hq : codeAny (model prog w) (A.under (.builtin "type.__call__" ⟨.ref C :: rest, kw⟩)) (.call fv ⟨.ref (h.objs.size + 1) :: rest, kw⟩) (W.InitBack (h.objs.size + 1) R)
      ⟨(h.push (W.kdv_tup rest)).push (excO C h.objs.size), g, d, t, os⟩) :
    codeAny (model prog w) A (.call (.ref C) ⟨rest, kw⟩) R ⟨h, g, d, t, os⟩ := by
  have f1 := tc_lookup
  have f2 := tc_bind (.ref C)
  have hTy : (⟨h, g, d, t, os⟩ : Shared).TypeIs (.ref C) "type" := ⟨_, hC, rfl⟩
  refine codeAny_of_tree ?_
  show wpAny _ _ (callAny (.ref C) _) _ _ _
  repeat (any_goals (first | assumption | with_reducible refine wpAny_loadPart_at hC ?_ | wp_step))
  refine ⟨rfl, ?_⟩
  refine codeAny_call_builtin_at (Code.quiet_builtin _ (by decide +kernel)) entry_typeCall (check_type_kw hC (type_call_kw F hT hC hi hb hrest ?_))
  refine codeAny_mono hq fun r s' z => ?_
  rcases r with e | (v | _ | _ | _) <;> exact z
end
end DL
namespace DL
open PySem L2 Evl PySem.Spec PyProof.Rows PySem.W PySem.Calls
/-! ### isinstance of an error, whether it has its dict or not -/
section
variable {prog : Program} {w : World} {A : Around} {E : Value → Shared → Prop} {s : Shared} {K : Frag} {x D : Addr} {ox : Obj} {od : Option Obj}
theorem findObj_data {C : Addr} {name : Str} {a g : Value} (hc : (clsIn K C).isSome = true) (ha : findIn K (.ref C) name = some (some a)) (hg : specialIn K a "__get__" = some (some g)) (ht : takesIn K a = some true) : findObj K C od name = some (.bind g a) := by
  obtain ⟨cd, hc⟩ := Option.isSome_iff_exists.mp hc
  unfold findObj
  rw [hc, Option.bind_some, ha, Option.bind_some]
  simp [hg, ht]
theorem kin_classV {Q : Option Value → Shared → Prop} (hga : findIn K (.ref D) "__getattribute__" = some (some (.builtin "BaseException.__getattribute__"))) (hgt : findIn K (.ref D) "__getattr__" = some none) (hsub : subIn K (.ref D) (.type "BaseException") = some true)
    (hdct : hasDictIn K D = true) (ha : findIn K (.ref D) "__class__" = some (some (.builtin "object.__class__")))
    (hn : specialIn K (.builtin "object.__class__") "__get__" = some (some (.builtin "getset_descriptor.__get__"))) (htk : takesIn K (.builtin "object.__class__") = some true) (hm : mroIn K D (.type "object") = some true)
    (X : K.In s.heap) (I : InstAt s.heap x ox D od) (h : Q (some (.ref D)) { s with toks := s.toks + 1 }) : wpAny (model prog w) A (getAttr? (.ref x) "__class__") Q E s := by
  have hf : findObj K D od "__class__" = some (.bind (.builtin "getset_descriptor.__get__") (.builtin "object.__class__")) := findObj_data (by obtain ⟨cd, hc, _⟩ := any_some hdct; rw [hc]; rfl) ha hn htk
  obtain ⟨hp, g, d, t, os⟩ := s
  have L0 := I.type (M := model prog w)
  have L1 := looks_findIn (M := model prog w) X hga
  have L2 := looks_findIn (M := model prog w) X hgt
  have L3 := looks_find (M := model prog w) X I hf
  have sub : Looks (model prog w) hp (isInstance (.ref x) (.type "BaseException")) true := L0.andThen (looks_subIn X hsub)
  have hx0 : (false && onTheHeap (Value.builtin "BaseException.__getattribute__")) = false := rfl
  have hx2 : (Value.builtin "BaseException.__getattribute__" == Value.builtin "object.__getattribute__") = false := by decide +kernel
  have hx1 : (onTheHeap (Value.ref D) && Value.builtin "BaseException.__getattribute__" == Value.builtin "object.__getattribute__") = false := by rw [hx2]; rfl
  unfold getAttr? getAttrBy? getAttrBy
  refine wpAny_bind (wpAny_mkText (wpAny_bind (wpAny_attempt (wpAny_holding (wpAny_bind (L0.at (wpAny_bind (L1.at ?_))))))))
  show wpAny _ _ (if (onTheHeap (Value.ref D) && Value.builtin "BaseException.__getattribute__" == Value.builtin "object.__getattribute__") = true then _ else _) _ _ _
  rw [hx1, if_neg Bool.false_ne_true]
  unfold getAttrByItsOwn hookBefore
  refine wpAny_bind ?_
  rw [if_pos (show onTheHeap (Value.ref D) = true from rfl)]
  refine L2.at ?_
  refine wpAny_bind (wpAny_attempt (wpAny_holding ?_))
  unfold callGetattribute
  rw [hx0, if_neg Bool.false_ne_true]
  unfold boundAndCalled
  rw [PySem.F.excAttr_ValueError.ga.bind (.ref x)]
  refine wpAny_bind (wpAny_pure ?_)
  show wpAny _ _ (call (.builtin "BaseException.__getattribute__") [.ref x, .str "__class__" t]) _ _ _
  refine wpAny_call (codeAny_call_builtin PySem.F.excAttr_ValueError.ga.plain PySem.F.entry_bexc_ga ?_)
  refine @check_slot (model prog w) _ _ ⟨hp, g, d, t + 1, os⟩ "BaseException.__getattribute__" "BaseException" "__getattribute__" (.ref x) [.str "__class__" t] [] _ (by decide +kernel) (by decide +kernel) sub (PySem.F.args_bexc_ga (.ref x) (.str "__class__" t)) ?_
  unfold Builtin.«object.__getattribute__»
  refine wpAny_bind (wpAny_of_eq (a := ((Value.ref x : Value), [Value.str "__class__" t])) (by first | rfl | (simp only [slotArgs]; rfl)) ?_)
  refine wpAny_bind (wpAny_pure (wpAny_bind (L0.at (wpAny_bind (L3.at ?_)))))
  show wpAny _ _ (holding [Value.builtin "object.__class__"] (call (.builtin "getset_descriptor.__get__") [.builtin "object.__class__", .ref x, .ref D]) >>= ret) _ _ _
  refine wpAny_bind (wpAny_holding (wpAny_call (class_get (s := ⟨hp, g, d, t + 1, os⟩) (ox := ox) (od := od) X I hm ?_)))
  refine wpAny_pure ?_
  show wpAny _ _ (handedOut (.ref D)) _ _ _
  rw [handedOut_of (v := .ref D) rfl]
  first
    | exact wpAny_pure (wpAny_pure h)
    | exact wpAny_pure h
    | exact wpAny_pure (wpAny_bind (wpAny_pure (wpAny_pure h)))
theorem kitx_excV (C : ExcC K D) : KitX K (.ref x) (.ref D) (fun h => InstAt h x ox D od) where
  ty := fun _ _ _ I => I.type
  it := fun _ _ X _ => by
    obtain ⟨cdD, hcD, _⟩ := any_some C.hd
    unfold clsIn at hcD
    split at hcD
    · rename_i c' d' cd' sl' ho
      intro A' Q' E' s' k q
      unfold isType loadHead
      exact wpAny_bind (wpAny_loadPart (k _ _ (X _ _ ho)) (wpAny_pure q))
    · cases hcD
  ne := fun h tp dd its n sl X htp => by
    obtain ⟨cdD, hcD, _⟩ := any_some C.hd
    refine Bool.eq_false_iff.mpr fun q => ?_
    have e : D = tp := Value.ref.inj (beq_iff_eq.mp q)
    subst e
    unfold clsIn at hcD
    split at hcD
    · rename_i c' d' cd' sl' ho
      have z := (X _ _ ho).symm.trans htp
      cases z
    · cases hcD
  ca := fun X I k => kin_classV C.hg C.hk C.hs C.hd C.ha C.hn C.ht C.hm X I k
end
/-- an error of the class at C, as a value -/
def XV (H : Hp) (e C : Addr) : Prop := (∃ (dx : Addr) (fs : List (Str × V)), H e = some (exo e C (some dx)) ∧ H dx = some (exd dx fs)) ∨ H e = some (exo e C none)
section
variable {X : Cx} {pins : List (Addr × Obj)} {σ : L2.St} {H : Hp} {s : Shared}
theorem XV.ex {H H' : Hp} {e C : Addr} (x : Ex H H') (h : XV H e C) : XV H' e C := by
  rcases h with ⟨dx, fs, h1, h2⟩ | h
  · exact .inl ⟨dx, fs, x _ _ h1, x _ _ h2⟩
  · exact .inr (x _ _ h)
theorem XV.inst {e C : Addr} (I : Inv X pins σ H s) (h : XV H e C) : ∃ ox od, InstAt s.heap e ox C od := by
  rcases h with ⟨dx, fs, h1, h2⟩ | h
  · obtain ⟨t1, ho⟩ := exo_at I.hok h1
    obtain ⟨mA, hns, _⟩ := exd_at I.hok h2
    obtain ⟨od, hd, hl⟩ := lookIn_ns hns
    exact ⟨_, some od, ho, rfl, rfl, hd⟩
  · obtain ⟨t1, ho⟩ := exo_at I.hok h
    exact ⟨_, none, ho, rfl, rfl, trivial⟩
def rIsV (K : Frag) : List V → Hp → VK → Prop := fun xs H Q => ∃ (e C : Addr) (c : V) (u : Value) (b : Bool), xs = [.ref e, c] ∧ XV H e C ∧ ExcC K C ∧ ClsV c u ∧ kitOne K (.ref C) u = some b ∧ Q (.bl b) H
def rIsVT (K : Frag) : List V → Hp → VK → Prop := fun xs H Q => ∃ (e C tp : Addr) (cs : List V) (us : List Value) (b : Bool), xs = [.ref e, .ref tp] ∧ XV H e C ∧ ExcC K C ∧ H tp = some (.tup cs) ∧ Paired ClsV cs us ∧ kitAny K (.ref C) us = some b ∧ Q (.bl b) H
theorem call_isV : CallR X (.builtin "isinstance") (rIsV X.K) := by
  intro pins s σ H xs us Q I r h
  obtain ⟨e, C, c, u, b, rfl, hx, hc, k, ek, q⟩ := h
  obtain ⟨u1, u2, rfl, r1, r2⟩ := vals2 r
  obtain rfl : u1 = Value.ref e := r1
  have e2 := k.eq r2
  subst e2
  obtain ⟨ox, od, J⟩ := hx.inst I
  exact kia_one (kitx_excV hc) I.kIn J ek (fun z => nomatch z) fun tk => ⟨.bl b, H, I.tok tk, rfl, q⟩
theorem call_isVT : CallR X (.builtin "isinstance") (rIsVT X.K) := by
  intro pins s σ H xs us Q I r h
  obtain ⟨e, C, tp, cs, ws, b, rfl, hx, hc, hT, k, ek, q⟩ := h
  obtain ⟨u1, u2, rfl, r1, r2⟩ := vals2 r
  obtain rfl : u1 = Value.ref e := r1
  cases (show u2 = Value.ref tp from r2)
  obtain ⟨ox, od, J⟩ := hx.inst I
  obtain ⟨_, its, rv, o, h1, h2, n, h3⟩ := (show ObjOk X.prog X.w H s.heap tp (.tup cs) from I.hok tp _ hT)
  have e3 := ClsV.all k rv
  subst e3
  obtain ⟨oc, od', dt, sl⟩ := o
  simp only at h2 h3
  subst h2 h3
  exact kia_tup (kitx_excV hc) I.kIn J h1 ek (fun z => nomatch z) fun tk => ⟨.bl b, H, I.tok tk, rfl, q⟩
/-- e.f -/
def tXfV (K : Frag) (f : Str) (te : TE) : TE := fun σ H Q => te σ H fun x H1 => ∃ (a C dx : Addr) (fs : List (Str × V)) (v : V), x = .ref a ∧ XfC K C ∧ findIn K (.ref C) f = some none ∧ H1 a = some (exo a C (some dx)) ∧ H1 dx = some (exd dx fs) ∧ fs.lookup f = some v ∧ Q v H1
theorem pe_xfV {e : Expr} {te : TE} {pos : Pos} {n : Str} (he : PE X e te) (hb : attributeBase e n X.env (eval e X.env) = eval e X.env := by rfl) : PE X (.Attribute e n pos) (tXfV X.K n te) := by
  refine ⟨fun pins s σ H Q I h => ?_⟩
  refine attr_of hb (thn (he.run pins s σ H _ I h) fun u s1 hh => ?_)
  obtain ⟨x, H1, I1, rx, a, C, dx, fs, v, ex, T, hno, ea, ed, l, q⟩ := hh
  subst ex
  obtain rfl : u = Value.ref a := rx
  obtain ⟨t1, ho⟩ := exo_at I1.hok ea
  obtain ⟨mA, hns, hr⟩ := exd_at I1.hok ed
  obtain ⟨od, hd, hl⟩ := lookIn_ns hns
  obtain ⟨u, hu, ru⟩ := RelO.some_of (v := v) (o := mA n) (by rw [← l]; exact hr n)
  have J : InstAt s1.heap a _ C (some od) := ⟨ho, rfl, rfl, hd⟩
  exact HandSPX.exc_get I1.kIn J T.ga T.gg T.exC (findObj_own T.hdC hno rfl (by rw [hl, hu])) (handed_of ru) ⟨v, H1, I1.tok _, ru, q⟩
end
/-! ### an error is made, as a value -/
section
variable {X : Cx} {CX : CXT} {x fld : Str} {C fI : Addr} {k : Nat} {fd : FuncData} {ps : List Str} {sp : Sp} {pins : List (Addr × Obj)} {σ : L2.St} {H1 : Hp} {s1 : Shared} {Q : VK} {us ws : List Value} {vs : List V} {kw : List (Str × Value)} {e : Expr} {p pos : Pos} {ta : TA} {te : TE}
theorem run_mkV (T : OexC X.K C) (iC : findIn X.K (.ref C) "__init__" = some (some (.ref fI))) (tI : typeIn X.K (.ref fI) = some (.type "function")) (F1 : FnOk X.prog X.w X.K X.mg X.base CX k fI fd ps sp) (hr : Room (k + 1) X.A)
    (hbt : ∀ (s : Shared) (self : Value), BindsTo s fd ⟨self :: us, kw⟩ (ps.zip (self :: ws))) (hx : Passes CX X (fun _ _ _ => False)) (I1 : Inv X pins σ H1 s1) (r1 : Vals vs ws) (hus : us.length ≤ sizeLine)
    (q1 : ∀ a, H1 a = none → sp (.ref a :: vs) (upd H1 a (exo a C none)) (fun v H2 => v = .non ∧ Q (.ref a) H2) (fun _ _ _ => False)) : wpAny (model X.prog X.w) X.A (PySem.call (.ref C) us kw) (EP X pins σ Q) X.xe s1 := by
  obtain ⟨nm, q, N, bs, bm, sn, sub, ab, col, dd, k0, k1, k2, k3, k5, hC, hbm⟩ := T.cls
  obtain ⟨hp, g, dr, tk, os⟩ := s1
  have hsz : hp.objs.size ≤ hp.objs.size + 1 := Nat.le_succ _
  have hn : H1 (hp.objs.size + 1) = none := I1.hok.fresh hsz
  have hq := q1 (hp.objs.size + 1) hn
  have kk : ∀ b o, hp.get? b = some o → ((hp.push (PySem.W.kdv_tup us)).push (PySem.HandSPX.excO C hp.objs.size)).get? b = some o := fun b o e => Heap.get?_push_of_some _ (Heap.get?_push_of_some _ e)
  have hget : ((hp.push (PySem.W.kdv_tup us)).push (PySem.HandSPX.excO C hp.objs.size)).get? (hp.objs.size + 1) = some (PySem.HandSPX.excO C hp.objs.size) := by heap_get
  have I2 : Inv X pins σ (upd H1 (hp.objs.size + 1) (exo (hp.objs.size + 1) C none)) ⟨(hp.push (PySem.W.kdv_tup us)).push (PySem.HandSPX.excO C hp.objs.size), g, dr, tk, os⟩ :=
    I1.laid (t' := tk) (a := hp.objs.size + 1) (o := exo (hp.objs.size + 1) C none) (h' := (hp.push (PySem.W.kdv_tup us)).push (PySem.HandSPX.excO C hp.objs.size)) kk hsz (exo_ok hget)
  have r2 : Vals (V.ref (hp.objs.size + 1) :: vs) (Value.ref (hp.objs.size + 1) :: ws) := .cons rfl r1
  refine wpAny_call (call_kw F.excBase_ValueError (fun Y => PySem.HandSPX.refsVE_contains Y bm hbm) (I1.kIn _ _ hC) (PySem.W.looks_findIn I1.kIn iC) (fun self => PySem.W.bind_fn I1.kIn self tI) hus
    (codeAny_mono (F1.run _ X.stack _ _ ⟨Value.ref (hp.objs.size + 1) :: us, kw⟩ (Value.ref (hp.objs.size + 1) :: ws) _ _ (fun _ _ _ => False) (hr.make C us kw) (I2.env0.make C us kw) (hbt _ _) r2 hq) fun r s' hq' => ?_))
  cases r with
  | error er => exact hx pins σ _ _ er s' I2 hq'
  | ok fl =>
    cases fl with
    | ret u =>
      obtain ⟨v, H', I3, rv, ev, q3⟩ := I2.after hq'
      subst ev
      exact ⟨rv, ⟨V.ref (hp.objs.size + 1), H', I3, rfl, q3⟩⟩
    | next => exact False.elim hq'
    | brk => exact False.elim hq'
    | cont => exact False.elim hq'
/-- X(), X an own error class without an __init__ -/
def tMk0 (C : Addr) : TE := fun _ H Q => ∀ a, H a = none → Q (.ref a) (upd H a (exo a C none))
theorem pe_mk0 (T : OexC X.K C) (iC : findIn X.K (.ref C) "__init__" = some (some (.builtin "ValueError.__init__"))) (hg : Gl X x) (hm : X.mg x = some (.ref C)) (hdb : (x == ("__debug__" : Str)) = false := by decide) : PE X (.Call (.Name x p) [] [] pos) (tMk0 C) := by
  refine ⟨fun pins s σ H Q I h => ?_⟩
  refine wpAny_Call_Name_kw (ld_glob I hg hm ?_ hdb)
  refine PySem.W.callWith_K0 I.kIn T.kC ?_
  obtain ⟨nm, q, N, bs, bm, sn, sub, ab, col, dd, k0, k1, k2, k3, k5, hC, hbm⟩ := T.cls
  obtain ⟨hp, g, dr, tk, os⟩ := s
  have hsz : hp.objs.size ≤ hp.objs.size + 1 := Nat.le_succ _
  have hn : H (hp.objs.size + 1) = none := I.hok.fresh hsz
  have kk : ∀ b o, hp.get? b = some o → ((hp.push (PySem.W.kdv_tup [])).push (PySem.HandSPX.excO C hp.objs.size)).get? b = some o := fun b o e => Heap.get?_push_of_some _ (Heap.get?_push_of_some _ e)
  have hget : ((hp.push (PySem.W.kdv_tup [])).push (PySem.HandSPX.excO C hp.objs.size)).get? (hp.objs.size + 1) = some (PySem.HandSPX.excO C hp.objs.size) := by heap_get
  refine wpAny_call (call_kw (rest := []) (kw := []) F.excBase_ValueError (fun Y => PySem.HandSPX.refsVE_contains Y bm hbm) (I.kIn _ _ hC) (PySem.W.looks_findIn I.kIn iC) (fun self => ?_) (by decide)
    (PySem.HandSPX.init_base F.excBase_ValueError (fun Y => PySem.HandSPX.refsVE_contains Y bm hbm) (kk _ _ (I.kIn _ _ hC)) hget (by decide) fun h' t1 hk he => ?_))
  · rw [F.excBase_ValueError.init.bind self]
    exact .now
  · refine ⟨rfl, V.ref (hp.objs.size + 1), _, I.laid (t' := tk) (a := hp.objs.size + 1) (o := exo (hp.objs.size + 1) C none) (h' := h') (fun b o z => hk b o ?_ (kk b o z)) hsz (exo_ok he), rfl, h _ hn⟩
    exact Nat.ne_of_lt (Nat.lt_of_lt_of_le (Heap.lt_size z) hsz)
end
end DL

set_option maxHeartbeats 4000000
namespace DL
open PySem L2 Evl PySem.Spec PyProof.Rows
section
variable {X : Cx} {CX : CXT} {G : Bool} {k : Nat} {st : Stmt} {ps ks : List Str} {sp : Sp} {E : L2.St → XK} {x : Str} {p pos : Pos} {e : Expr} {es : List Expr} {t : TA}
/-- f(e, ..) in a try's body: what leaves it is taken at the slots -/
theorem pe_callDS (D : DefOk X.prog X.w X.K X.mg X.base CX G k x st ps sp) (hr : Room k X.A) (hgd : G = false ∨ X.A.guards = some []) (hb : BindP x st ps) (hx : ∀ σ, PassesAt CX X σ (E σ)) (ha : PA X (e :: es) t) (hg : Gl X x := by rfl)
    (hdb : (x == ("__debug__" : Str)) = false := by decide) (he : starEach (e :: es) X.env = (false, eval e X.env) :: starEach es X.env := by rfl) (hpl : (backTo pos (starEach es X.env)).any (·.1) = false := by rfl) :
    PE X (.Call (.Name x p) (e :: es) [] pos) (tCallS sp E t) := by
  obtain ⟨f, fd, F, hm, R⟩ := D.ex
  refine ⟨fun pins s σ H Q I h => wpAny_Call_Name_kw (ld_glob I hg hm ?_ hdb)⟩
  refine PySem.W.callWith_K (h₀ := X.base) I.ok.mod.kin F.kp (thn (ha.run pos pins s σ H _ I h) fun us s1 z => ?_) he hpl
  obtain ⟨vs, H1, I1, r, q⟩ := z
  refine ⟨I1.kIn, ?_⟩
  have q' : sp vs H1 Q (E σ) := q
  have hl : us.length = ps.length := by rw [← r.length]; exact R.len q'
  obtain ⟨oc, od, kV, doc, pm, an, cdv, ct, osl, rfl, lk, hcd⟩ := F.ex
  have hbt : BindsTo s1 _ ⟨[] ++ us, []⟩ (ps.zip us) := .of_eq (hb kV doc pm an cdv ct us hl)
  refine wpAny_call (codeAny_mono (show codeAny (model X.prog X.w) X.A (.call (.ref f) ⟨[] ++ us, []⟩) (CR CX X.stack X.prog X.w H1 s1 Q (E σ)) s1 from ?_) fun r s' hq => ?_)
  · cases G with
    | true => exact R.run X.A X.stack s1 H1 _ us vs Q (E σ) (hgd.resolve_left (by decide)) hr I1.env0 hbt r q'
    | false => exact R.run X.A X.stack s1 H1 _ us vs Q (E σ) hr I1.env0 hbt r q'
  · cases r with
    | error e => exact hx σ pins H1 s1 e s' I1 hq
    | ok fl => cases fl with
      | ret u => exact I1.after hq
      | next => exact hq
      | brk => exact hq
      | cont => exact hq
end
end DL

set_option maxHeartbeats 4000000
namespace DL
open PySem L2 Evl PySem.Spec PyProof.Rows CwR
/-! ### a token is out -/
theorem thnT {α : Type} {M : Model} {A : Around} {c : Sem α} {Q R : α → Shared → Prop} {E : Value → Shared → Prop} {s : Shared} {n : Nat} (hn : n ≤ s.toks) (h : wpAny M A c Q E s) (k : ∀ a s', n ≤ s'.toks → Q a s' → R a s') : wpAny M A c R E s :=
  wpAny_mono (wpAny_toks_of hn h) (fun a s' z => k a s' z.1 z.2) (fun _ _ z => z.2)
section
variable {X : Cx} {st : Stmt} {rest : List Stmt} {t u : TS} {e : Expr} {te : TE} {es : List Expr} {ta : TA} {pos : Pos}
theorem psst_cut (h1 : PST X st t) (h2 : PSsT X rest u) : PSsT X (st :: rest) (tCut t u) := by
  intro pins s σ H D h0 I h
  obtain ⟨Mid, hm, hu⟩ := h
  refine wpAny_execs_cons (thnT h0 (h1 pins s σ H { D with nx := Mid } h0 I hm) (fun f s1 h3 q => ?_))
  cases f with
  | next => obtain ⟨σ1, H1, I1, q⟩ := q; exact h2 pins s1 σ1 H1 D h3 I1 (hu σ1 H1 q)
  | ret v => exact q
  | brk => exact q
  | cont => exact q
theorem pst_set {i : Nat} {x : Str} {pos' : Pos} (hN : X.N.Nodup) (hi : X.N[i]? = some x) (hx : Loc X.env.scope x) (he : PET X e te) (hs : swapsWith e (some (.Name x pos')) pos.line X.env = pure false := by rfl)
    (hf : X.fn x = true ∨ X.env.scope.names.lookup x = some .local := by first | exact .inl rfl | exact .inr rfl | assumption) : PST X (.Assign [.Name x pos'] e pos) (tAsg te (gName i)) := by
  intro pins s σ H D h0 I h
  exact wpAny_Assign_Name (thn (he pins s σ H _ h0 I h) fun v s1 ⟨y, H1, I1, r1, q1⟩ => store_ok I1 hN hi hx r1 (fun s2 I2 => ⟨_, H1, I2, q1⟩) hf) hs
theorem pet_tup {k : Nat} (h : PAT X es ta) : PET X (.Tuple es k pos) (tTup ta) := by
  intro pins s σ H Q h0 I hq
  refine wpAny_Tuple_spliced (thn (h pos pins s σ H _ h0 I hq) fun us s1 z => ?_)
  obtain ⟨xs, H1, I1, r, z, q⟩ := z
  have fresh : H1 s1.heap.objs.size = none := I1.hok.fresh (Nat.le_refl _)
  exact ⟨by rw [← r.length]; exact z, .ref s1.heap.objs.size, upd H1 s1.heap.objs.size (.tup xs), I1.laid (t' := s1.toks) (fun b v w => Heap.get?_push_of_some _ w) (Nat.le_refl _) ⟨z, us, r, ⟨_, Heap.get?_push_size _ rfl, rfl, _, rfl⟩⟩, rfl, q _ fresh⟩
theorem pit_tup {tg : Expr} (h : PET X e te) : PIT X tg e (iTup X.K te) := by
  intro pins s σ H R h0 I hq
  refine thn (h pins s σ H _ h0 I hq) fun v s1 z => ?_
  obtain ⟨x, H1, I1, r1, a, rfl, ⟨xs, hS⟩, q⟩ := z
  obtain rfl : v = Value.ref a := r1
  obtain ⟨its, rv, p, hz⟩ := I1.tuple hS
  refine wpAny_pyIter_tuple (show s1.heap.IsTuple a its.toArray from p) ⟨s1.heap.objs.size, [s1.heap.objs.size], _, _, H1, rfl, ?_, turn_tuple a _, ⟨_, Heap.get?_push_size _ rfl, rfl, rfl⟩, fun b hb => ?_, q⟩
  · exact I1.kept (t' := s1.toks) fun b o w => Heap.get?_push_of_some _ w
  · obtain rfl : b = s1.heap.objs.size := by simpa using hb
    exact I1.fpOk (Nat.le_refl _) (I1.hok.fresh (Nat.le_refl _))
/-- for, a token out in its body too -/
theorem pst_forT {tg iter : Expr} {body : List Stmt} {wi : TI} {g : TG} {tb : TS} (hp : PassesOwn (model X.prog X.w) X.A X.env X.xe) (hc : X.calm = true) (hi : PIT X tg iter wi) (hg : PG X tg g) (hb : PSsT X body tb)
    (hs : ∀ x, foldedSetIterable iter X.env x = pure x := by intro _; rfl) : PST X (.For tg iter body [] pos) (tFor wi g tb) := by
  intro pins s σ H D h0 I h
  refine wpAny_For (thnT h0 (hi pins s σ H _ h0 I h) fun v s1 t1 h1 => thnT t1 h1 fun itv s2 t2 h2 => ?_) hs
  obtain ⟨it, fp, tn, J, H2, rfl, I2, T, st2, f2, W, ⟨m0, w0⟩, turn⟩ := h2
  have stat : ∀ {H' : Hp}, (∀ b ∈ fp, H' b = none) → ∀ b ∈ fp, FpOk X pins H' b := fun hn b hb => ⟨hn b hb, (f2 b hb).2⟩
  refine codeAny_forLoop_any (fun n s' => 1 ≤ s'.toks ∧ ∃ i σ' H', Inv X pins σ' H' s' ∧ tn i s'.heap ∧ (∀ b ∈ fp, H' b = none) ∧ W i n σ' H') ?_ m0 ⟨t2, 0, σ, H2, I2, st2, fun b hb => (f2 b hb).1, w0⟩
  rintro n s3 ⟨t3, i, σ3, H3, I3, st3, fr3, w3⟩
  rcases turn i n σ3 H3 w3 with ⟨stop, qn⟩ | ⟨go, N, hN, step⟩
  · refine wpAny_passesOwn hp (thn (T.done X rfl rfl rfl hc i pins s3 σ3 H3 X.xe I3 (stat fr3) st3 stop) fun r s4 z => ?_)
    obtain ⟨rfl, I4⟩ := z
    exact wpAny_execs_nil ⟨σ3, H3, I4, qn⟩
  · refine wpAny_passesOwn hp (thnT t3 (T.item X rfl rfl rfl hc i pins s3 σ3 H3 X.xe I3 (stat fr3) st3 go) fun r s4 t4 z => ?_)
    obtain ⟨w, rfl, h4⟩ := z
    refine wpAny_passesOwn hp (thnT t4 h4 fun _ s5 t5 z => ?_)
    obtain ⟨x, H5, I5, r5, y5, st5, fr5⟩ := z
    refine wpAny_passesOwn hp (thnT t5 (hg.run _ s5 σ3 H5 x w _ (I5.pinned (stat fr5) (T.obj _ _ st5)) r5 (step x H5 y5)) fun _ s6 t6 z => ?_)
    obtain ⟨σ6, H6, I6, q6⟩ := z
    refine wpAny_passesOwn hp (thnT t6 (hb _ s6 σ6 H6 _ t6 I6 q6) fun f s7 t7 q7 => ?_)
    have pinAt : ∀ {σ7 : L2.St} {H7 : Hp}, Inv X (pins ++ pinsAt fp s5.heap) σ7 H7 s7 → ∀ b ∈ fp, ∀ o, s5.heap.get? b = some o → s7.heap.get? b = some o ∧ H7 b = none := fun {σ7 H7} I7 b hb o eo => by
      have := I7.pin (b, o) (List.mem_append_right _ (List.mem_append_right _ (mem_pinsAt hb eo)))
      exact ⟨this.1, this.2.1⟩
    have again : ∀ {σ7 : L2.St} {H7 : Hp}, Inv X (pins ++ pinsAt fp s5.heap) σ7 H7 s7 → N σ7 H7 → ∃ m, m < n ∧ 1 ≤ s7.toks ∧ ∃ i σ' H', Inv X pins σ' H' s7 ∧ tn i s7.heap ∧ (∀ b ∈ fp, H' b = none) ∧ W i m σ' H' := fun {σ7 H7} I7 n7 => by
      obtain ⟨m1, lt, w7⟩ := hN σ7 H7 n7
      refine ⟨m1, lt, t7, i + 1, σ7, H7, I7.unpinned, T.keep _ _ _ st5 fun b hb o eo => (pinAt I7 b hb o eo).1, fun b hb => ?_, w7⟩
      obtain ⟨o, eo, _⟩ := T.obj _ _ st5 b hb
      exact (pinAt I7 b hb o eo).2
    cases f with
    | next => obtain ⟨σ7, H7, I7, n7⟩ := q7; exact again I7 n7
    | cont => obtain ⟨σ7, H7, I7, n7⟩ := q7; exact again I7 n7
    | brk => obtain ⟨σ7, H7, I7, z⟩ := q7; exact ⟨σ7, H7, I7.unpinned, z⟩
    | ret v => obtain ⟨y, σ7, H7, I7, ry, z⟩ := q7; exact ⟨y, σ7, H7, I7.unpinned, ry, z⟩
end
section
variable {X : Cx} {CX : CXT} {G : Bool} {k : Nat} {st : Stmt} {ps : List Str} {sp : Sp} {E : XK} {x kw : Str} {p pos kpos : Pos} {e : Expr} {te : TE}
/-- f(k = e), a token out -/
theorem pet_callDK {g : {α : Type} → List α → List α} (D : DefOk X.prog X.w X.K X.mg X.base CX G k x st ps sp) (hr : Room k X.A) (hgd : G = false ∨ X.A.guards = some []) (hb : BindK x st ps [kw] g) (hrel : ∀ {vs : List V} {us : List Value}, Vals vs us → Vals (g vs) (g us)) (hx : Passes CX X E)
    (he : PET X e te) (hks : (backToKw pos (keywordEach [⟨some kw, e, kpos⟩] X.env)).filterMap (·.1) = [kw] := by rfl) (hall : (backToKw pos (keywordEach [⟨some kw, e, kpos⟩] X.env)).all (·.1.isSome) = true := by rfl) (hg : Gl X x := by rfl)
    (hdb : (x == ("__debug__" : Str)) = false := by decide)
    (hev : (backToKw pos (keywordEach [⟨some kw, e, kpos⟩] X.env)).map (·.2) = [do let v ← eval e X.env; standAt pos; pure v] := by rfl)
    (hpl : ((backTo pos (starEach [] X.env)).any (·.1) || (backToKw pos (keywordEach [⟨some kw, e, kpos⟩] X.env)).any (·.1.isNone)) = false := by rfl) :
    PET X (.Call (.Name x p) [] [⟨some kw, e, kpos⟩] pos) (tCallKO 1 sp g E (tCons te tNil)) := by
  obtain ⟨f, fd, F, hm, R⟩ := D.ex
  intro pins s σ H Q h0 I h
  refine wpAny_Call_Name_kw (ld_glob I hg hm ?_ hdb)
  refine PySem.W.callWith_KW0 (h₀ := X.base) I.ok.mod.kin F.kp hall ?_ hpl
  rw [hev]
  refine wpAny_evalAll_cons (wpAny_bind (thn (he pins s σ H _ h0 I h) fun u s1 z => wpAny_bind (wpAny_standAt (wpAny_pure (wpAny_evalAll_nil ?_)))))
  obtain ⟨y, H1, I1, r1, hl, q1⟩ := z
  refine ⟨I1.kIn, ?_⟩
  rw [hks]
  obtain ⟨oc, od, kV, doc, pm, an, cdv, ct, osl, rfl, lk, hcd⟩ := F.ex
  have hbt : BindsTo s1 _ ⟨[], [kw].zip [u]⟩ (ps.zip (g [u])) := .of_eq (hb kV doc pm an cdv ct [u] rfl)
  refine wpAny_call (codeAny_mono (run_D R hgd hr hbt hx I1 (hrel (.cons r1 .nil)) q1) fun r s' hq => ?_)
  cases r with
  | error e => exact hq
  | ok fl => cases fl with
    | ret u => exact hq
    | next => exact hq
    | brk => exact hq
    | cont => exact hq
end
/-! ### a def without cells: at its entry a token is out -/
theorem bindL_locals {kindOf : Str → Option NameKind} : ∀ (binds : List (Str × Value)) (m : Str → Option Value), (∀ y ∈ binds, kindOf y.1 = some .local) → bindL kindOf binds m = fun z => (binds.reverse.lookup z).or (m z)
  | [], m, _ => by funext z; simp [bindL]
  | (n, v) :: r, m, h => by
    have hn : kindOf n = some .local := h (n, v) (by simp)
    rw [bindL, if_pos hn, bindL_locals r _ fun y hy => h y (List.mem_cons_of_mem _ hy)]
    funext z
    rw [List.reverse_cons, List.lookup_append]
    cases h2 : r.reverse.lookup z with
    | some w => simp
    | none =>
      by_cases e : z = n
      · subst e; simp [List.lookup]
      · have : (z == n) = false := by simpa using e
        simp [List.lookup, this, e]
section
variable {P : Program} {w : World} {K : PySem.W.Frag} {mg : Str → Option Value} {base : Heap} {CX : CXT} {k : Nat} {x : Str} {st : Stmt} {ps : List Str} {sp : Sp}
theorem DefAt.okGT {N : List Str} (D : DefAt K mg x st) (S : FnScope N ps (defScope st)) (hcl : ∀ y ∈ (defScope st).names, y.2 ≠ .cell) (hps : 0 < ps.length) (len : ∀ vs H Q E, sp vs H Q E → vs.length = ps.length)
    (hbody : ∀ (f : Addr) (cdv : Value) (A : Around) (outer : List Env) (s : Shared) (H : Hp) (vs : List V) (Q : VK) (E : XK), A.guards = some [] → Room k (A.deeper (envOfC x (defScope st) s.heap.objs.size f cdv)) → sp vs H Q E →
      ∃ t, PSsT (cxOf CX P w K mg base N x (defScope st) f cdv A outer s H E).nox (defBody st) t ∧ t { nx := fun _ H' => Q .non H', rt := Q } (L2.start N vs) H) :
    DefOk P w K mg base CX true (k + 1) x st ps sp := by
  obtain ⟨f, fd, F, hm⟩ := D.ex
  refine ⟨f, fd, F, hm, ?_⟩
  obtain ⟨oc, od, kV, doc, pm, an, cdv, ct, osl, rfl, lk, hcd⟩ := F.ex
  refine ⟨len, fun A outer s H args us vs Q E hgd hr e0 hb r hsp => ?_⟩
  have hl := len _ _ _ _ hsp
  have hlu : us.length = ps.length := by rw [← r.length]; exact hl
  have KX : K.In s.heap := e0.mod.kin.keeps fun b o z => (e0.bs b o z).1
  have lim : s.heap.NoLimit := e0.mod.nolimit.keeps fun b o z => (e0.bs b o z).1
  have hloc : ∀ y ∈ ps.zip us, (defScope st).names.lookup y.1 = some .local := by
    rintro ⟨n, v⟩ hy
    rcases S.par n (List.of_mem_zip hy).1 with q | q
    · exact q
    · exact absurd rfl (hcl _ (PySem.mem_of_lookup q))
  have hcells : ∀ n, cellsFrom n (defScope st).names [] = [] := by
    have gen : ∀ (l : List (Str × NameKind)) (n : Nat) (acc : List (Str × Addr)), (∀ y ∈ l, y.2 ≠ .cell) → cellsFrom n l acc = acc := by
      intro l
      induction l with
      | nil => intro n acc _; rfl
      | cons y r ih =>
        intro n acc h
        have h1 := h y (by simp)
        obtain ⟨a, kd⟩ := y
        have h2 : (kd == NameKind.cell) = false := by simpa using h1
        rw [cellsFrom, h2, if_neg Bool.false_ne_true]
        exact ih n acc fun z hz => h z (List.mem_cons_of_mem _ hz)
    exact fun n => gen _ n [] hcl
  refine codeAny_call_function hr.depth (KX _ _ lk) rfl S.co S.gen rfl (PySem.W.codeRec_of KX hcd) (hb _ _ _ _ (wpAny_newFunctionEnv hcl hloc (fun h1 hns hsb => ?_) S.kind))
  have hk : ∀ b o, s.heap.get? b = some o → h1.get? b = some o := fun b o z => hsb.extBut b o (Nat.ne_of_lt (Heap.lt_size z)) (Heap.get?_push_of_some _ z)
  have henv : newEnv (defScope st) s.heap.objs.size mainGlobals [] (x ++ ".<locals>.") (some f) cdv none builtinsNs = envOfC x (defScope st) s.heap.objs.size f cdv := by
    unfold newEnv envOfC
    rw [hcells]
  refine ⟨lim.keeps hk, ?_⟩
  show codeAny _ _ (.func _ (newEnv (defScope st) s.heap.objs.size mainGlobals [] (x ++ ".<locals>.") (some f) cdv none builtinsNs)) _ _
  rw [henv]
  refine codeAny_func ?_
  have hkind : ∀ y ∈ ps.zip us, (envOfC x (defScope st) s.heap.objs.size f cdv).kindOf y.1 = some .local := hloc
  have Y : InCallC s s.heap.objs.size (bindL (envOfC x (defScope st) s.heap.objs.size f cdv).kindOf (ps.zip us) fun _ => none) (cellsFrom (s.heap.objs.size + 1) (defScope st).names []) (bindC (envOfC x (defScope st) s.heap.objs.size f cdv).kindOf (ps.zip us) fun _ => none)
      { s with heap := h1, toks := s.toks + (ps.zip us).length } := by
    refine ⟨⟨⟨h1, _, rfl⟩, ?_, hk, Nat.le_refl _⟩, fun n c hc => ?_, ?_, fun n c hc => ?_⟩
    · rw [bindL_locals _ _ hkind]
      simpa using hns
    · rw [hcells] at hc
      simp at hc
    · rw [hcells]
      exact .nil
    · rw [hcells] at hc
      simp at hc
  have I : L2.Inv (cxOf CX P w K mg base N x (defScope st) f cdv A outer s H E) [] (L2.start N vs) H _ := inv_start S hr.hd e0 hl r Y
  obtain ⟨t, ht, hq⟩ := hbody f cdv A outer s H vs Q E hgd (hr.deeper _) hsp
  refine wpAny_mono (ht [] _ (L2.start N vs) H { nx := fun _ H' => Q .non H', rt := Q } ?_ (I.wish _) hq) (fun fl s' hs => ?_) fun e s' hs => hs.elim
  · show 1 ≤ s.toks + (ps.zip us).length
    rw [List.length_zip, hlu, Nat.min_self]
    omega
  · have hs := hs.unwish
    cases fl with
    | ret u => obtain ⟨v, σ1, H1, J, rv, q⟩ := hs; exact ⟨v, H1, J.os, J.bare, J.base, J.hok, rv, q⟩
    | next => obtain ⟨σ1, H1, J, q⟩ := hs; exact ⟨.non, H1, J.os, J.bare, J.base, J.hok, rfl, q⟩
    | brk => obtain ⟨_, _, _, q⟩ := hs; exact q.elim
    | cont => obtain ⟨_, _, _, q⟩ := hs; exact q.elim
end
end DL

set_option maxHeartbeats 4000000
namespace DL
open PySem L2 Evl PySem.Spec PyProof.Rows
/-! ### the end: a law that asks that no repr is under way -/
section
variable {P : Program} {w : World} {K : PySem.W.Frag} {mg mb : Str → Option Value} {CX : CXT} {k : Nat} {fa a : Addr} {fd : FuncData} {x : Str} {sp : Sp} {s1 : Shared} {vs : List Value} {ns : List Int}
theorem law_callG (KX : K.In s1.heap) (hns : s1.heap.Ns mainGlobals mg) (hb : s1.heap.Ns builtinsNs mb) (hbb : ∀ x : Str, x ≠ "__name__" → mb x = bootBuiltins x) (hlim : s1.heap.NoLimit) (hg : s1.gens = #[])
    (ha : s1.heap.get? a = some { cls := .type "list", data := .seq vs.toArray }) (hi : IntsAre vs ns) (hl : ns.length ≤ sizeLine) (hr : Room k callerA)
    (F : ∀ base : Heap, K.In base → base.Ns mainGlobals mg → FnG P w K mg base CX k fa fd [x] sp) (bind : ∀ (s : Shared) (u : Value), BindsTo s fd ⟨[u], []⟩ [(x, u)])
    (hsp : ∀ H : Hp, Only H → SqL K H a (ns.map V.int) → sp [.ref a] H (fun v _ => v = .bl true) fun _ _ _ => False) (hCX : ∀ H e s', CX [] H s1 (fun _ _ _ => False) e s' → False) :
    codeAny (model P w) callerA (.call (.ref fa) ⟨[.ref a], []⟩) (fun r s' => r = .ok (.ret (.bool true)) ∧ OldK s1.heap s'.heap ∧ s'.os = s1.os ∧ AllBare s'.gens) s1 := by
  have rel := vals_ints hi
  have size := hi.length
  -- H: the script, or nothing
  have main : ∀ H : Hp, (∀ b, H b = none ∨ b = a ∧ K.lookup a = none ∧ H b = some (.frz { cls := .type "list", data := .seq vs.toArray } (.lst (ns.map V.int)))) → SqL K H a (ns.map V.int) → HOk P w H s1.heap →
      codeAny (model P w) callerA (.call (.ref fa) ⟨[.ref a], []⟩) (fun r s' => r = .ok (.ret (.bool true)) ∧ OldK s1.heap s'.heap ∧ s'.os = s1.os ∧ AllBare s'.gens) s1 := by
    intro H hH hS ok
    have only : Only H := fun b => (hH b).imp id fun z => ⟨_, _, z.2.2⟩
    have free : ∀ {b : Addr} {o : Obj}, s1.heap.get? b = some o → (∀ its n, o.data ≠ .seq its n) → H b = none := fun {b o} e d => by
      rcases hH b with z | ⟨rfl, _, _⟩
      · exact z
      · rw [ha] at e
        cases e
        exact absurd rfl (d _ _)
    have stay : ∀ {b : Addr} {m : Str → Option Value}, s1.heap.Ns b m → (hidT s1.heap H).Ns b m := fun {b m} ⟨o, es, ep, e, d, z⟩ => ⟨o, es, ep, hidT_get e (free e fun its n q => by rw [d] at q; cases q), d, z⟩
    have KB : K.In (hidT s1.heap H) := fun b o e => hidT_get (KX b o e) ((hH b).elim id fun z => by
      obtain ⟨rfl, z, _⟩ := z
      rw [z] at e
      cases e)
    obtain ⟨mc, lim1, lim2⟩ := hlim
    have env : Env0 P w K mg (hidT s1.heap H) callerA [] s1 H := ⟨rfl, ⟨KB, stay hns, ⟨mb, stay hb, hbb⟩, ⟨mc, stay lim1, lim2⟩⟩, fun b o e => of_hidT e, Nat.le_of_eq (hidT_size _ _), trivial, fun b z => absurd (show b ∈ ([] : List Addr) from z) (by simp), ok, .of_eq hg⟩
    refine codeAny_mono ((F _ KB (stay hns)).run callerA [] s1 H ⟨[.ref a], []⟩ [.ref a] [.ref a] _ _ rfl hr env (bind s1 (.ref a)) (.cons rfl .nil) (hsp H only hS)) fun r s2 h => ?_
    match r, h with
    | .error e, h => exact (hCX H e s2 h).elim
    | .ok (.ret u), h =>
      obtain ⟨v, H2, os, bare, un, ok2, rv, rfl⟩ := h
      obtain rfl : u = Value.bool true := rv
      refine ⟨rfl, OldK.of_keep fun b o e => ?_, os, bare⟩
      rcases hH b with z | ⟨_, _, z⟩
      · exact un.keep b o e z (fun q => absurd (show b ∈ ([] : List Addr) from q) (by simp)) (by simp)
      · have e1 := (ok b _ z).1
        have e2 := (ok2 b _ (un.frzs b _ _ z)).1
        rw [e] at e1
        cases e1
        exact e2
    | .ok .next, h => exact h.elim
    | .ok .brk, h => exact h.elim
    | .ok .cont, h => exact h.elim
  cases hk : K.lookup a with
  | some o =>
    have e := ha.symm.trans (KX a o hk)
    cases e
    exact main (fun _ => none) (fun _ => .inl rfl) (.inr ⟨_, vs.toArray, _, hk, rfl, rfl, rfl, by rw [List.size_toArray, size]; exact hl, by simpa using rel⟩) fun b u z => by cases (show (none : Option HO) = some u from z)
  | none =>
    have one : ∀ b, (if b = a then some (HO.frz { cls := .type "list", data := .seq vs.toArray } (.lst (ns.map V.int))) else none) = none ∨ b = a ∧ K.lookup a = none ∧ (if b = a then some (HO.frz { cls := .type "list", data := .seq vs.toArray } (.lst (ns.map V.int))) else none) = some (.frz { cls := .type "list", data := .seq vs.toArray } (.lst (ns.map V.int))) := fun b => by
      by_cases h : b = a
      · exact .inr ⟨h, hk, if_pos h⟩
      · exact .inl (if_neg h)
    refine main (fun b => if b = a then some (.frz { cls := .type "list", data := .seq vs.toArray } (.lst (ns.map V.int))) else none) one (.inl (.inr ⟨{ cls := .type "list", data := .seq vs.toArray }, if_pos rfl⟩)) fun b u z => ?_
    by_cases h : b = a
    · subst h
      cases (if_pos rfl).symm.trans z
      exact ⟨ha, by rw [List.length_map]; exact hl, vs, _, rel, ha⟩
    · cases (if_neg h).symm.trans z
end
theorem walk_ofG {l : PySem.W.OpenLaw} {n k : Nat} {q : Program} {loose : List Str} {XP : (Str → Option Value) → Heap → Prop} {YP : World → Heap → Prop} {d : DefRec} {CX : CXT} {x : Str}
    (hn : l.most = some n) (hn2 : n ≤ sizeLine) (hdf : d.params.defaults = []) (hr : Room k callerA)
    (F : ∀ (w : World) (mg : Str → Option Value) (fa : Addr) (h : Heap), YP w h → h.Ns mainGlobals mg → mg d.name = some (.ref fa) → ∃ (K : PySem.W.Frag) (fd : FuncData) (sp : Sp), K.In h ∧ (∀ (s : Shared) (u : Value), BindsTo s fd ⟨[u], []⟩ [(x, u)]) ∧
        (∀ (H : Hp) (a : Addr) (ns : List Int), ns.length ≤ n → Only H → SqL K H a (ns.map V.int) → sp [.ref a] H (fun v _ => v = .bl true) fun _ _ _ => False) ∧ ∀ base : Heap, K.In base → base.Ns mainGlobals mg → FnG l.prog w K mg base CX k fa fd [x] sp)
    (hCX : ∀ (H : Hp) (s : Shared) (e : Value) (s' : Shared), CX [] H s (fun _ _ _ => False) e s' → False) : PySem.W.WalkO q loose XP YP l.row.toRowW d [] (fun f vs => PySem.call f vs) := by
  refine Att.attach_call hn hdf fun w s0 s1 mg mb fa o pm cd doc a vs ns G Y ho hd hcd hmg hobj hints hlen hg => ?_
  obtain ⟨K, fd, sp, KX, hb, hsp, hF⟩ := F w mg fa _ Y G.T.g hmg
  exact law_callG KX G.T.g G.T.b G.T.builtins G.T.nolimit hg hobj hints (Nat.le_trans hlen hn2) hr hF hb (fun H hO hS => hsp H a ns hlen hO hS) fun H e s' => hCX H s1 e s'
theorem law_end {P : Program} {w : World} {K : PySem.W.Frag} {mg : Str → Option Value} {CX : CXT} {k : Nat} {x a : Str} {st : Stmt} {sp : Sp} {fa : Addr} (b0 : Heap) (D : ∀ base : Heap, DefOk P w K mg base CX true k x st [a] sp) (hm : mg x = some (.ref fa)) (hb : BindP x st [a]) :
    ∃ fd, (∀ (s : Shared) (u : Value), BindsTo s fd ⟨[u], []⟩ [(a, u)]) ∧ ∀ base : Heap, FnG P w K mg base CX k fa fd [a] sp := by
  obtain ⟨f, fd, F, hf, _⟩ := (D b0).ex
  obtain rfl : f = fa := by
    have e := hf.symm.trans hm
    injection e with e
    injection e
  refine ⟨fd, fun s u => ?_, fun base => ?_⟩
  · obtain ⟨oc, od, kV, doc, pm, an, cdv, ct, osl, rfl, lk, hcd⟩ := F.ex
    exact .of_eq (hb kV doc pm an cdv ct [u] rfl)
  · obtain ⟨g, gd, G, hg, R⟩ := (D base).ex
    obtain rfl : g = f := by
      have e := hg.symm.trans hm
      injection e with e
      injection e
    obtain rfl : gd = fd := by
      obtain ⟨oc, od, kV, doc, pm, an, cdv, ct, osl, rfl, lk, _⟩ := F.ex
      obtain ⟨oc2, od2, kV2, doc2, pm2, an2, cdv2, ct2, osl2, rfl, lk2, _⟩ := G.ex
      have e := lk2.symm.trans lk
      injection e with e
      injection e with _ _ e _
      injection e
    exact R
end DL

set_option maxHeartbeats 4000000
namespace DL
open PySem L2 Evl PySem.Spec PyProof.Rows
/-! ### what the head looks at -/
/-- what is told of the class's object -/
def oexB (K : PySem.W.Frag) (C : Addr) : Bool := match K.lookup C with
  | some ⟨.type "type", _, .cls cd, sl⟩ => (match cd.mro, sl.toList with
    | .ref C1 :: bm, [_, _, _, _, some (.builtin n), _] => (C1 == C) && ((n == "ValueError.__new__") && ((!cd.hasDel) && (cd.hasDict && HandSPX.refsVE bm)))
    | _, _ => false)
  | _ => false
/-- its __init__ as an object: all but addresses -/
abbrev IniV : Type := Option (Str × Str × Arguments × FuncBody × Scope × Addr × List Str × Addr)
def iniObs (K : PySem.W.Frag) (x : Str) : IniV := match K.lookup (He.ma K (He.ga K x) "__init__") with
  | some ⟨_, _, .func fd, _⟩ => some (fd.name, fd.qualname, fd.params, fd.body, fd.scope, fd.globals, fd.closure.map (·.1), fd.builtins)
  | _ => none
def codeB (file : Str) (K : PySem.W.Frag) (C fI : Addr) : Bool := match K.lookup fI with
  | some ⟨_, _, .func fd, _⟩ => (match fd.code, fd.closure, fd.defaults with
    | .ref cda, [(_, cc)], .none => PySem.W.codeIn K (.ref cda) fd.qualname && ((match K.lookup cda with
        | some ⟨_, _, .fields vs, _⟩ => (match (vs[2]? : Option Value) with
          | some (.str f _) => f == file
          | _ => false)
        | _ => false) && (match K.lookup cc with
        | some ⟨_, _, .cell (some (.ref D)), _⟩ => D == C
        | _ => false))
    | _, _, _ => false)
  | _ => false
def errB (file : Str) (fld : Str) (K : PySem.W.Frag) (x : Str) : Bool :=
  let C := He.ga K x
  let fI := He.ma K C "__init__"
  oexB K C && (He.eqO (PySem.W.findIn K (.ref C) "__setattr__") (some (some (.builtin "object.__setattr__"))) && (decide (PySem.W.subIn K (.ref C) (.type "BaseException") = some true) && (decide (PySem.W.typeIn K (.ref C) = some (.type "type")) && (PySem.W.keepIn K (.ref C) &&
    (He.eqO (PySem.W.findIn K (.ref C) "__init__") (some (some (.ref fI))) && (decide (PySem.W.typeIn K (.ref fI) = some (.type "function")) && (He.eqO (PySem.W.findIn K (.ref C) fld) (some none) && (decide (PySem.W.mroIn K C (.ref C) = some true) &&
    (He.eqO (PySem.W.ks_superIn K C C "__init__") (some (some (.builtin "ValueError.__init__"))) && (decide (PySem.W.subIn K (.ref C) (.type "ValueError") = some true) && (xfB K C && (decide (PySem.W.exmOne K (.ref C) (.ref C) = some true) &&
    ((PySem.W.clsIn K C).isSome && (He.eqO (PySem.W.nsIn K PySem.cStatics "thirdparty.any") (some none) && codeB file K C fI))))))))))))))
abbrev AlX : Type := He.AlD × Bool × IniV
def frX (n : Nat) (g : Addr → Option Obj) : PySem.W.Frag := He.frG g (PySem.cStatics :: He.asD g n)
def obsX (n : Nat) (fa : List He.Fa) (fn : List He.DefD) (chk : PySem.W.Frag → Bool) (x : Str) (g : Addr → Option Obj) : AlX := (He.obsD fa fn (frX n g), chk (frX n g), iniObs (frX n g) x)
def SaysX (fa : List He.Fa) (fn : List He.DefD) (chk : PySem.W.Frag → Bool) (x : Str) (v : IniV) (K : PySem.W.Frag) : Prop := He.SaysD fa fn K ∧ chk K = true ∧ iniObs K x = v
def hookX (n : Nat) (fa : List He.Fa) (fn : List He.DefD) (chk : PySem.W.Frag → Bool) (x : Str) (v : IniV) : PySem.W.Hook where
  α := AlX
  obs := fun s => obsX n fa fn chk x s.heap.get?
  val := fun _ => (He.valD fn, true, v)
  says := fun _ h => ∃ K : PySem.W.Frag, K.In h ∧ SaysX fa fn chk x v K
  of := fun _ _ e => ⟨_, He.frG_in, congrArg (fun z : AlX => z.1) e, congrArg (fun z : AlX => z.2.1) e, congrArg (fun z : AlX => z.2.2) e⟩
  keeps := fun _ _ _ ⟨K, hK, c⟩ k => ⟨K, PySem.W.Frag.In.keeps hK k, c⟩
theorem obsX_eq {n : Nat} {fa : List He.Fa} {fn : List He.DefD} {chk : PySem.W.Frag → Bool} {x : Str} {v : IniV} {g : Addr → Option Obj} {s : Shared} (h : ∀ a, g a = s.heap.get? a) : obsX n fa fn chk x g = (hookX n fa fn chk x v).obs s := by
  have e : g = s.heap.get? := funext h
  subst e
  rfl
end DL

set_option maxHeartbeats 4000000
namespace DL
open PySem L2 Evl PySem.Spec PyProof.Rows
/-! ### the head: defs, constants, an error class, read off the heap -/
theorem defAt_of {K : PySem.W.Frag} {mg : Str → Option Value} {x : Str} {st : Stmt} {f : Addr} (h : ∃ fd, FunD K x x (defArgs st) (defBody st) (defScope st) [] [] f fd) (g : mg x = some (.ref f)) : DefAt K mg x st := by
  obtain ⟨fd, F⟩ := h
  obtain ⟨oc, od, dV, kV, doc, pm, an, cdv, ct, osl, rfl, lk, hcd, hd, _⟩ := F.ex
  rcases hd with ⟨_, rfl⟩ | ⟨n, _⟩
  · exact ⟨f, _, ⟨⟨oc, od, kV, doc, pm, an, cdv, ct, osl, rfl, lk, hcd⟩, F.kp⟩, g⟩
  · exact absurd rfl n
theorem oexB_cls {K : PySem.W.Frag} {C : Addr} (h : oexB K C = true) : ∃ nm q N bs bm sn sub ab col dd k0 k1 k2 k3 k5, K.lookup C = some (excClassObj nm q C N bs bm true sn sub ab col dd k0 k1 k2 k3 k5 "ValueError.__new__") ∧ HandSPX.refsVE bm = true := by
  unfold oexB at h
  split at h
  · rename_i dd cd sl ho
    split at h
    · rename_i C1 bm k0 k1 k2 k3 n k5 hm hs
      simp only [Bool.and_eq_true, beq_iff_eq, Bool.not_eq_true'] at h
      obtain ⟨rfl, rfl, hdel, hdict, hbm⟩ := h
      obtain ⟨nm, bs, mro, ns, qn, hd, sn, sub, ab, col, del⟩ := cd
      dsimp only at hm hdel hdict
      subst hm hdel hdict
      have esl : sl = #[k0, k1, k2, k3, some (.builtin "ValueError.__new__"), k5] := by
        obtain ⟨l⟩ := sl
        exact congrArg Array.mk hs
      subst esl
      exact ⟨nm, qn, ns, bs, bm, sn, sub, ab, col, dd, k0, k1, k2, k3, k5, ho, hbm⟩
    · cases h
  · cases h
variable {P : Program} {w : World} {K : PySem.W.Frag} {mg : Str → Option Value} {base : Heap}
theorem err_of {file fld x name qual : Str} {params : Arguments} {body : List Stmt} {scope : Scope} {ar : Arg} {p0 p1 p2 p3 p4 p5 p6 p7 p8 p9 : Pos} (he : errB file fld K x = true) (ho : iniObs K x = some (name, qual, params, FuncBody.stmts body, scope, mainGlobals, [("__class__" : Str)], builtinsNs)) (hm : mg x = some (.ref (He.ga K x)))
    (hbd : body = [.Expr (.Call (.Attribute (.Call (.Name "super" p0) [] [] p1) "__init__" p2) [.Name fld p3] [] p4) p5, .Assign [.Attribute (.Name "self" p6) fld p7] (.Name fld p8) p9])
    (S : SupScope "self" fld scope) (hp : (params.posonlyargs ++ params.args).head? = some ar) (har : ar.arg = "self") (hfile : ((P.main.file : Str) == file) = true) (hsm : mg "super" = none) (htop : (P.main.scope.names.lookup ("super" : Str)).isSome = false)
    (hbind : ∀ (kV doc pm : Value) (an : Option Addr) (cdv ct : Value) (cc : Addr) (us : List Value), us.length = 2 → bindArgs (PySem.W.ksFn name qual params body scope .none kV doc pm an cdv ct cc) ⟨us, []⟩ = pure ((["self", fld] : List Str).zip us))
    {pl : Addr → Addr → Addr → Addr → Sem Bool} (hc : ∀ f cda cc L : Addr, eval (.Call (.Attribute (.Call (.Name "super" p0) [] [] p1) "__init__" p2) [.Name fld p3] [] p4) (PySem.W.ksEnv qual scope L f (.ref cda) cc) = (do
      let ov ← attributeBase (.Call (.Name "super" p0) [] [] p1) "__init__" (PySem.W.ksEnv qual scope L f (.ref cda) cc) (eval (.Call (.Name "super" p0) [] [] p1) (PySem.W.ksEnv qual scope L f (.ref cda) cc))
      standAt p2.atName
      let (m, first) ← holding [ov] (getMethod ov "__init__" (pl f cda cc L))
      callWith p4 m first (backTo p4 (starEach [.Name fld p3] (PySem.W.ksEnv qual scope L f (.ref cda) cc))) []))
    (hdx : (fld == ("__debug__" : Str)) = false) (hcx : (fld == ("__classdict__" : Str)) = false) : ErrAt P w K mg base x fld (He.ga K x) := by
  unfold errB at he
  simp only [Bool.and_eq_true, decide_eq_true_eq] at he
  obtain ⟨h1, h2, h3, h4, h5, h6, h7, h8, h9, h10, h11, h12, h13, h14, h15, h16⟩ := he
  have T : OexC K (He.ga K x) := ⟨oexB_cls h1, He.eqO_ok h2, h3, h4, h5⟩
  refine ⟨hm, T, ?_, He.eqO_ok h8, h9, He.eqO_ok h10, h11, xfB_ok h12, h13⟩
  unfold codeB at h16
  unfold iniObs at ho
  cases hl : K.lookup (He.ma K (He.ga K x) "__init__") with
  | none => rw [hl] at h16; cases h16
  | some o =>
    obtain ⟨oc, od, dat, osl⟩ := o
    rw [hl] at h16 ho
    cases dat with
    | func fd =>
      simp only at h16 ho
      obtain ⟨nm, qn, pr, bdy, scp, gl, clo, dV, kV, doc, pm, an, code, ct, bl⟩ := fd
      simp only [Option.some.injEq, Prod.mk.injEq] at ho
      obtain ⟨rfl, rfl, rfl, rfl, rfl, rfl, hclo, rfl⟩ := ho
      split at h16
      · rename_i cda nc cc e1 e2 e3
        simp only at e1 e2 e3
        subst e1 e2 e3
        simp only [List.map_cons, List.map_nil, List.cons.injEq, and_true] at hclo
        subst hclo
        simp only [Bool.and_eq_true] at h16
        obtain ⟨c1, c2, c3⟩ := h16
        split at c2
        · rename_i ccl cdd vs ccs hcode
          split at c2
          · rename_i f0 tf hvs
            obtain rfl : f0 = file := by simpa using c2
            split at c3
            · rename_i cl cld D csl hcell
              obtain rfl : D = He.ga K x := by simpa using c3
              obtain ⟨cdD, hD⟩ := Option.isSome_iff_exists.mp h14
              exact ⟨_, _, He.eqO_ok h6, h7, Binds.all fun us hl => hbind _ _ _ _ _ _ _ us hl, fun CX k => fn_super hl hbd c1 S hp har hcode hvs hfile hcell hD hsm htop (He.eqO_ok h15) (hc _ _ _) (by decide) (by decide) hdx hcx⟩
            · cases c3
          · cases c2
        · cases c2
      · cases h16
    | _ => cases h16
end DL

set_option maxHeartbeats 4000000
namespace DL
open PySem L2 Evl PySem.Spec PyProof.Rows
/-! ### what the head looks at, with the __init__ of each of some error classes -/
abbrev AlY : Type := He.AlD × Bool × List IniV
def obsY (n : Nat) (fa : List He.Fa) (fn : List He.DefD) (chk : PySem.W.Frag → Bool) (xs : List Str) (g : Addr → Option Obj) : AlY := (He.obsD fa fn (frX n g), chk (frX n g), xs.map (iniObs (frX n g)))
def SaysY (fa : List He.Fa) (fn : List He.DefD) (chk : PySem.W.Frag → Bool) (xs : List Str) (vs : List IniV) (K : PySem.W.Frag) : Prop := He.SaysD fa fn K ∧ chk K = true ∧ xs.map (iniObs K) = vs
def hookY (n : Nat) (fa : List He.Fa) (fn : List He.DefD) (chk : PySem.W.Frag → Bool) (xs : List Str) (vs : List IniV) : PySem.W.Hook where
  α := AlY
  obs := fun s => obsY n fa fn chk xs s.heap.get?
  val := fun _ => (He.valD fn, true, vs)
  says := fun _ h => ∃ K : PySem.W.Frag, K.In h ∧ SaysY fa fn chk xs vs K
  of := fun _ _ e => ⟨_, He.frG_in, congrArg (fun z : AlY => z.1) e, congrArg (fun z : AlY => z.2.1) e, congrArg (fun z : AlY => z.2.2) e⟩
  keeps := fun _ _ _ ⟨K, hK, c⟩ k => ⟨K, PySem.W.Frag.In.keeps hK k, c⟩
theorem obsY_eq {n : Nat} {fa : List He.Fa} {fn : List He.DefD} {chk : PySem.W.Frag → Bool} {xs : List Str} {vs : List IniV} {g : Addr → Option Obj} {s : Shared} (h : ∀ a, g a = s.heap.get? a) : obsY n fa fn chk xs g = (hookY n fa fn chk xs vs).obs s := by
  have e : g = s.heap.get? := funext h
  subst e
  rfl
theorem SaysY.fact {fa : List He.Fa} {fn : List He.DefD} {chk : PySem.W.Frag → Bool} {xs : List Str} {vs : List IniV} {K : PySem.W.Frag} (c : SaysY fa fn chk xs vs K) (i : Nat) {f : He.Fa} (h : fa[i]? = some f := by rfl) : f.ok K = true := He.SaysD.fact c.1 i h
theorem SaysY.def_ {fa : List He.Fa} {fn : List He.DefD} {chk : PySem.W.Frag → Bool} {xs : List Str} {vs : List IniV} {K : PySem.W.Frag} (c : SaysY fa fn chk xs vs K) (i : Nat) {d : He.DefD} (h : fn[i]? = some d := by rfl) : ∃ fd, L2.FunD K d.name d.qual d.params d.body d.scope (d.dvs K) (d.kws K) (He.fAd K d.at_) fd := He.SaysD.def_ c.1 i h
theorem SaysY.ini {fa : List He.Fa} {fn : List He.DefD} {chk : PySem.W.Frag → Bool} {xs : List Str} {vs : List IniV} {K : PySem.W.Frag} (c : SaysY fa fn chk xs vs K) (i : Nat) {x : Str} {v : IniV} (h : xs[i]? = some x := by rfl) (hv : vs[i]? = some v := by rfl) : iniObs K x = v := by
  have e : (xs.map (iniObs K))[i]? = vs[i]? := by rw [c.2.2]
  rw [List.getElem?_map, h, hv] at e
  exact Option.some.inj e
/-- conjuncts of a check -/
def allB (K : PySem.W.Frag) : List (PySem.W.Frag → Bool) → Bool
  | [] => true
  | f :: r => f K && allB K r
theorem allB_at {K : PySem.W.Frag} : ∀ {l : List (PySem.W.Frag → Bool)} (i : Nat) {f : PySem.W.Frag → Bool}, allB K l = true → l[i]? = some f → f K = true
  | _ :: _, 0, _, h, e => by
    cases e
    exact (Bool.and_eq_true_iff.mp h).1
  | _ :: r, i + 1, _, h, e => allB_at (l := r) i (Bool.and_eq_true_iff.mp h).2 e
  | [], _, _, _, e => by cases e
end DL

set_option maxHeartbeats 4000000
namespace DL
open PySem L2 Evl PySem.Spec PyProof.Rows PySem.Calls PyProof.V
/-! ### a dict of the text: texts to ints -/
def tabAt (k : Str) : List (Str × Int) → Option Int
  | [] => none
  | (x, i) :: D => if k = x then some i else tabAt k D
def datI (D : List (Str × Int)) : List (Str × KTD.Dat) := D.map fun p => (p.1, .flat (.int p.2))
theorem datum_tab {k : Str} : ∀ D : List (Str × Int), KTD.datumAt k (datI D) = (tabAt k D).map fun i => .flat (.int i)
  | [] => rfl
  | (x, i) :: D => by
    show (if decide (k = x) = true then some _ else KTD.datumAt k (datI D)) = Option.map _ (if k = x then some i else tabAt k D)
    by_cases h : k = x
    · rw [if_pos (decide_eq_true h), if_pos h]; rfl
    · rw [if_neg (by simp [h]), if_neg h]; exact datum_tab D
structure TabI (K : PySem.W.Frag) (mg : Str → Option Value) (x : Str) (D : List (Str × Int)) : Prop where
  ex : ∃ a, mg x = some (.ref a) ∧ ∀ h, K.In h → KTD.TextTab h a (datI D)
def rowsI : List DictEntry → List (Str × Int) → Bool
  | [], [] => true
  | ⟨_, .str y _, .int j _⟩ :: es, (x, i) :: D => decide (y = x) && (decide (j = i) && rowsI es D)
  | _, _ => false
theorem rowsI_ok {h : Heap} : ∀ {es : List DictEntry} {D : List (Str × Int)}, rowsI es D = true → KTD.Rows (KTD.Dat.At h) es (datI D)
  | [], [], _ => .nil
  | ⟨_, .str y t, .int j u⟩ :: es, (x, i) :: D, e => by
    simp only [rowsI, Bool.and_eq_true, decide_eq_true_eq] at e
    obtain ⟨rfl, rfl, e⟩ := e
    exact .cons (t := t) rfl (Flat.int _ _) (rowsI_ok e)
  | [], _ :: _, e => nomatch e
  | ⟨_, .str _ _, .int _ _⟩ :: _, [], e => nomatch e
def tabB (K : PySem.W.Frag) (x : Str) (D : List (Str × Int)) : Bool := !(He.ga K x == sysModules) && match K.lookup (He.ga K x) with
  | some ⟨.type c, none, .dict es _, sl⟩ => decide (c = "dict") && (sl.toList.isEmpty && rowsI es.toList D)
  | _ => false
theorem tab_of {K : PySem.W.Frag} {mg : Str → Option Value} {x : Str} {D : List (Str × Int)} (hm : mg x = some (.ref (He.ga K x))) (e : tabB K x D = true) : TabI K mg x D := by
  unfold tabB at e
  rw [Bool.and_eq_true, Bool.not_eq_true'] at e
  obtain ⟨e0, e⟩ := e
  split at e
  · rename_i c es ep sl ho
    simp only [Bool.and_eq_true, decide_eq_true_eq] at e
    obtain ⟨rfl, es0, e⟩ := e
    have esl : sl = #[] := by
      obtain ⟨l⟩ := sl
      cases l with
      | nil => rfl
      | cons _ _ => cases es0
    exact ⟨_, hm, fun h KI => ⟨e0, _, es, ep, KI _ _ ho, ⟨rfl, rfl, esl⟩, rfl, rowsI_ok e⟩⟩
  · cases e
def tTGet2 (D : List (Str × Int)) (te tx : TE) : TE := fun σ H Q => te σ H fun y H1 => tx σ H1 fun z H2 => ∃ k, y = .str k ∧ Q (((tabAt k D).map V.int).getD z) H2
theorem pe_tget2 {X : Cx} {x : Str} {D : List (Str × Int)} {p apos cpos : Pos} {e f : Expr} {te tx : TE} (T : TabI X.K X.mg x D) (he : PE X e te) (hf : PE X f tx) (m : M2 X (.Name x p) "get" apos e f cpos) (hg : Gl X x := by rfl) (hd : (x == ("__debug__" : Str)) = false := by decide) :
    PE X (.Call (.Attribute (.Name x p) "get" apos) [e, f] [] cpos) (tTGet2 D te tx) := by
  obtain ⟨a, hm, T⟩ := T.ex
  have hx : PE X (.Name x p) (tC (.ref a)) := pe_glob hg hm rfl hd
  refine ⟨fun pins s σ H Q I h => wpAny_Call_method m.base m.few m.line PySem.F.plainAttrs_dict PySem.F.slot_dict_get PySem.F.type_dict_get (thn (hx.run pins s σ H (fun v H1 => v = .ref a ∧ H1 = H) I ⟨rfl, rfl⟩) fun u s1 ⟨y, H1, I1, ry, ey, eH⟩ => ?_)⟩
  subst ey eH
  obtain rfl : u = Value.ref a := ry
  have h1 : KTD.Here s1.heap s1.heap a (datI D) := ⟨T _ I1.kIn, fun _ _ z => z⟩
  refine ⟨h1.typeIs, h1.noDict, ?_⟩
  rw [m.trees]
  refine Calls.callWith_builtin rfl (Calls.evalArgs_plain (Calls.spliced_cons (thn (he.run pins s1 σ H1 _ I1 h) fun iv s2 ⟨y, H2, I2, ry, q2⟩ => Calls.spliced_cons (thn (hf.run pins s2 σ H2 _ I2 q2) fun fv s3 ⟨z, H3, I3, rz, k, ek, q3⟩ => Calls.spliced_nil ?_))))
  subst ek
  obtain ⟨t, rfl⟩ : ∃ t, iv = Value.str k t := ry
  have h3 : KTD.Here s3.heap s3.heap a (datI D) := ⟨T _ I3.kIn, fun _ _ z => z⟩
  refine call_meetsIn PySem.F.slot_dict_get h3.typeIs PySem.F.entry_dict_get (PySem.F.args_dict_get_3 _ _ _) (KTD.meets_get2 (h₀ := s3.heap) (D := datI D)) ⟨h3, fun d v hd hv => ?_, fun hn => ?_⟩
  · rw [datum_tab] at hd
    cases ht : tabAt k D with
    | none => rw [ht] at hd; cases hd
    | some i =>
      rw [ht] at hd q3
      cases hd
      obtain ⟨t', rfl⟩ := Flat.int_inv hv
      exact ⟨.int i, H3, I3.tok _, ⟨_, rfl⟩, q3⟩
  · rw [datum_tab] at hn
    cases ht : tabAt k D with
    | none =>
      rw [ht] at q3
      exact ⟨z, H3, I3.tok _, rz, q3⟩
    | some i => rw [ht] at hn; cases hn
/-! ### a def with defaults, called with all its parameters -/
structure DefDf (K : PySem.W.Frag) (mg : Str → Option Value) (x : Str) (st : Stmt) (dvs : List V) : Prop where
  ex : ∃ f fd, FunD K x x (defArgs st) (defBody st) (defScope st) dvs [] f fd ∧ mg x = some (.ref f)
structure DfOk (P : Program) (w : World) (K : PySem.W.Frag) (mg : Str → Option Value) (base : Heap) (CX : CXT) (k : Nat) (x : Str) (ps : List Str) (sp : Sp) : Prop where
  ex : ∃ f fd, FnOk P w K mg base CX k f fd ps sp ∧ mg x = some (.ref f) ∧ PySem.W.keepIn K (.ref f) = true ∧ Binds K fd ps []
section
variable {P : Program} {w : World} {K : PySem.W.Frag} {mg : Str → Option Value} {base : Heap} {CX : CXT} {k : Nat} {x : Str} {st : Stmt} {N ps : List Str} {sp : Sp} {dvs : List V}
theorem DefDf.ok (D : DefDf K mg x st dvs) (hd : dvs ≠ []) (S : FnScope N ps (defScope st)) (len : ∀ vs H Q E, sp vs H Q E → vs.length = ps.length)
    (hb : ∀ (T : Addr) (kV doc pm : Value) (an : Option Addr) (cdv ct : Value) (us its : List Value), us.length = ps.length → its.length = dvs.length →
      ∃ k, bindArgs (PySem.W.fnOf x x (defArgs st) (defBody st) (defScope st) (.ref T) kV doc pm an cdv ct) ⟨us, []⟩ = seqItems? (.ref T) >>= k ∧ k (some its.toArray) = pure (ps.zip us))
    (hbody : ∀ (f : Addr) (cdv : Value) (A : Around) (outer : List Env) (s : Shared) (H : Hp) (vs : List V) (Q : VK) (E : XK), Room k (A.deeper (envOfC x (defScope st) s.heap.objs.size f cdv)) → sp vs H Q E →
      ∃ t, PSs (cxOf CX P w K mg base N x (defScope st) f cdv A outer s H E).nox (defBody st) t ∧ t { nx := fun _ H' => Q .non H', rt := Q } (L2.start N vs) H) :
    DfOk P w K mg base CX (k + 1) x ps sp := by
  obtain ⟨f, fd, F, hm⟩ := D.ex
  obtain ⟨ds, rd, hbd⟩ := FunD.binds1 (ps := ps) F ps.length dvs.length hd (by omega) fun T kV doc pm an cdv ct us its l1 l2 => by
    obtain ⟨k, e1, e2⟩ := hb T kV doc pm an cdv ct us its l1 l2
    exact ⟨k, e1, by rw [e2, ← l2, List.drop_length, List.append_nil]⟩
  rw [List.drop_length] at rd
  cases rd
  refine ⟨f, fd, FunD.ok F S len fun cdv A outer s H vs Q E hr hsp => ?_, hm, F.kp, hbd⟩
  obtain ⟨t, h, q⟩ := hbody f cdv A outer s H vs Q E hr hsp
  exact ⟨t, h.nox, q⟩
end
theorem pe_callDf {X : Cx} {CX : CXT} {k : Nat} {x : Str} {ps : List Str} {sp : Sp} {E : XK} {p pos : Pos} {e : Expr} {es : List Expr} {t : TA} (D : DfOk X.prog X.w X.K X.mg X.base CX k x ps sp) (hr : Room k X.A) (hx : Passes CX X E) (ha : PA X (e :: es) t) (hg : Gl X x := by rfl)
    (hdb : (x == ("__debug__" : Str)) = false := by decide) (he : starEach (e :: es) X.env = (false, eval e X.env) :: starEach es X.env := by rfl) (hpl : (backTo pos (starEach es X.env)).any (·.1) = false := by rfl) :
    PE X (.Call (.Name x p) (e :: es) [] pos) (tCall sp [] E t) := by
  obtain ⟨f, fd, F, hm, hk, hb⟩ := D.ex
  exact pe_call F hr hg hm hk hb .nil hx ha hdb he hpl
end DL

set_option maxHeartbeats 4000000
namespace DL
open PySem L2 Evl PySem.Spec PyProof.Rows
/-! ### classes of the text -/
/-- the address that a name of the module has -/
def gA (mg : Str → Option Value) (x : Str) : Addr := match mg x with
  | some (.ref a) => a
  | _ => 0
theorem gA_of {mg : Str → Option Value} {x : Str} {a : Addr} (h : mg x = some (.ref a)) : gA mg x = a := by
  unfold gA
  rw [h]
structure ClsAt (K : PySem.W.Frag) (mg : Str → Option Value) (x : Str) (flds : List Str) : Prop where
  nm : mg x = some (.ref (gA mg x))
  cls : Cls K (gA mg x)
  no : ∀ f ∈ flds, NoAttr K (gA mg x) f
def FunQ (K : PySem.W.Frag) (x qual : Str) (st : Stmt) (f : Addr) (fd : FuncData) : Prop := FunD K x qual (defArgs st) (defBody st) (defScope st) [] [] f fd
structure IniAt (K : PySem.W.Frag) (mg : Str → Option Value) (x qual : Str) (st : Stmt) : Prop where
  ex : ∃ f fd, FunQ K "__init__" qual st f fd ∧ Mk K (gA mg x) f
structure MetAt (K : PySem.W.Frag) (mg : Str → Option Value) (x m qual : Str) (st : Stmt) : Prop where
  ex : ∃ f fd, FunQ K m qual st f fd ∧ Meth K (gA mg x) m f
/-- how all parameters are bound -/
def BindQ (m qual : Str) (st : Stmt) (ps : List Str) : Prop := ∀ (kV doc pm : Value) (an : Option Addr) (cdv ct : Value) (us : List Value), us.length = ps.length →
  bindArgs (PySem.W.fnOf m qual (defArgs st) (defBody st) (defScope st) .none kV doc pm an cdv ct) ⟨us, []⟩ = pure (ps.zip us)
section
variable {P : Program} {w : World} {K : PySem.W.Frag} {mg : Str → Option Value} {base : Heap} {k : Nat} {x m qual : Str} {st : Stmt} {N ps : List Str} {sp : Sp} {flds : List Str}
theorem MetAt.ok (D : MetAt K mg x m qual st) (c : ClsAt K mg x flds) (S : FnScope N ps (defScope st)) (hb : BindQ m qual st ps) (len : ∀ vs H Q E, sp vs H Q E → vs.length = ps.length)
    (hbody : ∀ (f : Addr) (cdv : Value) (A : Around) (outer : List Env) (s : Shared) (H : Hp) (vs : List V) (Q : VK) (E : XK), Room k (A.deeper (envOfC qual (defScope st) s.heap.objs.size f cdv)) → sp vs H Q E →
      ∃ t, PSs (cxOf CX0 P w K mg base N qual (defScope st) f cdv A outer s H E).nox (defBody st) t ∧ t { nx := fun _ H' => Q .non H', rt := Q } (L2.start N vs) H) :
    C8.Met P w K mg base (k + 1) (gA mg x) m sp [] := by
  obtain ⟨f, fd, F, me⟩ := D.ex
  refine ⟨f, fd, ps, [], c.cls, me, FunD.ok F S len fun cdv A outer s H vs Q E hr hsp => ?_, FunD.bindsN F hb, .nil⟩
  obtain ⟨t, h, q⟩ := hbody f cdv A outer s H vs Q E hr hsp
  exact ⟨t, h.nox, q⟩
theorem IniAt.ok (D : IniAt K mg x qual st) (c : ClsAt K mg x flds) (S : FnScope N ps (defScope st)) (hb : BindQ "__init__" qual st ps) (len : ∀ vs H Q E, sp vs H Q E → vs.length = ps.length)
    (hbody : ∀ (f : Addr) (cdv : Value) (A : Around) (outer : List Env) (s : Shared) (H : Hp) (vs : List V) (Q : VK) (E : XK), Room k (A.deeper (envOfC qual (defScope st) s.heap.objs.size f cdv)) → sp vs H Q E →
      ∃ t, PSs (cxOf CX0 P w K mg base N qual (defScope st) f cdv A outer s H E).nox (defBody st) t ∧ t { nx := fun _ H' => Q .non H', rt := Q } (L2.start N vs) H) :
    C8.Mak P w K mg base (k + 1) x (gA mg x) sp [] := by
  obtain ⟨f, fd, F, M⟩ := D.ex
  refine ⟨f, fd, ps, [], M, FunD.ok F S len fun cdv A outer s H vs Q E hr hsp => ?_, c.nm, FunD.bindsN F hb, .nil⟩
  obtain ⟨t, h, q⟩ := hbody f cdv A outer s H vs Q E hr hsp
  exact ⟨t, h.nox, q⟩
/-- a method's promise at a level that no call reaches -/
theorem MetAt.void (D : MetAt K mg x m qual st) (c : ClsAt K mg x flds) (hb : BindQ m qual st ps) (no : ∀ vs H Q E, sp vs H Q E → False) (len : ∀ vs H Q E, sp vs H Q E → vs.length = ps.length) : C8.Met P w K mg base k (gA mg x) m sp [] := by
  obtain ⟨f, fd, F, me⟩ := D.ex
  exact ⟨f, fd, ps, [], c.cls, me, ⟨len, fun _ _ _ _ _ _ _ _ _ _ _ _ _ z => (no _ _ _ _ z).elim⟩, FunD.bindsN F hb, .nil⟩
end
end DL

set_option maxHeartbeats 4000000
namespace DL
open PySem L2 Evl PySem.Spec PyProof.Rows
/-! ### the head: classes, methods, defaults, constants, read off the heap -/
section
variable {K : PySem.W.Frag} {mg : Str → Option Value} {h : Heap} {x m qual : Str} {st : Stmt} {flds : List Str}
theorem dfAt_of {f : Addr} {dvs : List V} (h : ∃ fd, FunD K x x (defArgs st) (defBody st) (defScope st) dvs [] f fd) (g : mg x = some (.ref f)) : DefDf K mg x st dvs := by
  obtain ⟨fd, F⟩ := h
  exact ⟨f, fd, F, g⟩
theorem clsAt_of (g : mg x = some (.ref (He.ga K x))) (c : (He.Fa.cls x).ok K = true) (n : (flds.all fun f => (He.Fa.noat x f).ok K) = true) : ClsAt K mg x flds := by
  have e := gA_of g
  exact ⟨by rw [e]; exact g, by rw [e]; exact He.cls_ok c, fun f hf => by rw [e]; exact He.noat_ok (List.all_eq_true.mp n f hf)⟩
theorem iniAt_of (h : ∃ fd, FunD K "__init__" qual (defArgs st) (defBody st) (defScope st) [] [] (He.ma K (He.ga K x) "__init__") fd) (g : mg x = some (.ref (He.ga K x))) (c : (He.Fa.mkr x).ok K = true) : IniAt K mg x qual st := by
  obtain ⟨fd, F⟩ := h
  exact ⟨_, fd, F, by rw [gA_of g]; exact He.mkr_ok c⟩
theorem metAt_of (h : ∃ fd, FunD K m qual (defArgs st) (defBody st) (defScope st) [] [] (He.ma K (He.ga K x) m) fd) (g : mg x = some (.ref (He.ga K x))) (c : (He.Fa.meth x m).ok K = true) : MetAt K mg x m qual st := by
  obtain ⟨fd, F⟩ := h
  exact ⟨_, fd, F, by rw [gA_of g]; exact He.meth_ok c⟩
theorem intAt_of {i : Int} (h : ∃ t, mg x = some (.int i t)) : ConstAt mg x (.int i) := by
  obtain ⟨t, e⟩ := h
  exact ⟨_, e, t, rfl⟩
theorem strAt_of {z : Str} (h : ∃ t, mg x = some (.str z t)) : ConstAt mg x (.str z) := by
  obtain ⟨t, e⟩ := h
  exact ⟨_, e, t, rfl⟩
theorem tupAt_of {vs : List He.Dv} (g : mg x = some (.ref (He.ga K x))) (h : He.tupB K x vs = true) : TupAt K mg x (vs.map (He.Dv.v K)) := ⟨_, g, fun H => He.tupB_ok h H⟩
end
end DL

set_option maxHeartbeats 4000000
namespace DL
open PySem L2 Evl PySem.Spec PyProof.Rows PySem.W PySem.Calls
/-! ### error classes that are made as values -/
/-- an error class that keeps what it was given: made by position, by name -/
structure ErrV (P : Program) (w : World) (K : PySem.W.Frag) (mg : Str → Option Value) (base : Heap) (x fld : Str) : Prop where
  here : mg x = some (.ref (gA mg x))
  cls : OexC K (gA mg x)
  init : ∃ fI fd, findIn K (.ref (gA mg x)) "__init__" = some (some (.ref fI)) ∧ typeIn K (.ref fI) = some (.type "function") ∧ (∀ (s : Shared) (self u : Value), BindsTo s fd ⟨[self, u], []⟩ ((["self", fld] : List Str).zip [self, u])) ∧
    (∀ (s : Shared) (self u : Value), BindsTo s fd ⟨[self], [(fld, u)]⟩ ((["self", fld] : List Str).zip [self, u])) ∧ ∀ (CX : CXT) (k : Nat), FnOk P w K mg base CX (k + 1) fI fd ["self", fld] (spInit K (gA mg x) fld)
  bare : findIn K (.ref (gA mg x)) fld = some none
  mro : mroIn K (gA mg x) (.ref (gA mg x)) = some true
  sup : ks_superIn K (gA mg x) (gA mg x) "__init__" = some (some (.builtin "ValueError.__init__"))
  sub : subIn K (.ref (gA mg x)) (.type "ValueError") = some true
  xf : XfC K (gA mg x)
/-- X(e), X(f = e) as values -/
def tErrV (C : Addr) (fld : Str) (te : TE) : TE := fun σ H Q => tCons te tNil σ H fun vs H1 => ∃ v, vs = [v] ∧ ∀ e d, H1 e = none → H1 d = none → d ≠ e → Q (.ref e) (upd (upd H1 d (exd d [(fld, v)])) e (exo e C (some d)))
section
variable {X : Cx} {x fld : Str} {e : Expr} {te : TE} {p pos : Pos} {P : Program} {w : World} {K : PySem.W.Frag} {mg : Str → Option Value} {base : Heap}
theorem spInit_of (T : ErrV X.prog X.w X.K X.mg X.base x fld) {H1 : Hp} {v : V} {Q : VK} (q : ∀ e d, H1 e = none → H1 d = none → d ≠ e → Q (.ref e) (upd (upd H1 d (exd d [(fld, v)])) e (exo e (gA X.mg x) (some d)))) {a : Addr} (ha : H1 a = none) {E : XK} :
    spInit X.K (gA X.mg x) fld (.ref a :: [v]) (upd H1 a (exo a (gA X.mg x) none)) (fun u H2 => u = .non ∧ Q (.ref a) H2) E := by
  refine ⟨a, gA X.mg x, v, rfl, upd_same, T.cls, T.bare, T.mro, T.sup, T.sub, fun d hd nd => ⟨rfl, ?_⟩⟩
  rw [upd_ne nd] at hd
  have e1 : upd (upd (upd H1 a (exo a (gA X.mg x) none)) d (exd d [(fld, v)])) a (exo a (gA X.mg x) (some d)) = upd (upd H1 d (exd d [(fld, v)])) a (exo a (gA X.mg x) (some d)) := by
    funext b
    by_cases h : b = a
    · rw [h, upd_same, upd_same]
    · rw [upd_ne h, upd_ne h]
      by_cases h2 : b = d
      · rw [h2, upd_same, upd_same]
      · rw [upd_ne h2, upd_ne h2, upd_ne h]
  rw [e1]
  exact q a d ha hd nd
theorem pe_errV (T : ErrV X.prog X.w X.K X.mg X.base x fld) (hr : Room 2 X.A) (ha : PE X e te) (hg : Gl X x := by rfl) (hdb : (x == ("__debug__" : Str)) = false := by decide)
    (he : starEach [e] X.env = (false, eval e X.env) :: starEach [] X.env := by rfl) : PE X (.Call (.Name x p) [e] [] pos) (tErrV (gA X.mg x) fld te) := by
  obtain ⟨fI, fd, h1, h2, h3, _, h4⟩ := T.init
  refine ⟨fun pins s σ H Q I h => ?_⟩
  refine wpAny_Call_Name_kw (ld_glob I hg T.here ?_ hdb)
  refine PySem.W.callWith_K (h₀ := X.base) I.ok.mod.kin T.cls.kC (thn ((pa_cons ha pa_nil he).run pos pins s σ H _ I h) fun us s1 z => ?_) he rfl
  obtain ⟨vs, H1, I1, r, v, rfl, q⟩ := z
  refine ⟨I1.kIn, ?_⟩
  obtain ⟨u, rfl, ru⟩ := vals1 r
  show wpAny _ _ (PySem.call (.ref (gA X.mg x)) [u]) _ _ _
  exact run_mkV (CX := CX0) (k := 1) (kw := []) T.cls h1 h2 (h4 _ 0) hr (fun s self => h3 s self u) pass0 I1 (.cons ru .nil) (by show 1 ≤ sizeLine; decide) fun a ha => spInit_of T q ha
theorem pe_errVK (T : ErrV X.prog X.w X.K X.mg X.base x fld) (hr : Room 2 X.A) {kpos : Pos} (ha : PE X e te) (hks : (backToKw pos (keywordEach [⟨some fld, e, kpos⟩] X.env)).filterMap (·.1) = [fld] := by rfl)
    (hall : (backToKw pos (keywordEach [⟨some fld, e, kpos⟩] X.env)).all (·.1.isSome) = true := by rfl) (hg : Gl X x := by rfl) (hdb : (x == ("__debug__" : Str)) = false := by decide)
    (hpl : ((backTo pos (starEach [] X.env)).any (·.1) || (backToKw pos (keywordEach [⟨some fld, e, kpos⟩] X.env)).any (·.1.isNone)) = false := by rfl) :
    PE X (.Call (.Name x p) [] [⟨some fld, e, kpos⟩] pos) (tErrV (gA X.mg x) fld te) := by
  obtain ⟨fI, fd, h1, h2, _, h3, h4⟩ := T.init
  refine ⟨fun pins s σ H Q I h => ?_⟩
  refine wpAny_Call_Name_kw (ld_glob I hg T.here ?_ hdb)
  refine PySem.W.callWith_KW0 (h₀ := X.base) I.ok.mod.kin T.cls.kC hall ?_ hpl
  refine thn ((pk_cons (nm := some fld) (kpos := kpos) ha pk_nil).run pos pins s σ H _ I h) fun ws s1 z => ?_
  obtain ⟨vs, H1, I1, r, v, rfl, q⟩ := z
  refine ⟨I1.kIn, ?_⟩
  rw [hks]
  obtain ⟨u, rfl, ru⟩ := vals1 r
  show wpAny _ _ (PySem.call (.ref (gA X.mg x)) [] [(fld, u)]) _ _ _
  exact run_mkV (CX := CX0) (k := 1) (us := []) (kw := [(fld, u)]) T.cls h1 h2 (h4 _ 0) hr (fun s self => h3 s self u) pass0 I1 (.cons ru .nil) (by decide) fun a ha => spInit_of T q ha
end
theorem errV_of {P : Program} {w : World} {K : PySem.W.Frag} {mg : Str → Option Value} {base : Heap} {file fld x name qual : Str} {params : Arguments} {body : List Stmt} {scope : Scope} {ar : Arg} {p0 p1 p2 p3 p4 p5 p6 p7 p8 p9 : Pos} (he : errB file fld K x = true) (ho : iniObs K x = some (name, qual, params, FuncBody.stmts body, scope, mainGlobals, [("__class__" : Str)], builtinsNs)) (hm : mg x = some (.ref (He.ga K x)))
    (hbd : body = [.Expr (.Call (.Attribute (.Call (.Name "super" p0) [] [] p1) "__init__" p2) [.Name fld p3] [] p4) p5, .Assign [.Attribute (.Name "self" p6) fld p7] (.Name fld p8) p9])
    (S : SupScope "self" fld scope) (hp : (params.posonlyargs ++ params.args).head? = some ar) (har : ar.arg = "self") (hfile : ((P.main.file : Str) == file) = true) (hsm : mg "super" = none) (htop : (P.main.scope.names.lookup ("super" : Str)).isSome = false)
    (hbind : ∀ (kV doc pm : Value) (an : Option Addr) (cdv ct : Value) (cc : Addr) (self u : Value), bindArgs (PySem.W.ksFn name qual params body scope .none kV doc pm an cdv ct cc) ⟨[self, u], []⟩ = pure ((["self", fld] : List Str).zip [self, u]))
    (hbindk : ∀ (kV doc pm : Value) (an : Option Addr) (cdv ct : Value) (cc : Addr) (self u : Value), bindArgs (PySem.W.ksFn name qual params body scope .none kV doc pm an cdv ct cc) ⟨[self], [(fld, u)]⟩ = pure ((["self", fld] : List Str).zip [self, u]))
    {pl : Addr → Addr → Addr → Addr → Sem Bool} (hc : ∀ f cda cc L : Addr, eval (.Call (.Attribute (.Call (.Name "super" p0) [] [] p1) "__init__" p2) [.Name fld p3] [] p4) (PySem.W.ksEnv qual scope L f (.ref cda) cc) = (do
      let ov ← attributeBase (.Call (.Name "super" p0) [] [] p1) "__init__" (PySem.W.ksEnv qual scope L f (.ref cda) cc) (eval (.Call (.Name "super" p0) [] [] p1) (PySem.W.ksEnv qual scope L f (.ref cda) cc))
      standAt p2.atName
      let (m, first) ← holding [ov] (getMethod ov "__init__" (pl f cda cc L))
      callWith p4 m first (backTo p4 (starEach [.Name fld p3] (PySem.W.ksEnv qual scope L f (.ref cda) cc))) []))
    (hdx : (fld == ("__debug__" : Str)) = false) (hcx : (fld == ("__classdict__" : Str)) = false) : ErrV P w K mg base x fld := by
  have eg := gA_of hm
  unfold errB at he
  simp only [Bool.and_eq_true, decide_eq_true_eq] at he
  obtain ⟨h1, h2, h3, h4, h5, h6, h7, h8, h9, h10, h11, h12, h13, h14, h15, h16⟩ := he
  have T : OexC K (He.ga K x) := ⟨oexB_cls h1, He.eqO_ok h2, h3, h4, h5⟩
  constructor
  · rw [eg]; exact hm
  · rw [eg]; exact T
  · rw [eg]
    unfold codeB at h16
    unfold iniObs at ho
    cases hl : K.lookup (He.ma K (He.ga K x) "__init__") with
    | none => rw [hl] at h16; cases h16
    | some o =>
      obtain ⟨oc, od, dat, osl⟩ := o
      rw [hl] at h16 ho
      cases dat with
      | func fd =>
        simp only at h16 ho
        obtain ⟨nm, qn, pr, bdy, scp, gl, clo, dV, kV, doc, pm, an, code, ct, bl⟩ := fd
        simp only [Option.some.injEq, Prod.mk.injEq] at ho
        obtain ⟨rfl, rfl, rfl, rfl, rfl, rfl, hclo, rfl⟩ := ho
        split at h16
        · rename_i cda nc cc e1 e2 e3
          simp only at e1 e2 e3
          subst e1 e2 e3
          simp only [List.map_cons, List.map_nil, List.cons.injEq, and_true] at hclo
          subst hclo
          simp only [Bool.and_eq_true] at h16
          obtain ⟨c1, c2, c3⟩ := h16
          split at c2
          · rename_i ccl cdd vs ccs hcode
            split at c2
            · rename_i f0 tf hvs
              obtain rfl : f0 = file := by simpa using c2
              split at c3
              · rename_i cl cld D csl hcell
                obtain rfl : D = He.ga K x := by simpa using c3
                obtain ⟨cdD, hD⟩ := Option.isSome_iff_exists.mp h14
                exact ⟨_, _, He.eqO_ok h6, h7, fun s self u => .of_eq (hbind _ _ _ _ _ _ _ self u), fun s self u => .of_eq (hbindk _ _ _ _ _ _ _ self u), fun CX k => fn_super hl hbd c1 S hp har hcode hvs hfile hcell hD hsm htop (He.eqO_ok h15) (hc _ _ _) (by decide) (by decide) hdx hcx⟩
              · cases c3
            · cases c2
          · cases c2
        · cases h16
      | _ => cases h16
  · rw [eg]; exact He.eqO_ok h8
  · rw [eg]; exact h9
  · rw [eg]; exact He.eqO_ok h10
  · rw [eg]; exact h11
  · rw [eg]; exact xfB_ok h12
/-! ### what they are instances of -/
def excCB (K : PySem.W.Frag) (D : Addr) : Bool := decide (findIn K (.ref D) "__getattribute__" = some (some (.builtin "BaseException.__getattribute__"))) && (decide (findIn K (.ref D) "__getattr__" = some none) && (decide (subIn K (.ref D) (.type "BaseException") = some true) && (hasDictIn K D &&
  (decide (findIn K (.ref D) "__class__" = some (some (.builtin "object.__class__"))) && (decide (specialIn K (.builtin "object.__class__") "__get__" = some (some (.builtin "getset_descriptor.__get__"))) && (decide (takesIn K (.builtin "object.__class__") = some true) && decide (mroIn K D (.type "object") = some true)))))))
theorem excCB_ok {K : PySem.W.Frag} {D : Addr} (h : excCB K D = true) : ExcC K D := by
  unfold excCB at h
  simp only [Bool.and_eq_true, decide_eq_true_eq] at h
  obtain ⟨h1, h2, h3, h4, h5, h6, h7, h8⟩ := h
  exact ⟨h1, h2, h3, h4, h5, h6, h7, h8⟩
/-- an error class without an __init__ -/
structure Err0 (K : PySem.W.Frag) (mg : Str → Option Value) (x : Str) : Prop where
  here : mg x = some (.ref (gA mg x))
  cls : OexC K (gA mg x)
  init : findIn K (.ref (gA mg x)) "__init__" = some (some (.builtin "ValueError.__init__"))
def err0B (K : PySem.W.Frag) (x : Str) : Bool :=
  let C := He.ga K x
  oexB K C && (He.eqO (findIn K (.ref C) "__setattr__") (some (some (.builtin "object.__setattr__"))) && (decide (subIn K (.ref C) (.type "BaseException") = some true) && (decide (typeIn K (.ref C) = some (.type "type")) && (keepIn K (.ref C) &&
    He.eqO (findIn K (.ref C) "__init__") (some (some (.builtin "ValueError.__init__")))))))
theorem err0_of {K : PySem.W.Frag} {mg : Str → Option Value} {x : Str} (h : err0B K x = true) (hm : mg x = some (.ref (He.ga K x))) : Err0 K mg x := by
  have eg := gA_of hm
  unfold err0B at h
  simp only [Bool.and_eq_true, decide_eq_true_eq] at h
  obtain ⟨h1, h2, h3, h4, h5, h6⟩ := h
  exact ⟨by rw [eg]; exact hm, by rw [eg]; exact ⟨oexB_cls h1, He.eqO_ok h2, h3, h4, h5⟩, by rw [eg]; exact He.eqO_ok h6⟩
theorem pe_err0 {X : Cx} {x : Str} {p pos : Pos} (T : Err0 X.K X.mg x) (hg : Gl X x := by rfl) (hdb : (x == ("__debug__" : Str)) = false := by decide) : PE X (.Call (.Name x p) [] [] pos) (tMk0 (gA X.mg x)) := pe_mk0 T.cls T.init hg T.here hdb
/-- which of some classes an error of one of them is an instance of -/
structure ErrIs (K : PySem.W.Frag) (mg : Str → Option Value) (xs : List Str) (top : Str) (out : List String) (x : Str) : Prop where
  exc : ExcC K (gA mg x)
  one : ∀ y ∈ xs, kitOne K (.ref (gA mg x)) (.ref (gA mg y)) = some (decide (x = y))
  top : kitOne K (.ref (gA mg x)) (.ref (gA mg top)) = some true
  ve : kitOne K (.ref (gA mg x)) (.type "ValueError") = some true
  no : kitAny K (.ref (gA mg x)) (out.map Value.type) = some false
def errIsB (K : PySem.W.Frag) (xs : List Str) (top : Str) (out : List String) (x : Str) : Bool := excCB K (He.ga K x) && ((xs.all fun y => decide (kitOne K (.ref (He.ga K x)) (.ref (He.ga K y)) = some (decide (x = y)))) && (decide (kitOne K (.ref (He.ga K x)) (.ref (He.ga K top)) = some true) &&
  (decide (kitOne K (.ref (He.ga K x)) (.type "ValueError") = some true) && decide (kitAny K (.ref (He.ga K x)) (out.map Value.type) = some false))))
theorem errIs_of {K : PySem.W.Frag} {mg : Str → Option Value} {xs : List Str} {top : Str} {out : List String} {x : Str} (h : errIsB K xs top out x = true) (hx : gA mg x = He.ga K x) (ht : gA mg top = He.ga K top) (hxs : ∀ y ∈ xs, gA mg y = He.ga K y) : ErrIs K mg xs top out x := by
  unfold errIsB at h
  simp only [Bool.and_eq_true, decide_eq_true_eq] at h
  obtain ⟨h1, h2, h3, h4, h5⟩ := h
  refine ⟨by rw [hx]; exact excCB_ok h1, fun y hy => ?_, by rw [hx, ht]; exact h3, by rw [hx]; exact h4, by rw [hx]; exact h5⟩
  rw [hx, hxs y hy]
  exact of_decide_eq_true (List.all_eq_true.mp h2 y hy)
end DL

set_option maxHeartbeats 4000000
namespace K1
open PySem L2 Evl DL
def top (i : Nat) : Stmt := PySem.Challenge.pw_leastkept_k01_errors_each_of_its_own.main.body.getD i (.Pass ⟨0, 0, 0, 0⟩)
-- class KeptError : top 1
-- class InvalidText : top 2
abbrev s_InvalidText_init : Stmt := inClass (top 2) 0
-- class InvalidProgram : top 3
abbrev s_InvalidProgram_init : Stmt := inClass (top 3) 0
-- class InvalidNumber : top 4
abbrev s_InvalidNumber_init : Stmt := inClass (top 4) 0
-- class InvalidMachine : top 5
abbrev s_InvalidMachine_init : Stmt := inClass (top 5) 0
-- class InvalidCode : top 6
abbrev s_InvalidCode_init : Stmt := inClass (top 6) 0
-- class InvalidLine : top 7
abbrev s_InvalidLine_init : Stmt := inClass (top 7) 0
-- class InvalidCommand : top 8
abbrev s_InvalidCommand_init : Stmt := inClass (top 8) 0
-- class InvalidPass : top 9
abbrev s_InvalidPass_init : Stmt := inClass (top 9) 0
-- class UnknownName : top 10
abbrev s_UnknownName_init : Stmt := inClass (top 10) 0
-- class OutOfRange : top 11
abbrev s_OutOfRange_init : Stmt := inClass (top 11) 0
-- class TooMany : top 12
abbrev s_TooMany_init : Stmt := inClass (top 12) 0
-- class NotADesk : top 13
abbrev s_NotADesk_init : Stmt := inClass (top 13) 0
-- class InvalidPasses : top 14
abbrev s_InvalidPasses_init : Stmt := inClass (top 14) 0
-- class InvalidInputs : top 15
abbrev s_InvalidInputs_init : Stmt := inClass (top 15) 0
-- class InvalidWhen : top 16
abbrev s_InvalidWhen_init : Stmt := inClass (top 16) 0
-- class InvalidCells : top 17
abbrev s_InvalidCells_init : Stmt := inClass (top 17) 0
-- class InvalidRoots : top 18
abbrev s_InvalidRoots_init : Stmt := inClass (top 18) 0
-- class InvalidParts : top 19
abbrev s_InvalidParts_init : Stmt := inClass (top 19) 0
-- class InvalidChoices : top 20
abbrev s_InvalidChoices_init : Stmt := inClass (top 20) 0
-- class InvalidRows : top 21
abbrev s_InvalidRows_init : Stmt := inClass (top 21) 0
-- class Refused : top 22
abbrev s_Refused_init : Stmt := inClass (top 22) 0
-- class Endless : top 23
-- class Unlike : top 24
-- class NotUsed : top 25
-- class NothingToUndo : top 26
abbrev s_law_well : Stmt := top 28
abbrev s_law_draw : Stmt := top 29
abbrev s_law_of : Stmt := top 30
abbrev s_law_is : Stmt := top 31
abbrev s_law_given : Stmt := top 32
abbrev s_law_index : Stmt := top 33
abbrev s_law_value : Stmt := top 34
abbrev s_law_made_a : Stmt := top 35
abbrev s_law_made_b : Stmt := top 36
abbrev s_law_made : Stmt := top 37
abbrev s_law_kinds_a : Stmt := top 38
abbrev s_law_kinds_b : Stmt := top 39
abbrev s_law_is_own : Stmt := top 40
abbrev s_law_right : Stmt := top 41
abbrev s_law : Stmt := top 42
theorem scs_law_well : FnScope ["script", "lap", "stirred", "cell", "own"] ["script", "lap"] (defScope s_law_well) := ⟨rfl, rfl, rfl, by decide +kernel, rfl, by decide +kernel, by decide +kernel⟩
theorem scs_law_draw : FnScope ["well", "limit", "figure", "mixed"] ["well", "limit"] (defScope s_law_draw) := ⟨rfl, rfl, rfl, by decide +kernel, rfl, by decide +kernel, by decide +kernel⟩
theorem scs_law_of : FnScope ["well", "some"] ["well", "some"] (defScope s_law_of) := ⟨rfl, rfl, rfl, by decide +kernel, rfl, by decide +kernel, by decide +kernel⟩
theorem scs_law_is : FnScope ["told", "due"] ["told", "due"] (defScope s_law_is) := ⟨rfl, rfl, rfl, by decide +kernel, rfl, by decide +kernel, by decide +kernel⟩
theorem scs_law_given : FnScope [] [] (defScope s_law_given) := ⟨rfl, rfl, rfl, by decide +kernel, rfl, by decide +kernel, by decide +kernel⟩
theorem scs_law_index : FnScope [] [] (defScope s_law_index) := ⟨rfl, rfl, rfl, by decide +kernel, rfl, by decide +kernel, by decide +kernel⟩
theorem scs_law_value : FnScope ["well", "some"] ["well"] (defScope s_law_value) := ⟨rfl, rfl, rfl, by decide +kernel, rfl, by decide +kernel, by decide +kernel⟩
theorem scs_law_made_a : FnScope ["word", "value", "is_named"] ["word", "value", "is_named"] (defScope s_law_made_a) := ⟨rfl, rfl, rfl, by decide +kernel, rfl, by decide +kernel, by decide +kernel⟩
theorem scs_law_made_b : FnScope ["word", "value", "is_named"] ["word", "value", "is_named"] (defScope s_law_made_b) := ⟨rfl, rfl, rfl, by decide +kernel, rfl, by decide +kernel, by decide +kernel⟩
theorem scs_law_made : FnScope ["word", "value", "is_named", "found"] ["word", "value", "is_named"] (defScope s_law_made) := ⟨rfl, rfl, rfl, by decide +kernel, rfl, by decide +kernel, by decide +kernel⟩
theorem scs_law_kinds_a : FnScope ["e", "found"] ["e"] (defScope s_law_kinds_a) := ⟨rfl, rfl, rfl, by decide +kernel, rfl, by decide +kernel, by decide +kernel⟩
theorem scs_law_kinds_b : FnScope ["e", "found"] ["e"] (defScope s_law_kinds_b) := ⟨rfl, rfl, rfl, by decide +kernel, rfl, by decide +kernel, by decide +kernel⟩
theorem scs_law_is_own : FnScope ["e", "word", "others", "found"] ["e", "word"] (defScope s_law_is_own) := ⟨rfl, rfl, rfl, by decide +kernel, rfl, by decide +kernel, by decide +kernel⟩
theorem scs_law_right : FnScope ["well", "word", "is_named", "value", "e", "kept", "had"] ["well"] (defScope s_law_right) := ⟨rfl, rfl, rfl, by decide +kernel, rfl, by decide +kernel, by decide +kernel⟩
theorem scs_law : FnScope ["script", "lap"] ["script"] (defScope s_law) := ⟨rfl, rfl, rfl, by decide +kernel, rfl, by decide +kernel, by decide +kernel⟩
def giv : List Str := ["InvalidText", "InvalidProgram", "InvalidNumber", "InvalidMachine", "InvalidCode", "InvalidLine", "InvalidCommand", "InvalidPass", "UnknownName", "OutOfRange", "TooMany", "NotADesk"]
def idx : List Str := ["InvalidPasses", "InvalidInputs", "InvalidWhen", "InvalidCells", "InvalidRoots", "InvalidParts", "InvalidChoices", "InvalidRows", "Refused"]
def cls0 : List Str := ["Endless", "Unlike", "NotUsed", "NothingToUndo"]
def cls25 : List Str := giv ++ idx ++ cls0
def tabE : List (Str × Str) := giv.map (fun x => (x, ("given" : Str))) ++ idx.map (fun x => (x, ("index" : Str)))
def outs : List String := ["TypeError", "LookupError", "ArithmeticError", "AttributeError", "RuntimeError"]
structure Ers (P : Program) (w : World) (K : PySem.W.Frag) (mg : Str → Option Value) (base : Heap) : Prop where
  e : ∀ p ∈ tabE, ErrV P w K mg base p.1 p.2
structure Txt (K : PySem.W.Frag) (mg : Str → Option Value) : Prop where
  d_law_well : DefAt K mg "_law_well" s_law_well
  d_law_draw : DefAt K mg "_law_draw" s_law_draw
  d_law_of : DefAt K mg "_law_of" s_law_of
  d_law_is : DefAt K mg "_law_is" s_law_is
  d_law_given : DefAt K mg "_law_given" s_law_given
  d_law_index : DefAt K mg "_law_index" s_law_index
  d_law_value : DefAt K mg "_law_value" s_law_value
  d_law_made_a : DefAt K mg "_law_made_a" s_law_made_a
  d_law_made_b : DefAt K mg "_law_made_b" s_law_made_b
  d_law_made : DefAt K mg "_law_made" s_law_made
  d_law_kinds_a : DefAt K mg "_law_kinds_a" s_law_kinds_a
  d_law_kinds_b : DefAt K mg "_law_kinds_b" s_law_kinds_b
  d_law_is_own : DefAt K mg "_law_is_own" s_law_is_own
  d_law_right : DefAt K mg "_law_right" s_law_right
  d_law : DefAt K mg "law" s_law
  b_abs : mg "abs" = none
  b_all : mg "all" = none
  b_divmod : mg "divmod" = none
  b_int : mg "int" = none
  b_isinstance : mg "isinstance" = none
  b_len : mg "len" = none
  b_max : mg "max" = none
  b_min : mg "min" = none
  b_range : mg "range" = none
  b_repr : mg "repr" = none
  b_super : mg "super" = none
  n_TypeError : mg "TypeError" = none
  n_LookupError : mg "LookupError" = none
  n_ArithmeticError : mg "ArithmeticError" = none
  n_AttributeError : mg "AttributeError" = none
  n_RuntimeError : mg "RuntimeError" = none
  n_ValueError : mg "ValueError" = none
  n_Kept : mg "KeptError" = some (.ref (gA mg "KeptError"))
  n_cls : ∀ x ∈ cls25, mg x = some (.ref (gA mg x))
  e_is : ∀ x ∈ cls25, ErrIs K mg cls25 "KeptError" outs x
  e_0 : ∀ x ∈ cls0, Err0 K mg x
end K1

set_option maxHeartbeats 0
namespace K1
open PySem L2 Evl DL PySem.Spec PyProof.Rows
def fn : List He.DefD := [
  ⟨("_law_well", none), "_law_well", "_law_well", defArgs s_law_well, defBody s_law_well, defScope s_law_well, [], []⟩,
  ⟨("_law_draw", none), "_law_draw", "_law_draw", defArgs s_law_draw, defBody s_law_draw, defScope s_law_draw, [], []⟩,
  ⟨("_law_of", none), "_law_of", "_law_of", defArgs s_law_of, defBody s_law_of, defScope s_law_of, [], []⟩,
  ⟨("_law_is", none), "_law_is", "_law_is", defArgs s_law_is, defBody s_law_is, defScope s_law_is, [], []⟩,
  ⟨("_law_given", none), "_law_given", "_law_given", defArgs s_law_given, defBody s_law_given, defScope s_law_given, [], []⟩,
  ⟨("_law_index", none), "_law_index", "_law_index", defArgs s_law_index, defBody s_law_index, defScope s_law_index, [], []⟩,
  ⟨("_law_value", none), "_law_value", "_law_value", defArgs s_law_value, defBody s_law_value, defScope s_law_value, [], []⟩,
  ⟨("_law_made_a", none), "_law_made_a", "_law_made_a", defArgs s_law_made_a, defBody s_law_made_a, defScope s_law_made_a, [], []⟩,
  ⟨("_law_made_b", none), "_law_made_b", "_law_made_b", defArgs s_law_made_b, defBody s_law_made_b, defScope s_law_made_b, [], []⟩,
  ⟨("_law_made", none), "_law_made", "_law_made", defArgs s_law_made, defBody s_law_made, defScope s_law_made, [], []⟩,
  ⟨("_law_kinds_a", none), "_law_kinds_a", "_law_kinds_a", defArgs s_law_kinds_a, defBody s_law_kinds_a, defScope s_law_kinds_a, [], []⟩,
  ⟨("_law_kinds_b", none), "_law_kinds_b", "_law_kinds_b", defArgs s_law_kinds_b, defBody s_law_kinds_b, defScope s_law_kinds_b, [], []⟩,
  ⟨("_law_is_own", none), "_law_is_own", "_law_is_own", defArgs s_law_is_own, defBody s_law_is_own, defScope s_law_is_own, [], []⟩,
  ⟨("_law_right", none), "_law_right", "_law_right", defArgs s_law_right, defBody s_law_right, defScope s_law_right, [], []⟩,
  ⟨("law", none), "law", "law", defArgs s_law, defBody s_law, defScope s_law, [], []⟩]
def fa : List He.Fa := [
  .glo "_law_well",
  .glo "_law_draw",
  .glo "_law_of",
  .glo "_law_is",
  .glo "_law_given",
  .glo "_law_index",
  .glo "_law_value",
  .glo "_law_made_a",
  .glo "_law_made_b",
  .glo "_law_made",
  .glo "_law_kinds_a",
  .glo "_law_kinds_b",
  .glo "_law_is_own",
  .glo "_law_right",
  .glo "law",
  .free "abs",
  .free "all",
  .free "divmod",
  .free "int",
  .free "isinstance",
  .free "len",
  .free "max",
  .free "min",
  .free "range",
  .free "repr",
  .free "super",
  .free "TypeError",
  .free "LookupError",
  .free "ArithmeticError",
  .free "AttributeError",
  .free "RuntimeError",
  .free "ValueError",
  .glo "InvalidText",
  .glo "InvalidProgram",
  .glo "InvalidNumber",
  .glo "InvalidMachine",
  .glo "InvalidCode",
  .glo "InvalidLine",
  .glo "InvalidCommand",
  .glo "InvalidPass",
  .glo "UnknownName",
  .glo "OutOfRange",
  .glo "TooMany",
  .glo "NotADesk",
  .glo "InvalidPasses",
  .glo "InvalidInputs",
  .glo "InvalidWhen",
  .glo "InvalidCells",
  .glo "InvalidRoots",
  .glo "InvalidParts",
  .glo "InvalidChoices",
  .glo "InvalidRows",
  .glo "Refused"]
def chk (K : PySem.W.Frag) : Bool := allB K [
  fun K => errB PySem.Challenge.pw_leastkept_k01_errors_each_of_its_own.main.file "given" K "InvalidText",
  fun K => errB PySem.Challenge.pw_leastkept_k01_errors_each_of_its_own.main.file "given" K "InvalidProgram",
  fun K => errB PySem.Challenge.pw_leastkept_k01_errors_each_of_its_own.main.file "given" K "InvalidNumber",
  fun K => errB PySem.Challenge.pw_leastkept_k01_errors_each_of_its_own.main.file "given" K "InvalidMachine",
  fun K => errB PySem.Challenge.pw_leastkept_k01_errors_each_of_its_own.main.file "given" K "InvalidCode",
  fun K => errB PySem.Challenge.pw_leastkept_k01_errors_each_of_its_own.main.file "given" K "InvalidLine",
  fun K => errB PySem.Challenge.pw_leastkept_k01_errors_each_of_its_own.main.file "given" K "InvalidCommand",
  fun K => errB PySem.Challenge.pw_leastkept_k01_errors_each_of_its_own.main.file "given" K "InvalidPass",
  fun K => errB PySem.Challenge.pw_leastkept_k01_errors_each_of_its_own.main.file "given" K "UnknownName",
  fun K => errB PySem.Challenge.pw_leastkept_k01_errors_each_of_its_own.main.file "given" K "OutOfRange",
  fun K => errB PySem.Challenge.pw_leastkept_k01_errors_each_of_its_own.main.file "given" K "TooMany",
  fun K => errB PySem.Challenge.pw_leastkept_k01_errors_each_of_its_own.main.file "given" K "NotADesk",
  fun K => errB PySem.Challenge.pw_leastkept_k01_errors_each_of_its_own.main.file "index" K "InvalidPasses",
  fun K => errB PySem.Challenge.pw_leastkept_k01_errors_each_of_its_own.main.file "index" K "InvalidInputs",
  fun K => errB PySem.Challenge.pw_leastkept_k01_errors_each_of_its_own.main.file "index" K "InvalidWhen",
  fun K => errB PySem.Challenge.pw_leastkept_k01_errors_each_of_its_own.main.file "index" K "InvalidCells",
  fun K => errB PySem.Challenge.pw_leastkept_k01_errors_each_of_its_own.main.file "index" K "InvalidRoots",
  fun K => errB PySem.Challenge.pw_leastkept_k01_errors_each_of_its_own.main.file "index" K "InvalidParts",
  fun K => errB PySem.Challenge.pw_leastkept_k01_errors_each_of_its_own.main.file "index" K "InvalidChoices",
  fun K => errB PySem.Challenge.pw_leastkept_k01_errors_each_of_its_own.main.file "index" K "InvalidRows",
  fun K => errB PySem.Challenge.pw_leastkept_k01_errors_each_of_its_own.main.file "index" K "Refused",
  fun K => cls25.all fun x => (He.Fa.glo x).ok K,
  fun K => (He.Fa.glo "KeptError").ok K,
  fun K => cls25.all fun x => errIsB K cls25 "KeptError" outs x,
  fun K => cls0.all fun x => err0B K x]
def ers : List Str := ["InvalidText", "InvalidProgram", "InvalidNumber", "InvalidMachine", "InvalidCode", "InvalidLine", "InvalidCommand", "InvalidPass", "UnknownName", "OutOfRange", "TooMany", "NotADesk", "InvalidPasses", "InvalidInputs", "InvalidWhen", "InvalidCells", "InvalidRoots", "InvalidParts", "InvalidChoices", "InvalidRows", "Refused"]
def iniV : List IniV := [some ("__init__", "InvalidText.__init__", defArgs s_InvalidText_init, FuncBody.stmts (defBody s_InvalidText_init), defScope s_InvalidText_init, mainGlobals, [("__class__" : Str)], builtinsNs), some ("__init__", "InvalidProgram.__init__", defArgs s_InvalidProgram_init, FuncBody.stmts (defBody s_InvalidProgram_init), defScope s_InvalidProgram_init, mainGlobals, [("__class__" : Str)], builtinsNs), some ("__init__", "InvalidNumber.__init__", defArgs s_InvalidNumber_init, FuncBody.stmts (defBody s_InvalidNumber_init), defScope s_InvalidNumber_init, mainGlobals, [("__class__" : Str)], builtinsNs), some ("__init__", "InvalidMachine.__init__", defArgs s_InvalidMachine_init, FuncBody.stmts (defBody s_InvalidMachine_init), defScope s_InvalidMachine_init, mainGlobals, [("__class__" : Str)], builtinsNs), some ("__init__", "InvalidCode.__init__", defArgs s_InvalidCode_init, FuncBody.stmts (defBody s_InvalidCode_init), defScope s_InvalidCode_init, mainGlobals, [("__class__" : Str)], builtinsNs), some ("__init__", "InvalidLine.__init__", defArgs s_InvalidLine_init, FuncBody.stmts (defBody s_InvalidLine_init), defScope s_InvalidLine_init, mainGlobals, [("__class__" : Str)], builtinsNs), some ("__init__", "InvalidCommand.__init__", defArgs s_InvalidCommand_init, FuncBody.stmts (defBody s_InvalidCommand_init), defScope s_InvalidCommand_init, mainGlobals, [("__class__" : Str)], builtinsNs), some ("__init__", "InvalidPass.__init__", defArgs s_InvalidPass_init, FuncBody.stmts (defBody s_InvalidPass_init), defScope s_InvalidPass_init, mainGlobals, [("__class__" : Str)], builtinsNs), some ("__init__", "UnknownName.__init__", defArgs s_UnknownName_init, FuncBody.stmts (defBody s_UnknownName_init), defScope s_UnknownName_init, mainGlobals, [("__class__" : Str)], builtinsNs), some ("__init__", "OutOfRange.__init__", defArgs s_OutOfRange_init, FuncBody.stmts (defBody s_OutOfRange_init), defScope s_OutOfRange_init, mainGlobals, [("__class__" : Str)], builtinsNs), some ("__init__", "TooMany.__init__", defArgs s_TooMany_init, FuncBody.stmts (defBody s_TooMany_init), defScope s_TooMany_init, mainGlobals, [("__class__" : Str)], builtinsNs), some ("__init__", "NotADesk.__init__", defArgs s_NotADesk_init, FuncBody.stmts (defBody s_NotADesk_init), defScope s_NotADesk_init, mainGlobals, [("__class__" : Str)], builtinsNs), some ("__init__", "InvalidPasses.__init__", defArgs s_InvalidPasses_init, FuncBody.stmts (defBody s_InvalidPasses_init), defScope s_InvalidPasses_init, mainGlobals, [("__class__" : Str)], builtinsNs), some ("__init__", "InvalidInputs.__init__", defArgs s_InvalidInputs_init, FuncBody.stmts (defBody s_InvalidInputs_init), defScope s_InvalidInputs_init, mainGlobals, [("__class__" : Str)], builtinsNs), some ("__init__", "InvalidWhen.__init__", defArgs s_InvalidWhen_init, FuncBody.stmts (defBody s_InvalidWhen_init), defScope s_InvalidWhen_init, mainGlobals, [("__class__" : Str)], builtinsNs), some ("__init__", "InvalidCells.__init__", defArgs s_InvalidCells_init, FuncBody.stmts (defBody s_InvalidCells_init), defScope s_InvalidCells_init, mainGlobals, [("__class__" : Str)], builtinsNs), some ("__init__", "InvalidRoots.__init__", defArgs s_InvalidRoots_init, FuncBody.stmts (defBody s_InvalidRoots_init), defScope s_InvalidRoots_init, mainGlobals, [("__class__" : Str)], builtinsNs), some ("__init__", "InvalidParts.__init__", defArgs s_InvalidParts_init, FuncBody.stmts (defBody s_InvalidParts_init), defScope s_InvalidParts_init, mainGlobals, [("__class__" : Str)], builtinsNs), some ("__init__", "InvalidChoices.__init__", defArgs s_InvalidChoices_init, FuncBody.stmts (defBody s_InvalidChoices_init), defScope s_InvalidChoices_init, mainGlobals, [("__class__" : Str)], builtinsNs), some ("__init__", "InvalidRows.__init__", defArgs s_InvalidRows_init, FuncBody.stmts (defBody s_InvalidRows_init), defScope s_InvalidRows_init, mainGlobals, [("__class__" : Str)], builtinsNs), some ("__init__", "Refused.__init__", defArgs s_Refused_init, FuncBody.stmts (defBody s_Refused_init), defScope s_Refused_init, mainGlobals, [("__class__" : Str)], builtinsNs)]
abbrev R : PySem.W.OpenRow := PySem.W.OpenLaw.row PySem.Challenge.rw_leastkept_k01_errors_each_of_its_own
abbrev hk : PySem.W.Hook := hookY 5 fa fn chk ers iniV
def ob (s : PySem.W.SharedT) : AlY := obsY 5 fa fn chk ers (HandSHeadRun.getT s)
theorem ob_eq (s : PySem.W.SharedT) : ob s = hk.obs s.abs := obsY_eq (HandSHeadRun.getT_eq s)
def loose : List Str := [("KeptError" : Str), ("InvalidText" : Str), ("InvalidProgram" : Str), ("InvalidNumber" : Str), ("InvalidMachine" : Str), ("InvalidCode" : Str), ("InvalidLine" : Str), ("InvalidCommand" : Str), ("InvalidPass" : Str), ("UnknownName" : Str), ("OutOfRange" : Str), ("TooMany" : Str), ("NotADesk" : Str), ("InvalidPasses" : Str), ("InvalidInputs" : Str), ("InvalidWhen" : Str), ("InvalidCells" : Str), ("InvalidRoots" : Str), ("InvalidParts" : Str), ("InvalidChoices" : Str), ("InvalidRows" : Str), ("Refused" : Str), ("Endless" : Str), ("Unlike" : Str), ("NotUsed" : Str), ("NothingToUndo" : Str), ("_law_well" : Str), ("_law_draw" : Str), ("_law_of" : Str), ("_law_is" : Str), ("_law_given" : Str), ("_law_index" : Str), ("_law_value" : Str), ("_law_made_a" : Str), ("_law_made_b" : Str), ("_law_made" : Str), ("_law_kinds_a" : Str), ("_law_kinds_b" : Str), ("_law_is_own" : Str), ("_law_right" : Str)]
theorem run (w : World) : HandSHeadRun.RunEq R (PySem.W.view R.prog [42]) hk ob 12000 loose w := by
  intro os
  kernel_rfl
end K1

set_option maxHeartbeats 0
namespace K1
open PySem PySem.W PySem.Calls PyProof.Rows
abbrev qL : Program := view R.prog [42]
abbrev dL : DefRec := HandSHeadRun.topDef R.prog 42
theorem h_open : opening R.prog = plainProg R.prog.main.scope.names := by kernel_rfl
theorem h_fence : ∀ s, fenceModules? R.prog s = some s := fun s => by kernel_rfl
theorem h_def : defOf qL R.name = some (dL, []) := by kernel_rfl
theorem h_the : R.prog.theDef R.name = some (dL.params, dL.body, dL.scope) := by kernel_rfl
theorem h_kw : kwWritten? dL.params.kwonlyargs dL.params.kw_defaults = some [] := by kernel_rfl
theorem h_ok : (chainsOk qL && opensWell R.prog && (frees R.toRowW && R.within.isEmpty)) = true := by decide +kernel
theorem h_bare : R.prog.bare := ⟨rfl, rfl, rfl, rfl, rfl, by decide +kernel⟩
theorem h_said : R.wellSaid = true := by decide +kernel
theorem h_wit : R.toRowW.promised := by w_witness2
theorem h_name : dL.name = ("law" : PySem.Str) := by kernel_rfl
theorem h_dfl : dL.params.defaults = [] := by kernel_rfl
theorem h_room : L2.Room 6 callerA := ⟨rfl, by decide, by decide⟩
theorem holds_of (c : WalkO qL loose (XL qL []) hk.says R.toRowW dL [] fun f vs => PySem.call f vs) : PySem.Challenge.rw_leastkept_k01_errors_each_of_its_own.Holds := by
  w_on; o_law
  exact HandSHeadRun.head_any (r := R) (q := qL) (H := hk) (ob := ob) (M := 12000) (loose := loose) (d := dL) (kwd := []) ob_eq h_open h_fence run h_def h_the h_kw (by rfl) h_said h_ok h_bare h_wit c
end K1

set_option maxHeartbeats 4000000
namespace K1
open PySem L2 Evl DL
section
variable {P : Program} {w : World} {K : PySem.W.Frag} {mg : Str → Option Value} {base : Heap} {CX : CXT}
/-! ### draws -/
def Pail (H : Hp) (p : Addr) : Prop := ∃ a b c : Int, H p = some (.lst [.int a, .int b, .int c])
def spDeal : Sp := fun vs H Q _ => ∃ p top, vs = [.ref p, .int top] ∧ Pail H p ∧ 0 < top ∧ top < 1073741824 ∧
  ∀ k H', 0 ≤ k → k < top → Kp [p] H H' → Pail H' p → Q (.int k) H'
theorem bd_deal : BindP "_law_draw" s_law_draw ["well", "limit"] := fun _ _ _ _ _ _ us hl => match us, hl with | [_, _], _ => rfl
theorem ok_deal (T : Txt K mg) : DefOk P w K mg base CX false 1 "_law_draw" s_law_draw ["well", "limit"] spDeal := by
  refine T.d_law_draw.ok scs_law_draw (fun vs H Q E h => ?_) (fun f cdv A outer s H vs Q E hr h => ?_)
  · obtain ⟨p, top, rfl, _⟩ := h
    rfl
  · obtain ⟨p, top, rfl, ⟨a, b, c, hp⟩, h0, h1, k⟩ := h
    have nd := scs_law_draw.nd
    refine ⟨_, pss_cons (ps_if (pt_cmpR op_gt (pe_ix ix_list (pv 0) pe_int (fun _ _ => rfl)) pe_int (nomark _))
        (pss_cons (ps_asg (pe_callB call_divmodW (by rfl) T.b_divmod (by decide +kernel) (pa_cons (pe_ix ix_list (pv 0) pe_int (fun _ _ => rfl)) (pa_cons (pv 1) pa_nil))) (pg_tup (by rfl) (pgs_cons (pg_sub (pv 0) pe_int set_list) (pgs_cons (pg_name (i := 2) nd rfl (.inl rfl)) pgs_nil))))
        (pss_one (ps_ret (pv 2)))) pss_nil)
      (pss_cons (ps_asg (pe_op op_add (pe_ix ix_list (pv 0) pe_int (fun _ _ => rfl)) pe_int) (pg_sub (pv 0) pe_int set_list))
      (pss_cons (ps_set (i := 3) nd rfl (.inl rfl) (pe_op op_mod (pe_callTy call_int1 (by rfl) T.b_int (by decide +kernel) (pa_cons (pe_op op_add (pe_op op_mul (pe_ix ix_list (pv 0) pe_int (fun _ _ => rfl)) pe_int) (pe_op op_mul pe_int (pe_ix ix_list (pv 0) pe_int (fun _ _ => rfl)))) pa_nil)) pe_int))
      (pss_cons (ps_asg (pe_op op_mod (pe_callTy call_int1 (by rfl) T.b_int (by decide +kernel) (pa_cons (pe_op op_add (pe_op op_mul (pv 3) (pe_op op_add (pe_op op_mod (pe_callTy call_int1 (by rfl) T.b_int (by decide +kernel) (pa_cons (pv 3) pa_nil)) pe_int) pe_int)) (pe_ix ix_list (pv 0) pe_int (fun _ _ => rfl))) pa_nil)) pe_int) (pg_sub (pv 0) pe_int set_list))
      (pss_one (ps_ret (pe_op op_mod (pe_callTy call_int1 (by rfl) T.b_int (by decide +kernel) (pa_cons (pe_op op_fdiv (pe_ix ix_list (pv 0) pe_int (fun _ _ => rfl)) pe_int) pa_nil)) (pv 1))))))), ?_⟩
    have at0 : ∀ {x y z : V}, atI [x, y, z] 0 = some x := rfl
    have at1 : ∀ {x y z : V}, atI [x, y, z] 1 = some y := rfl
    have at2 : ∀ {x y z : V}, atI [x, y, z] 2 = some z := rfl
    refine ⟨_, rfl, p, _, 0, _, rfl, rfl, sq_of hp, at0, _, _, rfl, rfl, _, rfl, ?_⟩
    refine ite2 (fun hc => ?_) (fun hc => ?_)
    · -- from the figures
      refine ⟨_, rfl, p, _, 0, _, rfl, rfl, sq_of hp, at0, _, rfl, a, top, rfl, ⟨h0, pylong_small h0 h1⟩, fun q hq => ?_⟩
      have npq : p ≠ q := ne_of_none hp hq
      refine ⟨q, _, rfl, st_of upd_same, rfl, _, _, rfl, ?_⟩
      refine ⟨_, rfl, p, _, 0, 0, rfl, rfl, (by rw [upd_ne npq]; exact hp), rfl, _, _, rfl, rfl, _, rfl, ?_⟩
      refine k _ _ (Int.emod_nonneg _ (by omega)) (Int.emod_lt_of_pos _ h0) ((Kp.new hq).upd (by simp)) ⟨_, _, _, upd_same⟩
    · refine ⟨_, rfl, p, _, 2, _, rfl, rfl, sq_of hp, at2, _, _, rfl, rfl, _, rfl, p, _, 2, 2, rfl, rfl, hp, rfl, ?_⟩
      have h2 : (upd H p (.lst [.int a, .int b, .int (c + 1)])) p = some (.lst [.int a, .int b, .int (c + 1)]) := upd_same
      have m0 : 0 ≤ (b * 40009 + 15013 * (c + 1)) % 2147483629 ∧ (b * 40009 + 15013 * (c + 1)) % 2147483629 < 2147483629 := ⟨Int.emod_nonneg _ (by decide), Int.emod_lt_of_pos _ (by decide)⟩
      have r0 : 0 ≤ (b * 40009 + 15013 * (c + 1)) % 2147483629 % 5003 ∧ (b * 40009 + 15013 * (c + 1)) % 2147483629 % 5003 < 5003 := ⟨Int.emod_nonneg _ (by decide), Int.emod_lt_of_pos _ (by decide)⟩
      refine ⟨_, rfl, p, _, 1, _, rfl, rfl, sq_of h2, at1, _, _, rfl, rfl, .inr (by decide), _, rfl, p, _, 2, _, rfl, rfl, sq_of h2, at2, _, _, rfl, rfl, .inl (by decide), _, _, rfl, rfl, .inl ⟨_, rfl, _, _, rfl, rfl, (by show (0 : Int) < 2147483629; decide), ?_⟩⟩
      refine ⟨_, rfl, _, rfl, .inl ⟨_, rfl, _, _, rfl, rfl, (by show (0 : Int) < 5003; decide), _, _, rfl, rfl, _, _, rfl, rfl, .inl ⟨by omega, by omega⟩, _, rfl, p, _, 2, _, rfl, rfl, sq_of h2, at2, _, _, rfl, rfl, .inl ⟨_, rfl, _, _, rfl, rfl, (by show (0 : Int) < 2147483629; decide), ?_⟩⟩⟩
      refine ⟨_, rfl, p, _, 1, 1, rfl, rfl, h2, rfl, ?_⟩
      refine ⟨_, rfl, p, _, 1, _, rfl, rfl, sq_of upd_same, rfl, _, _, rfl, rfl, ⟨by decide, by decide⟩, .inl ⟨_, rfl, _, rfl, _, _, rfl, rfl, h0, ?_⟩⟩
      exact k _ _ (Int.emod_nonneg _ (by omega)) (Int.emod_lt_of_pos _ h0) (((Kp.refl H).upd (by simp)).upd (by simp)) ⟨_, _, _, upd_same⟩

def spAny (K : PySem.W.Frag) : Sp := fun vs H Q _ => ∃ p q xs, vs = [.ref p, .ref q] ∧ Pail H p ∧ q ≠ p ∧ (SqL K H q xs ∨ SqT K H q xs) ∧ 0 < xs.length ∧ xs.length < 1000000 ∧
  ∀ (i : Nat) x H', xs[i]? = some x → Kp [p] H H' → Pail H' p → Q x H'
theorem bd_any : BindP "_law_of" s_law_of ["well", "some"] := fun _ _ _ _ _ _ us hl => match us, hl with | [_, _], _ => rfl
theorem ok_any (T : Txt K mg) : DefOk P w K mg base CX0 false 2 "_law_of" s_law_of ["well", "some"] (spAny K) := by
  refine T.d_law_of.ok scs_law_of (fun vs H Q E h => ?_) (fun f cdv A outer s H vs Q E hr h => ?_)
  · obtain ⟨p, top, xs, rfl, _⟩ := h
    rfl
  · obtain ⟨p, q, xs, rfl, hp, hne, hq, h0, h1, k⟩ := h
    refine ⟨_, pss_one (ps_ret (pe_ix (ix_list.or ix_tup) (pv 1) (pe_callD (ok_deal T) hr (.inl rfl) bd_deal pass0 (pa_cons (pv 0) (pa_cons (pe_callB call_len_seq (by rfl) T.b_len PySem.boot_len (pa_cons (pv 1) pa_nil)) pa_nil))) (fun _ _ => rfl))), ?_⟩
    refine ⟨_, rfl, _, rfl, _, rfl, q, xs, rfl, hq, p, (xs.length : Int), rfl, hp, by omega, by omega, fun j H1 j0 j1 kp hp1 => ?_⟩
    have hn : q ∉ ([p] : List Addr) := by simpa using hne
    obtain ⟨n, rfl⟩ : ∃ n : Nat, j = (n : Int) := ⟨j.toNat, by omega⟩
    have hlt : n < xs.length := by omega
    have hx : xs[n]? = some xs[n] := List.getElem?_eq_getElem hlt
    rcases hq with hq | hq
    · exact .inl ⟨q, xs, _, _, rfl, rfl, kp_l kp hn hq, atI_nat hx, k n _ H1 hx kp hp1⟩
    · exact .inr ⟨q, xs, _, _, rfl, rfl, kp_t kp hn hq, atI_nat hx, k n _ H1 hx kp hp1⟩
def spPail (K : PySem.W.Frag) : Sp := fun vs H Q _ => ∃ (a : Addr) (ns : List Int) (t : Nat), vs = [.ref a, .int (t : Int)] ∧ SqL K H a (ns.map V.int) ∧ ns.length ≤ 1000 ∧
  ∀ p H', H p = none → Ex H H' → Pail H' p → Q (.ref p) H'
theorem bd_pail : BindP "_law_well" s_law_well ["script", "lap"] := fun _ _ _ _ _ _ us hl => match us, hl with | [_, _], _ => rfl
theorem ok_pail (T : Txt K mg) : DefOk P w K mg base CX0 false 1 "_law_well" s_law_well ["script", "lap"] (spPail K) := by
  refine T.d_law_well.ok scs_law_well (fun vs H Q E h => ?_) (fun f cdv A outer s H vs Q E hr h => ?_)
  · obtain ⟨a, ns, t, rfl, _⟩ := h
    rfl
  · obtain ⟨a, ns, t, rfl, hS, hlen, k⟩ := h
    have nd := scs_law_well.nd
    refine ⟨_, pss_cons (ps_set (i := 2) nd rfl (.inl rfl) (pe_op op_add pe_int (pe_op op_mul pe_int (pv 1))))
      (pss_cons (ps_for PassesOwn.never rfl (pi_list (pe_slice sl_list (pv 0) po_none (po_some pe_int))) (pg_name (i := 3) nd rfl (.inl rfl))
        (pss_one (ps_set (i := 2) nd rfl (.inl rfl) (pe_op op_mod (pe_callTy call_int1 (by rfl) T.b_int (by decide +kernel) (pa_cons (pe_op op_add (pe_op op_add (pe_op op_mul (pv 2) pe_int) (pe_op op_mod (pe_callTy call_int1 (by rfl) T.b_int (by decide +kernel) (pa_cons (pv 3) pa_nil)) pe_int)) pe_int) pa_nil)) pe_int))))
      (pss_cons (ps_set (i := 4) nd rfl (.inl rfl) (pe_ifExp (pt_cmpR op_lt (pv 1) (pe_callB call_len_seq (by rfl) T.b_len PySem.boot_len (pa_cons (pv 0) pa_nil)) (nomark _)) (pe_callTy call_int1 (by rfl) T.b_int (by decide +kernel) (pa_cons (pe_ix ix_list (pv 0) (pv 1) (fun _ _ => rfl)) pa_nil)) pe_int))
      (pss_cons (ps_set (i := 2) nd rfl (.inl rfl) (pe_op op_mod (pe_callTy call_int1 (by rfl) T.b_int (by decide +kernel) (pa_cons (pe_op op_add (pe_op op_add (pe_op op_mul (pv 2) pe_int) (pe_op op_mul (pe_op op_mod (pe_callTy call_int1 (by rfl) T.b_int (by decide +kernel) (pa_cons (pv 4) pa_nil)) pe_int) pe_int)) pe_int) pa_nil)) pe_int))
      (pss_one (ps_ret (pe_lst (pa_cons (pe_ifExp (PW.pt (pw_or (pt_cmpR op_lt (pv 4) pe_int (nomark _)) (pw_or1 (pt_cmpR op_ge (pv 4) (pe_op op_pow pe_int pe_int) (nomark _))))) (pe_callB call_abs (by rfl) T.b_abs (by decide +kernel) (pa_cons (pv 4) pa_nil)) pe_int) (pa_cons (pv 2) (pa_cons pe_int pa_nil))))))))), ?_⟩
    refine ⟨_, rfl, _, _, rfl, rfl, .inl (by decide), _, _, rfl, rfl, ?_⟩
    refine ⟨_, rfl, _, rfl, a, _, rfl, hS, fun c hc => ⟨c, rfl, ⟨_, sq_of upd_same⟩, ?_⟩⟩
    have e1 : Ex H (upd H c (.lst (cutV (ns.map V.int) none (some 9)))) := Ex.new hc
    refine for_list (K := K) (a := c) (xs := cutV (ns.map V.int) none (some 9)) (fun i σ H' => ∃ (m : Int) (y : Option V), σ = [some (.ref a), some (.int (t : Int)), some (.int m), y, none] ∧ Ex (upd H c (.lst (cutV (ns.map V.int) none (some 9)))) H')
      ⟨_, none, rfl, Ex.refl _⟩ (fun i σ H' _ z => ?_) ?_ ?_
    · obtain ⟨m, y, _, e⟩ := z
      exact ex_l e (sq_of upd_same)
    · rintro i y σ H' hi ⟨m, y', rfl, e⟩
      have hy : y ∈ ns.map V.int := by
        have hm := List.mem_of_getElem? hi
        unfold cutV at hm
        exact List.mem_of_mem_drop (List.mem_of_mem_take hm)
      obtain ⟨z, _, rfl⟩ := List.mem_map.mp hy
      refine ⟨_, rfl, _, _, rfl, rfl, .inr (by decide), _, rfl, .inl ⟨_, rfl, _, _, rfl, rfl, (by show (0 : Int) < 2147483549; decide), _, _, rfl, rfl, _, _, rfl, rfl, .inl ⟨_, rfl, _, _, rfl, rfl, (by show (0 : Int) < 2147483629; decide), ?_⟩⟩⟩
      exact ⟨_, _, rfl, e⟩
    · rintro σ H' ⟨m, y', rfl, e⟩
      have hS' : SqL K H' a (ns.map V.int) := ex_l (e1.trans e) hS
      have tail : ∀ own : Int, (tSeq (tAsg (tOp (rI (fun _ j => 0 < j) fun i j => .int (i % j)) (tCB (fun xs H Q => (∃ i, xs = [.int i] ∧ Q (.int i) H) ∨ ∃ k, xs = [.bl k] ∧ Q (.int (if k then 1 else 0)) H) (tCons (tOp (rI0 fun i j => .int (i + j)) (tOp (rI0 fun i j => .int (i + j)) (tOp (rI CMul fun i j => .int (i * j)) (tVar 2) (tC (.int 61))) (tOp (rI CMul fun i j => .int (i * j)) (tOp (rI (fun _ j => 0 < j) fun i j => .int (i % j)) (tCB (fun xs H Q => (∃ i, xs = [.int i] ∧ Q (.int i) H) ∨ ∃ k, xs = [.bl k] ∧ Q (.int (if k then 1 else 0)) H) (tCons (tVar 4) tNil)) (tC (.int 2147483549))) (tC (.int 16007)))) (tC (.int 17))) tNil)) (tC (.int 2147483629))) (gName 2))
          (tRet (tLst (tCons (tIf (tOr (tTest (tOp (rI0 fun i j => .bl (decide (i < j))) (tVar 4) (tC (.int 0)))) (tTest (tOp (rI0 fun i j => .bl (decide (j ≤ i))) (tVar 4) (tOp (rI CPow fun i j => .int (i ^ j.toNat)) (tC (.int 10)) (tC (.int 15)))))) (tCB (fun xs H Q => ∃ i, xs = [.int i] ∧ Q (.int (if i < 0 then -i else i)) H) (tCons (tVar 4) tNil)) (tC (.int 0))) (tCons (tVar 2) (tCons (tC (.int 0)) tNil))))))
          { nx := fun _ H' => Q .non H', rt := Q } [some (.ref a), some (.int (t : Int)), some (.int m), y', some (.int own)] H' := by
        intro own
        refine ⟨_, rfl, _, _, rfl, rfl, .inr (by decide), _, rfl, .inl ⟨_, rfl, _, _, rfl, rfl, (by show (0 : Int) < 2147483549; decide), _, _, rfl, rfl, .inr (by decide), _, _, rfl, rfl, _, _, rfl, rfl, .inl ⟨_, rfl, _, _, rfl, rfl, (by show (0 : Int) < 2147483629; decide), ?_⟩⟩⟩
        have fin : ∀ x z : Int, (Nat.succ 2) ≤ sizeLine ∧ ∀ p, H' p = none → Q (.ref p) (upd H' p (.lst [.int x, .int z, .int 0])) := fun x z => ⟨by decide, fun p hp => k p _ (fresh_back (e1.trans e) hp) ((e1.trans e).trans (Ex.new hp)) ⟨_, _, _, upd_same⟩⟩
        refine ⟨_, rfl, _, _, rfl, rfl, _, rfl, ite2 (fun _ => ?_) (fun _ => ?_)⟩
        · exact ⟨_, rfl, _, rfl, _, rfl, fin _ _⟩
        · refine ⟨_, rfl, _, _, rfl, rfl, ⟨by decide, by decide, by decide⟩, _, _, rfl, rfl, _, rfl, ite2 (fun _ => ?_) (fun _ => ?_)⟩
          · exact ⟨_, rfl, _, rfl, _, rfl, fin _ _⟩
          · exact ⟨_, rfl, fin _ _⟩
      refine ⟨_, rfl, _, rfl, a, _, rfl, .inl hS', _, _, rfl, rfl, _, rfl, ite2 (fun hc => ?_) (fun _ => ?_)⟩
      · have hlt : t < (ns.map V.int).length := by
          have : (t : Int) < ((ns.map V.int).length : Int) := of_decide_eq_true hc
          omega
        have hx : (ns.map V.int)[t]? = some (.int (ns[t]'(by simpa using hlt))) := by
          rw [List.getElem?_map, List.getElem?_eq_getElem (by simpa using hlt)]
          rfl
        exact ⟨_, rfl, _, rfl, a, _, _, _, rfl, rfl, hS', atI_nat hx, .inl ⟨_, rfl, tail _⟩⟩
      · exact tail 0
end
end K1

set_option maxHeartbeats 400000
namespace DL
open PySem L2 Evl PySem.Spec PyProof.Rows
/-! ### repr of data, of a small dict -/
def RvD (K : PySem.W.Frag) (H : Hp) (v : V) (d : PyData) : Prop := Dp K H v d ∨ (∃ a, v = .ref a ∧ H a = some (.dK []) ∧ d = .dict []) ∨ (∃ (a : Addr) (x : Str) (i : Int), v = .ref a ∧ H a = some (.dK [(Sum.inr x, .int i)]) ∧ d = .dict [(.str x, .int i)])
theorem rvd_ex {K : PySem.W.Frag} {H H' : Hp} {v : V} {d : PyData} (e : Ex H H') (h : RvD K H v d) : RvD K H' v d := by
  rcases h with h | ⟨a, rfl, h, rfl⟩ | ⟨a, x, i, rfl, h, rfl⟩
  · exact .inl (dp_ex e h)
  · exact .inr (.inl ⟨a, rfl, e a _ h, rfl⟩)
  · exact .inr (.inr ⟨a, x, i, rfl, e a _ h, rfl⟩)
section
variable {X : Cx} {k : Nat}
theorem call_reprV (hgd : X.A.guards = some []) (hr : Room k X.A) : CallR X (.builtin "repr") (fun xs H Q => ∃ v d, xs = [v] ∧ RvD X.K H v d ∧ Shows d ∧ Q (.str d.shown) H) := by
  intro pins s σ H xs us Q I r h
  obtain ⟨v, d, rfl, hd, hs, q⟩ := h
  have hun := hr.un
  rcases hd with hd | ⟨a, rfl, ha, rfl⟩ | ⟨a, x, i, rfl, ha, rfl⟩
  · exact call_reprD hgd hr pins s σ H _ us Q I r ⟨v, d, rfl, hd, hs, q⟩
  · obtain ⟨u, rfl, rv⟩ := vals1 r
    obtain rfl : u = Value.ref a := rv
    obtain ⟨_, hsm, vs, kv, o, es, ep, e1, ex, e2, _, pr, _⟩ := I.hok a _ ha
    cases kv
    have he : es.toList = [] := by
      generalize es.toList = l at pr
      cases pr
      rfl
    have rd : Reads s.heap (.ref a) (.dict []) (a :: [] ++ []) := Reads.dict (as := []) (bs := []) e1 ex.1 e2 (by rw [he]; exact .nil) (by rw [he]; exact .nil)
    refine repr_of_reads' rd hs.ok (fun _ hm => ?_) hgd (by have := hs.deep; omega) (fun _ _ z => z) (fun h' u' tk kp => ⟨.str _, H, I.kept kp, ⟨_, rfl⟩, q⟩) (hsz := hs.fits)
    simp at hm
    exact absurd hm.symm (beq_eq_false_iff_ne.mp hsm)
  · obtain ⟨u, rfl, rv⟩ := vals1 r
    obtain rfl : u = Value.ref a := rv
    obtain ⟨_, hsm, vs, kv, o, es, ep, e1, ex, e2, _, pr, _⟩ := I.hok a _ ha
    cases kv with
    | @cons _ q0 _ _ hk kv =>
      cases kv
      obtain ⟨kk, vv⟩ := q0
      obtain ⟨hk1, hk2⟩ := hk
      dsimp only at hk1 hk2
      subst hk1
      obtain ⟨t, rfl⟩ := hk2
      have he : ∃ e t2, es.toList = [e] ∧ e.key = .str x t2 ∧ e.val = .int i t := by
        generalize es.toList = l at pr
        cases pr with
        | @cons e _ es0 _ p1 p2 p3 =>
          cases p3
          rcases keyIs_shape (k := Sum.inr x) (v := e.key) p1 with ⟨j, t2, z, _⟩ | ⟨y, t2, z, z2⟩
          · cases z
          · cases z
            exact ⟨e, t2, rfl, z2, p2⟩
      obtain ⟨e, t2, he, hek, hev⟩ := he
      have rd : Reads s.heap (.ref a) (.dict [(.str x, .int i)]) (a :: ([] ++ []) ++ ([] ++ [])) := Reads.dict (as := [] ++ []) (bs := [] ++ []) e1 ex.1 e2
        (by rw [he]; show ReadsAll _ [e.key] [.str x] _; rw [hek]; exact .cons (.str _ _) .nil) (by rw [he]; show ReadsAll _ [e.val] [.int i] _; rw [hev]; exact .cons (.int _ _) .nil)
      refine repr_of_reads' rd hs.ok (fun _ hm => ?_) hgd (by have := hs.deep; omega) (fun _ _ z => z) (fun h' u' tk kp => ⟨.str _, H, I.kept kp, ⟨_, rfl⟩, q⟩) (hsz := hs.fits)
      simp at hm
      exact absurd hm.symm (beq_eq_false_iff_ne.mp hsm)
end
/-! ### displays of such data, beside an object that changes -/
def EvP (K : PySem.W.Frag) (te : TE) (σ : L2.St) (D : Addr) (d : PyData) : Prop := ∀ H' : Hp, H' D ≠ none → ∀ Q : VK, (∀ v H'', Ex H' H'' → Dp K (hid [D] H'') v d → Q v H'') → te σ H' Q
def EvPs (K : PySem.W.Frag) (ta : TA) (σ : L2.St) (D : Addr) (ds : List PyData) : Prop := ∀ H' : Hp, H' D ≠ none → ∀ Q : List V → Hp → Prop, (∀ vs H'', Ex H' H'' → DpAll K (hid [D] H'') vs ds → Q vs H'') → ta σ H' Q
def EvR (K : PySem.W.Frag) (te : TE) (σ : L2.St) (D : Addr) (d : PyData) : Prop := ∀ H' : Hp, H' D ≠ none → ∀ Q : VK, (∀ v H'', Ex H' H'' → RvD K (hid [D] H'') v d → Q v H'') → te σ H' Q
def RvAll (K : PySem.W.Frag) (H : Hp) : List V → List PyData → Prop
  | [], [] => True
  | v :: vs, d :: ds => RvD K H v d ∧ RvAll K H vs ds
  | _, _ => False
def EvRs (K : PySem.W.Frag) (ta : TA) (σ : L2.St) (D : Addr) (ds : List PyData) : Prop := ∀ H' : Hp, H' D ≠ none → ∀ Q : List V → Hp → Prop, (∀ vs H'', Ex H' H'' → RvAll K (hid [D] H'') vs ds → Q vs H'') → ta σ H' Q
section
variable {K : PySem.W.Frag} {σ : L2.St} {D : Addr} {te : TE} {ta : TA} {d : PyData} {ds : List PyData} {H H' : Hp}
theorem hidx {D : Addr} {H H' : Hp} (e : Ex H H') : Ex (hid [D] H) (hid [D] H') := (Kp.of e).ex
theorem there_ex {H H' : Hp} (e : Ex H H') (n : H D ≠ none) : H' D ≠ none := fun z => by
  cases hD : H D with
  | none => exact n hD
  | some o => rw [e _ _ hD] at z; cases z
theorem new_ne {p : Addr} (n : H D ≠ none) (hp : H p = none) : p ≠ D := fun z => n (z ▸ hp)
theorem rva_ex (e : Ex H H') : ∀ {vs : List V} {ds : List PyData}, RvAll K H vs ds → RvAll K H' vs ds
  | [], [], _ => trivial
  | _ :: _, _ :: _, h => ⟨rvd_ex e h.1, rva_ex e h.2⟩
  | [], _ :: _, h => h.elim
  | _ :: _, [], h => h.elim
theorem rva_len : ∀ {vs : List V} {ds : List PyData}, RvAll K H vs ds → vs.length = ds.length
  | [], [], _ => rfl
  | _ :: _, _ :: _, h => congrArg (· + 1) (rva_len h.2)
  | [], _ :: _, h => h.elim
  | _ :: _, [], h => h.elim
theorem rva_get : ∀ {vs : List V} {ds : List PyData} {i : Nat} {v : V}, RvAll K H vs ds → vs[i]? = some v → ∃ d ∈ ds, RvD K H v d
  | _ :: _, d :: _, 0, _, h, e => by cases e; exact ⟨d, List.mem_cons_self, h.1⟩
  | _ :: _, _ :: _, i + 1, _, h, e => by obtain ⟨d, m, z⟩ := rva_get (i := i) h.2 e; exact ⟨d, List.mem_cons_of_mem _ m, z⟩
  | [], _, _, _, _, e => by cases e
  | _ :: _, [], _, _, h, _ => h.elim
theorem rva_app : ∀ {vs us : List V} {ds es : List PyData}, RvAll K H vs ds → RvAll K H us es → RvAll K H (vs ++ us) (ds ++ es)
  | [], _, [], _, _, h => h
  | _ :: _, _, _ :: _, _, h, g => ⟨h.1, rva_app h.2 g⟩
  | [], _, _ :: _, _, h, _ => h.elim
  | _ :: _, _, [], _, h, _ => h.elim
theorem evp_c {v : V} (hd : ∀ {H : Hp}, Dp K H v d) : EvP K (tC v) σ D d := fun H' _ Q q => q v H' (Ex.refl _) hd
theorem evps_nil : EvPs K tNil σ D [] := fun H' _ Q q => q [] H' (Ex.refl _) .nil
theorem evps_cons (h : EvP K te σ D d) (hr : EvPs K ta σ D ds) : EvPs K (tCons te ta) σ D (d :: ds) := fun H' n Q q =>
  h H' n _ fun v H2 e2 hv => hr H2 (there_ex e2 n) _ fun vs H3 e3 hvs => q (v :: vs) H3 (e2.trans e3) (.cons (dp_ex (hidx e3) hv) hvs)
theorem evp_tup (h : EvPs K ta σ D ds) (hl : ds.length ≤ 100000) : EvP K (tTup ta) σ D (.tuple ds) := fun H' n Q q =>
  h H' n _ fun vs H2 e2 hvs => ⟨sz_of (by rw [dpa_len hvs]; exact hl), fun p hp => q _ _ (e2.trans (Ex.new hp)) (.tup (st_of (hid_of upd_same (by simpa using new_ne (there_ex e2 n) hp))) (dpa_ex (hidx (Ex.new hp)) hvs))⟩
theorem evp_lst (h : EvPs K ta σ D ds) (hl : ds.length ≤ 100000) : EvP K (tLst ta) σ D (.list ds) := fun H' n Q q =>
  h H' n _ fun vs H2 e2 hvs => ⟨sz_of (by rw [dpa_len hvs]; exact hl), fun p hp => q _ _ (e2.trans (Ex.new hp)) (.lst (sq_of (hid_of upd_same (by simpa using new_ne (there_ex e2 n) hp))) (dpa_ex (hidx (Ex.new hp)) hvs))⟩
theorem evr_of (h : EvP K te σ D d) : EvR K te σ D d := fun H' n Q q => h H' n Q fun v H2 e z => q v H2 e (.inl z)
theorem evrs_nil : EvRs K tNil σ D [] := fun H' _ Q q => q [] H' (Ex.refl _) trivial
theorem evrs_cons (h : EvR K te σ D d) (hr : EvRs K ta σ D ds) : EvRs K (tCons te ta) σ D (d :: ds) := fun H' n Q q =>
  h H' n _ fun v H2 e2 hv => hr H2 (there_ex e2 n) _ fun vs H3 e3 hvs => q (v :: vs) H3 (e2.trans e3) ⟨rvd_ex (hidx e3) hv, hvs⟩
theorem evr_d0 : EvR K tDNewK σ D (.dict []) := fun H' n Q q => fun p hp => q _ _ (Ex.new hp) (.inr (.inl ⟨p, rfl, hid_of upd_same (by simpa using new_ne n hp), rfl⟩))
theorem evr_d1 {x : Str} {i : Int} : EvR K (tDisp [(tC (.str x), tC (.int i))]) σ D (.dict [(.str x, .int i)]) := fun H' n Q q => fun p hp => by
  show _ ∧ _
  refine ⟨upd_same, [(Sum.inr x, .int i)], rfl, (by show 1 ≤ 15; decide), q _ _ ?_ (.inr (.inr ⟨p, x, i, rfl, hid_of upd_same (by simpa using new_ne n hp), rfl⟩))⟩
  rw [upd_upd]
  exact Ex.new hp
end
end DL
namespace K1
open PySem L2 Evl DL
section
variable {P : Program} {w : World} {K : PySem.W.Frag} {mg : Str → Option Value} {base : Heap} {CX : CXT}
/-! ### are two values told alike -/
def spIs (K : PySem.W.Frag) : Sp := fun vs H Q _ => ∃ v u d, vs = [v, u] ∧ RvD K H v d ∧ RvD K H u d ∧ Shows d ∧ Q (.bl true) H
theorem bd_is : BindP "_law_is" s_law_is ["told", "due"] := fun _ _ _ _ _ _ us hl => match us, hl with | [_, _], _ => rfl
theorem ok_is (T : Txt K mg) : DefOk P w K mg base CX0 true 1 "_law_is" s_law_is ["told", "due"] (spIs K) := by
  refine T.d_law_is.okG scs_law_is (fun vs H Q E h => ?_) (fun f cdv A outer s0 H vs Q E hg hr h => ?_)
  · obtain ⟨v, u, d, rfl, _⟩ := h
    rfl
  · obtain ⟨v, u, d, rfl, hv, hu, hs, q⟩ := h
    refine ⟨_, pss_one (ps_ret (pe_cmpR op_eq (pe_callB (call_reprV hg hr) (by rfl) T.b_repr (by decide +kernel) (pa_cons (pv 0) pa_nil)) (pe_callB (call_reprV hg hr) (by rfl) T.b_repr (by decide +kernel) (pa_cons (pv 1) pa_nil)) (nomark _))), ?_⟩
    refine ⟨_, rfl, v, d, rfl, hv, hs, _, rfl, u, d, rfl, hu, hs, rfl, ?_⟩
    show Q (.bl (decide (V.str d.shown = V.str d.shown))) H
    rw [decide_eq_true rfl]
    exact q
/-! ### the words -/
def spWords (xs : List Str) : Sp := fun vs H Q _ => vs = [] ∧ ∀ p, H p = none → Q (.ref p) (L2.upd H p (.lst (xs.map V.str)))
theorem bd_given : BindP "_law_given" s_law_given [] := fun _ _ _ _ _ _ us hl => match us, hl with | [], _ => rfl
theorem ok_given (T : Txt K mg) : DefOk P w K mg base CX0 false 1 "_law_given" s_law_given [] (spWords giv) := by
  refine T.d_law_given.ok scs_law_given (fun vs H Q E h => ?_) (fun f cdv A outer s H vs Q E hr h => ?_)
  · rw [h.1]
    rfl
  · obtain ⟨rfl, k⟩ := h
    exact ⟨_, pss_one (ps_ret (pe_lst (pa_cons pe_str (pa_cons pe_str (pa_cons pe_str (pa_cons pe_str (pa_cons pe_str (pa_cons pe_str (pa_cons pe_str (pa_cons pe_str (pa_cons pe_str (pa_cons pe_str (pa_cons pe_str (pa_cons pe_str pa_nil)))))))))))))), by show 12 ≤ sizeLine; decide, k⟩
theorem bd_index : BindP "_law_index" s_law_index [] := fun _ _ _ _ _ _ us hl => match us, hl with | [], _ => rfl
theorem ok_index (T : Txt K mg) : DefOk P w K mg base CX0 false 1 "_law_index" s_law_index [] (spWords idx) := by
  refine T.d_law_index.ok scs_law_index (fun vs H Q E h => ?_) (fun f cdv A outer s H vs Q E hr h => ?_)
  · rw [h.1]
    rfl
  · obtain ⟨rfl, k⟩ := h
    exact ⟨_, pss_one (ps_ret (pe_lst (pa_cons pe_str (pa_cons pe_str (pa_cons pe_str (pa_cons pe_str (pa_cons pe_str (pa_cons pe_str (pa_cons pe_str (pa_cons pe_str (pa_cons pe_str pa_nil))))))))))), by show 9 ≤ sizeLine; decide, k⟩
/-! ### a value of any kind -/
def spVal (K : PySem.W.Frag) : Sp := fun vs H Q _ => ∃ p, vs = [.ref p] ∧ Pail H p ∧ ∀ v d H', RvD K H' v d → Shows d → Kp [p] H H' → Pail H' p → Q v H'
theorem bd_val : BindP "_law_value" s_law_value ["well"] := fun _ _ _ _ _ _ us hl => match us, hl with | [_], _ => rfl
/-- what one of the values is -/
def vald : List PyData := [.none, .bool true, .bool false, .int 0, .int (-1), .int 7, .int (10 ^ 50), .str "", .str "ann", .str " ", .tuple [], .tuple [.int 1, .tuple [.str "a"]], .list [], .dict [], .list [.str "x"], .dict [(.str "a", .int 1)], .tuple [.none, .bool true]]
theorem shows_val {d : PyData} (h : d ∈ vald) : Shows d := by
  have a : (vald.all fun d => d.showable && (decide (d.depth ≤ 40) && decide (d.shown.length ≤ 1000))) = true := by decide +kernel
  have b := List.all_eq_true.mp a d h
  simp only [Bool.and_eq_true, decide_eq_true_eq] at b
  exact ⟨b.1, b.2.1, Nat.le_trans b.2.2 (by decide)⟩
end
end K1

set_option maxHeartbeats 400000
namespace K1
open PySem L2 Evl DL
section
variable {P : Program} {w : World} {K : PySem.W.Frag} {mg : Str → Option Value} {base : Heap} {CX : CXT}
theorem asg_tup {ts : TA} {i : Nat} {u : TS} {D : Ends} {σ : L2.St} {H : Hp} (h : ts σ H fun xs H1 => xs.length ≤ sizeLine ∧ ∀ p, H1 p = none → u D (σ.set i (some (.ref p))) (L2.upd H1 p (.tup xs))) : tSeq (tAsg (tTup ts) (gName i)) u D σ H := h
theorem ok_val (T : Txt K mg) : DefOk P w K mg base CX0 false 3 "_law_value" s_law_value ["well"] (spVal K) := by
  refine T.d_law_value.ok scs_law_value (fun vs H Q E h => ?_) (fun f cdv A outer s H vs Q E hr h => ?_)
  · obtain ⟨p, rfl, _⟩ := h
    rfl
  · obtain ⟨p, rfl, hp, k⟩ := h
    have nd := scs_law_value.nd
    refine ⟨_, pss_cons (ps_set (i := 1) nd rfl (.inl rfl) (pe_tup (pa_cons pe_non (pa_cons pe_bl (pa_cons pe_bl (pa_cons pe_int (pa_cons (pe_un un_neg pe_int) (pa_cons pe_int (pa_cons (pe_op op_pow pe_int pe_int) (pa_cons pe_str (pa_cons pe_str (pa_cons pe_str (pa_cons (pe_tup pa_nil)
        (pa_cons (pe_tup (pa_cons pe_int (pa_cons (pe_tup (pa_cons pe_str pa_nil)) pa_nil))) (pa_cons (pe_lst pa_nil) (pa_cons pe_dnewK (pa_cons (pe_lst (pa_cons pe_str pa_nil)) (pa_cons (pe_disp (pps_cons pe_str pe_int pps_nil) rfl rfl (by simp) (by decide)) pa_nil))))))))))))))))))
      (pss_one (ps_ret (pe_callD (ok_any T) hr (.inl rfl) bd_any pass0 (pa_cons (pv 0) (pa_cons (pe_op op_catA (pv 1) (pe_tup (pa_cons (pe_tup (pa_cons pe_non (pa_cons pe_bl pa_nil))) pa_nil))) pa_nil))))), ?_⟩
    have np : H p ≠ none := by
      obtain ⟨_, _, _, z⟩ := hp
      rw [z]
      exact fun e => nomatch e
    have hneg : EvP K (tUn (rU fun i => .int (-i)) (tC (.int 1))) [some (.ref p), none] p (.int (-1)) := fun H' n Q q => ⟨1, rfl, q _ H' (Ex.refl _) (.int _)⟩
    have hpow : EvP K (tOp (rI CPow fun i j => .int (i ^ j.toNat)) (tC (.int 10)) (tC (.int 50))) [some (.ref p), none] p (.int (10 ^ 50)) := fun H' n Q q => ⟨10, 50, rfl, rfl, ⟨by decide, by decide, by decide⟩, q _ H' (Ex.refl _) (.int _)⟩
    have hall := evrs_cons (K := K) (σ := [some (.ref p), none]) (D := p) (evr_of (evp_c .non)) (evrs_cons (evr_of (evp_c (.bl true))) (evrs_cons (evr_of (evp_c (.bl false))) (evrs_cons (evr_of (evp_c (.int 0))) (evrs_cons (evr_of hneg) (evrs_cons (evr_of (evp_c (.int 7))) (evrs_cons (evr_of hpow)
      (evrs_cons (evr_of (evp_c (.str ""))) (evrs_cons (evr_of (evp_c (.str "ann"))) (evrs_cons (evr_of (evp_c (.str " "))) (evrs_cons (evr_of (evp_tup evps_nil (by decide))) (evrs_cons (evr_of (evp_tup (evps_cons (evp_c (.int 1)) (evps_cons (evp_tup (evps_cons (evp_c (.str "a")) evps_nil) (by decide)) evps_nil)) (by decide)))
      (evrs_cons (evr_of (evp_lst evps_nil (by decide))) (evrs_cons evr_d0 (evrs_cons (evr_of (evp_lst (evps_cons (evp_c (.str "x")) evps_nil) (by decide))) (evrs_cons (evr_d1 (x := "a") (i := 1)) evrs_nil)))))))))))))))
    refine asg_tup (hall H np _ fun vs H1 e1 hvs => ⟨sz_of (by rw [rva_len hvs]; decide), fun t ht => ?_⟩)
    have np1 := there_ex e1 np
    have e2 : Ex H (L2.upd H1 t (.tup vs)) := e1.trans (Ex.new ht)
    have np2 := there_ex e2 np
    refine ⟨_, rfl, _, rfl, ?_⟩
    refine evp_tup (K := K) (D := p) (evps_cons (evp_tup (evps_cons (evp_c .non) (evps_cons (evp_c (.bl true)) evps_nil)) (by decide)) evps_nil) (by decide) _ np2 _ fun v H3 e3 hv => ?_
    obtain ⟨b, ys, rfl, hb, hys⟩ := dp_tup hv
    have hb3 : SqT K H3 b ys := ex_t hid_ex hb
    have ht3 : SqT K H3 t vs := st_of (e3 _ _ upd_same)
    have lvs := rva_len hvs
    have lys := dpa_len hys
    refine ⟨t, b, vs, ys, rfl, rfl, ht3, hb3, by rw [lvs, lys]; decide, fun z => ?_, fun _ z => ?_, fun _ _ c hc => ?_⟩
    · rw [z] at lvs
      cases lvs
    · rw [z] at lys
      cases lys
    have e4 : Ex H (L2.upd H3 c (.tup (vs ++ ys))) := (e2.trans e3).trans (Ex.new hc)
    have np3 := there_ex e3 np2
    obtain ⟨x0, y0, z0, hp0⟩ := hp
    have hp4 := e4 _ _ hp0
    have hcp := new_ne np3 hc
    refine ⟨p, c, vs ++ ys, rfl, ⟨_, _, _, hp4⟩, hcp, .inr (st_of upd_same), by rw [List.length_append, lvs, lys]; decide, by rw [List.length_append, lvs, lys]; decide, fun i x H5 hx kp hp5 => ?_⟩
    have r1 : RvAll K (hid [p] H3) (vs ++ ys) _ := rva_app (rva_ex (hidx ((Ex.new ht).trans e3)) hvs) (show RvAll K (hid [p] H3) ys [.tuple [.none, .bool true]] from by
      cases hys with
      | cons h1 h2 => cases h2; exact ⟨.inl h1, trivial⟩)
    obtain ⟨d, hd, rd⟩ := rva_get r1 hx
    exact k x d H5 (rvd_ex hid_ex (rvd_ex kp.ex (rvd_ex (hidx (Ex.new hc)) rd))) (shows_val hd) ((Kp.of e4).trans kp) hp5
end
end K1

set_option maxHeartbeats 400000
namespace K1
open PySem L2 Evl DL
section
variable {P : Program} {w : World} {K : PySem.W.Frag} {mg : Str → Option Value} {base : Heap} {CX : CXT}
/-! ### errors of a word are made -/
theorem made_if {C : Addr} {fld X word : Str} {v : V} {b : Bool} {D : Ends} {H : Hp} (hx : word = X → ∀ e d, H e = none → H d = none → d ≠ e → D.rt (.ref e) (L2.upd (L2.upd H d (exd d [(fld, v)])) e (exo e C (some d)))) (hn : word ≠ X → D.nx [some (.str word), some v, some (.bl b)] H) :
    tIfS (tTest (tOp rEq (tVar 0) (tC (.str X)))) (tRet (tIf (tB (tVar 2)) (tErrV C fld (tVar 1)) (tErrV C fld (tVar 1)))) tNext D [some (.str word), some v, some (.bl b)] H := by
  refine ⟨_, rfl, rfl, _, rfl, ?_⟩
  by_cases h : word = X
  · refine itT (str_eq h) ⟨_, rfl, _, rfl, ?_⟩
    have q : tErrV C fld (tVar 1) [some (.str word), some v, some (.bl b)] H D.rt := ⟨v, rfl, v, rfl, hx h⟩
    cases b with
    | true => exact itT rfl q
    | false => exact itF rfl q
  · exact itF (str_ne h) (hn h)
def tabA : List (Str × Str) := [("InvalidText", "given"), ("InvalidProgram", "given"), ("InvalidNumber", "given"), ("InvalidMachine", "given"), ("InvalidCode", "given"), ("InvalidLine", "given"), ("InvalidCommand", "given"), ("InvalidPass", "given"), ("UnknownName", "given"), ("OutOfRange", "given"), ("TooMany", "given"), ("NotADesk", "given"), ("InvalidPasses", "index"), ("InvalidInputs", "index"), ("InvalidWhen", "index"), ("InvalidCells", "index"), ("InvalidRoots", "index")]
def tabB : List (Str × Str) := [("InvalidParts", "index"), ("InvalidChoices", "index"), ("InvalidRows", "index"), ("Refused", "index")]
theorem tab_AB : tabE = tabA ++ tabB := by decide +kernel
def spMk (mg : Str → Option Value) (tab : List (Str × Str)) : Sp := fun vs H Q _ => ∃ (word : Str) (v : V) (b : Bool), vs = [.str word, v, .bl b] ∧ (∀ fld, (word, fld) ∈ tab → ∀ e d, H e = none → H d = none → d ≠ e → Q (.ref e) (L2.upd (L2.upd H d (exd d [(fld, v)])) e (exo e (gA mg word) (some d)))) ∧ ((∀ fld, (word, fld) ∉ tab) → Q .non H)
theorem bd_made_a : BindP "_law_made_a" s_law_made_a ["word", "value", "is_named"] := fun _ _ _ _ _ _ us hl => match us, hl with | [_, _, _], _ => rfl
theorem ok_made_a (T : Txt K mg) (R : Ers P w K mg base) : DefOk P w K mg base CX0 false 3 "_law_made_a" s_law_made_a ["word", "value", "is_named"] (spMk mg tabA) := by
  refine T.d_law_made_a.ok scs_law_made_a (fun vs H Q E h => ?_) (fun f cdv A outer s H vs Q E hr h => ?_)
  · obtain ⟨_, _, _, rfl, _⟩ := h
    rfl
  · obtain ⟨word, v, b, rfl, kh, kn⟩ := h
    refine ⟨_, pss_cons (ps_if (pt_cmpR op_eq (pv 0) pe_str (nomark _)) (pss_one (ps_ret (pe_ifExp (pt_val (pv 2)) (pe_errVK (R.e ("InvalidText", "given") (by decide +kernel)) hr (pv 1)) (pe_errV (R.e ("InvalidText", "given") (by decide +kernel)) hr (pv 1))))) pss_nil)
      (pss_cons (ps_if (pt_cmpR op_eq (pv 0) pe_str (nomark _)) (pss_one (ps_ret (pe_ifExp (pt_val (pv 2)) (pe_errVK (R.e ("InvalidProgram", "given") (by decide +kernel)) hr (pv 1)) (pe_errV (R.e ("InvalidProgram", "given") (by decide +kernel)) hr (pv 1))))) pss_nil)
      (pss_cons (ps_if (pt_cmpR op_eq (pv 0) pe_str (nomark _)) (pss_one (ps_ret (pe_ifExp (pt_val (pv 2)) (pe_errVK (R.e ("InvalidNumber", "given") (by decide +kernel)) hr (pv 1)) (pe_errV (R.e ("InvalidNumber", "given") (by decide +kernel)) hr (pv 1))))) pss_nil)
      (pss_cons (ps_if (pt_cmpR op_eq (pv 0) pe_str (nomark _)) (pss_one (ps_ret (pe_ifExp (pt_val (pv 2)) (pe_errVK (R.e ("InvalidMachine", "given") (by decide +kernel)) hr (pv 1)) (pe_errV (R.e ("InvalidMachine", "given") (by decide +kernel)) hr (pv 1))))) pss_nil)
      (pss_cons (ps_if (pt_cmpR op_eq (pv 0) pe_str (nomark _)) (pss_one (ps_ret (pe_ifExp (pt_val (pv 2)) (pe_errVK (R.e ("InvalidCode", "given") (by decide +kernel)) hr (pv 1)) (pe_errV (R.e ("InvalidCode", "given") (by decide +kernel)) hr (pv 1))))) pss_nil)
      (pss_cons (ps_if (pt_cmpR op_eq (pv 0) pe_str (nomark _)) (pss_one (ps_ret (pe_ifExp (pt_val (pv 2)) (pe_errVK (R.e ("InvalidLine", "given") (by decide +kernel)) hr (pv 1)) (pe_errV (R.e ("InvalidLine", "given") (by decide +kernel)) hr (pv 1))))) pss_nil)
      (pss_cons (ps_if (pt_cmpR op_eq (pv 0) pe_str (nomark _)) (pss_one (ps_ret (pe_ifExp (pt_val (pv 2)) (pe_errVK (R.e ("InvalidCommand", "given") (by decide +kernel)) hr (pv 1)) (pe_errV (R.e ("InvalidCommand", "given") (by decide +kernel)) hr (pv 1))))) pss_nil)
      (pss_cons (ps_if (pt_cmpR op_eq (pv 0) pe_str (nomark _)) (pss_one (ps_ret (pe_ifExp (pt_val (pv 2)) (pe_errVK (R.e ("InvalidPass", "given") (by decide +kernel)) hr (pv 1)) (pe_errV (R.e ("InvalidPass", "given") (by decide +kernel)) hr (pv 1))))) pss_nil)
      (pss_cons (ps_if (pt_cmpR op_eq (pv 0) pe_str (nomark _)) (pss_one (ps_ret (pe_ifExp (pt_val (pv 2)) (pe_errVK (R.e ("UnknownName", "given") (by decide +kernel)) hr (pv 1)) (pe_errV (R.e ("UnknownName", "given") (by decide +kernel)) hr (pv 1))))) pss_nil)
      (pss_cons (ps_if (pt_cmpR op_eq (pv 0) pe_str (nomark _)) (pss_one (ps_ret (pe_ifExp (pt_val (pv 2)) (pe_errVK (R.e ("OutOfRange", "given") (by decide +kernel)) hr (pv 1)) (pe_errV (R.e ("OutOfRange", "given") (by decide +kernel)) hr (pv 1))))) pss_nil)
      (pss_cons (ps_if (pt_cmpR op_eq (pv 0) pe_str (nomark _)) (pss_one (ps_ret (pe_ifExp (pt_val (pv 2)) (pe_errVK (R.e ("TooMany", "given") (by decide +kernel)) hr (pv 1)) (pe_errV (R.e ("TooMany", "given") (by decide +kernel)) hr (pv 1))))) pss_nil)
      (pss_cons (ps_if (pt_cmpR op_eq (pv 0) pe_str (nomark _)) (pss_one (ps_ret (pe_ifExp (pt_val (pv 2)) (pe_errVK (R.e ("NotADesk", "given") (by decide +kernel)) hr (pv 1)) (pe_errV (R.e ("NotADesk", "given") (by decide +kernel)) hr (pv 1))))) pss_nil)
      (pss_cons (ps_if (pt_cmpR op_eq (pv 0) pe_str (nomark _)) (pss_one (ps_ret (pe_ifExp (pt_val (pv 2)) (pe_errVK (R.e ("InvalidPasses", "index") (by decide +kernel)) hr (pv 1)) (pe_errV (R.e ("InvalidPasses", "index") (by decide +kernel)) hr (pv 1))))) pss_nil)
      (pss_cons (ps_if (pt_cmpR op_eq (pv 0) pe_str (nomark _)) (pss_one (ps_ret (pe_ifExp (pt_val (pv 2)) (pe_errVK (R.e ("InvalidInputs", "index") (by decide +kernel)) hr (pv 1)) (pe_errV (R.e ("InvalidInputs", "index") (by decide +kernel)) hr (pv 1))))) pss_nil)
      (pss_cons (ps_if (pt_cmpR op_eq (pv 0) pe_str (nomark _)) (pss_one (ps_ret (pe_ifExp (pt_val (pv 2)) (pe_errVK (R.e ("InvalidWhen", "index") (by decide +kernel)) hr (pv 1)) (pe_errV (R.e ("InvalidWhen", "index") (by decide +kernel)) hr (pv 1))))) pss_nil)
      (pss_cons (ps_if (pt_cmpR op_eq (pv 0) pe_str (nomark _)) (pss_one (ps_ret (pe_ifExp (pt_val (pv 2)) (pe_errVK (R.e ("InvalidCells", "index") (by decide +kernel)) hr (pv 1)) (pe_errV (R.e ("InvalidCells", "index") (by decide +kernel)) hr (pv 1))))) pss_nil)
      (pss_cons (ps_if (pt_cmpR op_eq (pv 0) pe_str (nomark _)) (pss_one (ps_ret (pe_ifExp (pt_val (pv 2)) (pe_errVK (R.e ("InvalidRoots", "index") (by decide +kernel)) hr (pv 1)) (pe_errV (R.e ("InvalidRoots", "index") (by decide +kernel)) hr (pv 1))))) pss_nil)
      (pss_one (ps_ret pe_non)))))))))))))))))), ?_⟩
    refine made_if (fun h => by subst h; exact kh "given" (by decide +kernel)) (fun n0 => ?_)
    refine made_if (fun h => by subst h; exact kh "given" (by decide +kernel)) (fun n1 => ?_)
    refine made_if (fun h => by subst h; exact kh "given" (by decide +kernel)) (fun n2 => ?_)
    refine made_if (fun h => by subst h; exact kh "given" (by decide +kernel)) (fun n3 => ?_)
    refine made_if (fun h => by subst h; exact kh "given" (by decide +kernel)) (fun n4 => ?_)
    refine made_if (fun h => by subst h; exact kh "given" (by decide +kernel)) (fun n5 => ?_)
    refine made_if (fun h => by subst h; exact kh "given" (by decide +kernel)) (fun n6 => ?_)
    refine made_if (fun h => by subst h; exact kh "given" (by decide +kernel)) (fun n7 => ?_)
    refine made_if (fun h => by subst h; exact kh "given" (by decide +kernel)) (fun n8 => ?_)
    refine made_if (fun h => by subst h; exact kh "given" (by decide +kernel)) (fun n9 => ?_)
    refine made_if (fun h => by subst h; exact kh "given" (by decide +kernel)) (fun n10 => ?_)
    refine made_if (fun h => by subst h; exact kh "given" (by decide +kernel)) (fun n11 => ?_)
    refine made_if (fun h => by subst h; exact kh "index" (by decide +kernel)) (fun n12 => ?_)
    refine made_if (fun h => by subst h; exact kh "index" (by decide +kernel)) (fun n13 => ?_)
    refine made_if (fun h => by subst h; exact kh "index" (by decide +kernel)) (fun n14 => ?_)
    refine made_if (fun h => by subst h; exact kh "index" (by decide +kernel)) (fun n15 => ?_)
    refine made_if (fun h => by subst h; exact kh "index" (by decide +kernel)) (fun n16 => ?_)
    refine kn fun fld hm => ?_
    simp only [tabA, List.mem_cons, Prod.mk.injEq, List.not_mem_nil, or_false] at hm
    rcases hm with ⟨h, _⟩ | ⟨h, _⟩ | ⟨h, _⟩ | ⟨h, _⟩ | ⟨h, _⟩ | ⟨h, _⟩ | ⟨h, _⟩ | ⟨h, _⟩ | ⟨h, _⟩ | ⟨h, _⟩ | ⟨h, _⟩ | ⟨h, _⟩ | ⟨h, _⟩ | ⟨h, _⟩ | ⟨h, _⟩ | ⟨h, _⟩ | ⟨h, _⟩
    · exact n0 h
    · exact n1 h
    · exact n2 h
    · exact n3 h
    · exact n4 h
    · exact n5 h
    · exact n6 h
    · exact n7 h
    · exact n8 h
    · exact n9 h
    · exact n10 h
    · exact n11 h
    · exact n12 h
    · exact n13 h
    · exact n14 h
    · exact n15 h
    · exact n16 h
theorem bd_made_b : BindP "_law_made_b" s_law_made_b ["word", "value", "is_named"] := fun _ _ _ _ _ _ us hl => match us, hl with | [_, _, _], _ => rfl
theorem ok_made_b (T : Txt K mg) (R : Ers P w K mg base) : DefOk P w K mg base CX0 false 3 "_law_made_b" s_law_made_b ["word", "value", "is_named"] (spMk mg tabB) := by
  refine T.d_law_made_b.ok scs_law_made_b (fun vs H Q E h => ?_) (fun f cdv A outer s H vs Q E hr h => ?_)
  · obtain ⟨_, _, _, rfl, _⟩ := h
    rfl
  · obtain ⟨word, v, b, rfl, kh, kn⟩ := h
    refine ⟨_, pss_cons (ps_if (pt_cmpR op_eq (pv 0) pe_str (nomark _)) (pss_one (ps_ret (pe_ifExp (pt_val (pv 2)) (pe_errVK (R.e ("InvalidParts", "index") (by decide +kernel)) hr (pv 1)) (pe_errV (R.e ("InvalidParts", "index") (by decide +kernel)) hr (pv 1))))) pss_nil)
      (pss_cons (ps_if (pt_cmpR op_eq (pv 0) pe_str (nomark _)) (pss_one (ps_ret (pe_ifExp (pt_val (pv 2)) (pe_errVK (R.e ("InvalidChoices", "index") (by decide +kernel)) hr (pv 1)) (pe_errV (R.e ("InvalidChoices", "index") (by decide +kernel)) hr (pv 1))))) pss_nil)
      (pss_cons (ps_if (pt_cmpR op_eq (pv 0) pe_str (nomark _)) (pss_one (ps_ret (pe_ifExp (pt_val (pv 2)) (pe_errVK (R.e ("InvalidRows", "index") (by decide +kernel)) hr (pv 1)) (pe_errV (R.e ("InvalidRows", "index") (by decide +kernel)) hr (pv 1))))) pss_nil)
      (pss_cons (ps_if (pt_cmpR op_eq (pv 0) pe_str (nomark _)) (pss_one (ps_ret (pe_ifExp (pt_val (pv 2)) (pe_errVK (R.e ("Refused", "index") (by decide +kernel)) hr (pv 1)) (pe_errV (R.e ("Refused", "index") (by decide +kernel)) hr (pv 1))))) pss_nil)
      (pss_one (ps_ret pe_non))))), ?_⟩
    refine made_if (fun h => by subst h; exact kh "index" (by decide +kernel)) (fun n0 => ?_)
    refine made_if (fun h => by subst h; exact kh "index" (by decide +kernel)) (fun n1 => ?_)
    refine made_if (fun h => by subst h; exact kh "index" (by decide +kernel)) (fun n2 => ?_)
    refine made_if (fun h => by subst h; exact kh "index" (by decide +kernel)) (fun n3 => ?_)
    refine kn fun fld hm => ?_
    simp only [tabB, List.mem_cons, Prod.mk.injEq, List.not_mem_nil, or_false] at hm
    rcases hm with ⟨h, _⟩ | ⟨h, _⟩ | ⟨h, _⟩ | ⟨h, _⟩
    · exact n0 h
    · exact n1 h
    · exact n2 h
    · exact n3 h
theorem bd_made : BindP "_law_made" s_law_made ["word", "value", "is_named"] := fun _ _ _ _ _ _ us hl => match us, hl with | [_, _, _], _ => rfl
def spMade (mg : Str → Option Value) : Sp := fun vs H Q _ => ∃ (word fld : Str) (v : V) (b : Bool), vs = [.str word, v, .bl b] ∧ (word, fld) ∈ tabE ∧ ∀ e d, H e = none → H d = none → d ≠ e → Q (.ref e) (L2.upd (L2.upd H d (exd d [(fld, v)])) e (exo e (gA mg word) (some d)))
theorem tab_fun : ∀ p ∈ tabE, ∀ q ∈ tabE, p.1 = q.1 → p.2 = q.2 := by decide +kernel
theorem tab_apart : ∀ p ∈ tabB, ∀ q ∈ tabA, p.1 ≠ q.1 := by decide +kernel
theorem ok_made (T : Txt K mg) (R : Ers P w K mg base) : DefOk P w K mg base CX0 false 4 "_law_made" s_law_made ["word", "value", "is_named"] (spMade mg) := by
  refine T.d_law_made.ok scs_law_made (fun vs H Q E h => ?_) (fun f cdv A outer s H vs Q E hr h => ?_)
  · obtain ⟨_, _, _, _, rfl, _⟩ := h
    rfl
  · obtain ⟨word, fld, v, b, rfl, hm, k⟩ := h
    have nd := scs_law_made.nd
    refine ⟨_, pss_cut (ps_set (i := 3) nd rfl (.inl rfl) (pe_callD (ok_made_a T R) hr (.inl rfl) bd_made_a pass0 (pa_cons (pv 0) (pa_cons (pv 1) (pa_cons (pv 2) pa_nil)))))
      (pss_cons (ps_set (i := 3) nd rfl (.inl rfl) (pe_ifExp (pt_cmpR op_isN (pv 3) pe_non (nomark _)) (pe_callD (ok_made_b T R) hr (.inl rfl) bd_made_b pass0 (pa_cons (pv 0) (pa_cons (pv 1) (pa_cons (pv 2) pa_nil)))) (pv 3)))
      (pss_one (ps_ret (pv 3)))), ?_⟩
    rw [tab_AB] at hm
    rcases List.mem_append.mp hm with hA | hB
    · refine ⟨fun σ' H' => ∃ e d, H e = none ∧ H d = none ∧ d ≠ e ∧ σ' = [some (.str word), some v, some (.bl b), some (.ref e)] ∧ H' = L2.upd (L2.upd H d (exd d [(fld, v)])) e (exo e (gA mg word) (some d)), ?_, ?_⟩
      · refine ⟨_, rfl, _, rfl, _, rfl, word, v, b, rfl, fun fld' hm' e d he hd hne => ?_, fun hn => absurd hA (hn fld)⟩
        have ef : fld' = fld := tab_fun (word, fld') (by rw [tab_AB]; exact List.mem_append_left _ hm') (word, fld) (by rw [tab_AB]; exact hm) rfl
        subst ef
        exact ⟨e, d, he, hd, hne, rfl, rfl⟩
      · rintro _ _ ⟨e, d, he, hd, hne, rfl, rfl⟩
        refine ⟨_, rfl, rfl, _, rfl, ?_⟩
        refine itF (decide_eq_false (fun z => by cases z)) ?_
        exact ⟨_, rfl, _, rfl, k e d he hd hne⟩
    · refine ⟨fun σ' H' => σ' = [some (.str word), some v, some (.bl b), some .non] ∧ H' = H, ?_, ?_⟩
      · refine ⟨_, rfl, _, rfl, _, rfl, word, v, b, rfl, fun fld' hm' e d he hd hne => absurd rfl (tab_apart (word, fld) hB (word, fld') hm'), fun hn => ⟨rfl, rfl⟩⟩
      · rintro _ _ ⟨rfl, rfl⟩
        refine ⟨_, rfl, rfl, _, rfl, ?_⟩
        refine itT (decide_eq_true rfl) ?_
        refine ⟨_, rfl, _, rfl, _, rfl, word, v, b, rfl, fun fld' hm' e d he hd hne => ?_, fun hn => absurd hB (hn fld)⟩
        have ef : fld' = fld := tab_fun (word, fld') (by rw [tab_AB]; exact List.mem_append_right _ hm') (word, fld) (by rw [tab_AB]; exact hm) rfl
        subst ef
        exact ⟨_, rfl, k e d he hd hne⟩
end
end K1

set_option maxHeartbeats 400000
namespace K1
open PySem L2 Evl DL PySem.W
section
variable {P : Program} {w : World} {K : PySem.W.Frag} {mg : Str → Option Value} {base : Heap} {CX : CXT}
/-! ### of which classes an error is one -/
def sel (x : Str) : List Str → List Str
  | [] => []
  | y :: r => (if x = y then [y] else []) ++ sel x r
theorem sel_all : ∀ x ∈ cls25, sel x cls25 = [x] := by decide +kernel
abbrev tKind (K : PySem.W.Frag) (C : Addr) (X : Str) : TE := tIf (tB (tCB (rIsV K) (tCons (tVar 0) (tCons (tC (.ref C)) tNil)))) (tLst (tCons (tC (.str X)) tNil)) (tLst tNil)
theorem kind_one {C : Addr} {x X : Str} {e : Addr} {σ : L2.St} {H : Hp} {Q : VK} (hσ : σ[0]? = some (some (.ref e))) (hv : XV H e (gA mg x)) (hi : ErrIs K mg cls25 "KeptError" outs x) (hX : X ∈ cls25) (hC : C = gA mg X) (q : ∀ p, H p = none → Q (.ref p) (L2.upd H p (.lst ((if x = X then [X] else []).map V.str)))) : tKind K C X σ H Q := by
  subst hC
  refine ⟨_, hσ, e, gA mg x, .ref (gA mg X), _, _, rfl, hv, hi.exc, .own _, hi.one X hX, _, rfl, ?_⟩
  by_cases h : x = X
  · refine itT (decide_eq_true h) ⟨by show 1 ≤ sizeLine; decide, fun p hp => ?_⟩
    have := q p hp
    rw [if_pos h] at this
    exact this
  · refine itF (decide_eq_false h) ⟨by decide, fun p hp => ?_⟩
    have := q p hp
    rw [if_neg h] at this
    exact this
theorem kind_first {C : Addr} {x X : Str} {e : Addr} {H : Hp} {u : TS} {D : Ends} (hv : XV H e (gA mg x)) (hi : ErrIs K mg cls25 "KeptError" outs x) (hX : X ∈ cls25) (hC : C = gA mg X) (hu : ∀ l H', Ex H H' → H' l = some (.lst ((if x = X then [X] else []).map V.str)) → u D [some (.ref e), some (.ref l)] H') :
    tSeq (tAsg (tKind K C X) (gName 1)) u D [some (.ref e), none] H := kind_one rfl hv hi hX hC fun p hp => hu p _ (Ex.new hp) upd_same
theorem kind_next {C : Addr} {x X : Str} {e l : Addr} {H : Hp} {u : TS} {D : Ends} {ys : List Str} (hl : H l = some (.lst (ys.map V.str))) (hz : ys.length ≤ 1000) (hv : XV H e (gA mg x)) (hi : ErrIs K mg cls25 "KeptError" outs x) (hX : X ∈ cls25) (hC : C = gA mg X)
    (hu : ∀ l' H', Ex H H' → H' l' = some (.lst ((ys ++ if x = X then [X] else []).map V.str)) → u D [some (.ref e), some (.ref l')] H') :
    tSeq (tAsg (tOp rCat (tVar 1) (tKind K C X)) (gName 1)) u D [some (.ref e), some (.ref l)] H := by
  refine ⟨_, rfl, kind_one rfl hv hi hX hC fun p hp => ?_⟩
  have e1 : Ex H (L2.upd H p (.lst ((if x = X then [X] else []).map V.str))) := Ex.new hp
  refine ⟨l, p, _, _, rfl, rfl, e1 _ _ hl, upd_same, ?_, fun c hc => ?_⟩
  · rw [List.length_map, List.length_map]
    have : (if x = X then [X] else []).length ≤ 1 := by split <;> simp
    have h2 : sizeLine = 16777216 := sizeLine_eq
    omega
  · refine hu c _ (e1.trans (Ex.new hc)) ?_
    rw [upd_same, List.map_append]
theorem len_if {x X : Str} {ys : List Str} {n : Nat} (h : ys.length ≤ n) : (ys ++ if x = X then [X] else []).length ≤ n + 1 := by
  rw [List.length_append]
  have : (if x = X then [X] else []).length ≤ 1 := by split <;> simp
  omega
def spKinds (mg : Str → Option Value) (names : List Str) : Sp := fun vs H Q _ => ∃ (e : Addr) (x : Str), vs = [.ref e] ∧ XV H e (gA mg x) ∧ x ∈ cls25 ∧ ∀ l H', Ex H H' → H' l = some (.lst ((sel x names).map V.str)) → Q (.ref l) H'

def n_kinds_a : List Str := ["InvalidText", "InvalidProgram", "InvalidNumber", "InvalidMachine", "InvalidCode", "InvalidLine", "InvalidCommand", "InvalidPass", "UnknownName", "OutOfRange", "TooMany", "NotADesk", "InvalidPasses", "InvalidInputs", "InvalidWhen", "InvalidCells", "InvalidRoots", "InvalidParts", "InvalidChoices", "InvalidRows"]
theorem bd_kinds_a : BindP "_law_kinds_a" s_law_kinds_a ["e"] := fun _ _ _ _ _ _ us hl => match us, hl with | [_], _ => rfl
theorem ok_kinds_a (T : Txt K mg) : DefOk P w K mg base CX0 false 1 "_law_kinds_a" s_law_kinds_a ["e"] (spKinds mg n_kinds_a) := by
  refine T.d_law_kinds_a.ok scs_law_kinds_a (fun vs H Q E h => ?_) (fun f cdv A outer s H vs Q E hr h => ?_)
  · obtain ⟨_, _, rfl, _⟩ := h
    rfl
  · obtain ⟨e, x, rfl, hv, hm, k⟩ := h
    have nd := scs_law_kinds_a.nd
    have hi := T.e_is x hm
    refine ⟨_, pss_cons (ps_set (i := 1) nd rfl (.inl rfl) (pe_ifExp (pt_val (pe_callB call_isV (by rfl) T.b_isinstance (by decide +kernel) (pa_cons (pv 0) (pa_cons (pe_glob (v := .ref (gA mg "InvalidText")) (by rfl) (T.n_cls "InvalidText" (by decide +kernel)) rfl (by decide)) pa_nil)))) (pe_lst (pa_cons pe_str pa_nil)) (pe_lst pa_nil)))
      (pss_cons (ps_set (i := 1) nd rfl (.inl rfl) (pe_op op_cat (pv 1) (pe_ifExp (pt_val (pe_callB call_isV (by rfl) T.b_isinstance (by decide +kernel) (pa_cons (pv 0) (pa_cons (pe_glob (v := .ref (gA mg "InvalidProgram")) (by rfl) (T.n_cls "InvalidProgram" (by decide +kernel)) rfl (by decide)) pa_nil)))) (pe_lst (pa_cons pe_str pa_nil)) (pe_lst pa_nil))))
      (pss_cons (ps_set (i := 1) nd rfl (.inl rfl) (pe_op op_cat (pv 1) (pe_ifExp (pt_val (pe_callB call_isV (by rfl) T.b_isinstance (by decide +kernel) (pa_cons (pv 0) (pa_cons (pe_glob (v := .ref (gA mg "InvalidNumber")) (by rfl) (T.n_cls "InvalidNumber" (by decide +kernel)) rfl (by decide)) pa_nil)))) (pe_lst (pa_cons pe_str pa_nil)) (pe_lst pa_nil))))
      (pss_cons (ps_set (i := 1) nd rfl (.inl rfl) (pe_op op_cat (pv 1) (pe_ifExp (pt_val (pe_callB call_isV (by rfl) T.b_isinstance (by decide +kernel) (pa_cons (pv 0) (pa_cons (pe_glob (v := .ref (gA mg "InvalidMachine")) (by rfl) (T.n_cls "InvalidMachine" (by decide +kernel)) rfl (by decide)) pa_nil)))) (pe_lst (pa_cons pe_str pa_nil)) (pe_lst pa_nil))))
      (pss_cons (ps_set (i := 1) nd rfl (.inl rfl) (pe_op op_cat (pv 1) (pe_ifExp (pt_val (pe_callB call_isV (by rfl) T.b_isinstance (by decide +kernel) (pa_cons (pv 0) (pa_cons (pe_glob (v := .ref (gA mg "InvalidCode")) (by rfl) (T.n_cls "InvalidCode" (by decide +kernel)) rfl (by decide)) pa_nil)))) (pe_lst (pa_cons pe_str pa_nil)) (pe_lst pa_nil))))
      (pss_cons (ps_set (i := 1) nd rfl (.inl rfl) (pe_op op_cat (pv 1) (pe_ifExp (pt_val (pe_callB call_isV (by rfl) T.b_isinstance (by decide +kernel) (pa_cons (pv 0) (pa_cons (pe_glob (v := .ref (gA mg "InvalidLine")) (by rfl) (T.n_cls "InvalidLine" (by decide +kernel)) rfl (by decide)) pa_nil)))) (pe_lst (pa_cons pe_str pa_nil)) (pe_lst pa_nil))))
      (pss_cons (ps_set (i := 1) nd rfl (.inl rfl) (pe_op op_cat (pv 1) (pe_ifExp (pt_val (pe_callB call_isV (by rfl) T.b_isinstance (by decide +kernel) (pa_cons (pv 0) (pa_cons (pe_glob (v := .ref (gA mg "InvalidCommand")) (by rfl) (T.n_cls "InvalidCommand" (by decide +kernel)) rfl (by decide)) pa_nil)))) (pe_lst (pa_cons pe_str pa_nil)) (pe_lst pa_nil))))
      (pss_cons (ps_set (i := 1) nd rfl (.inl rfl) (pe_op op_cat (pv 1) (pe_ifExp (pt_val (pe_callB call_isV (by rfl) T.b_isinstance (by decide +kernel) (pa_cons (pv 0) (pa_cons (pe_glob (v := .ref (gA mg "InvalidPass")) (by rfl) (T.n_cls "InvalidPass" (by decide +kernel)) rfl (by decide)) pa_nil)))) (pe_lst (pa_cons pe_str pa_nil)) (pe_lst pa_nil))))
      (pss_cons (ps_set (i := 1) nd rfl (.inl rfl) (pe_op op_cat (pv 1) (pe_ifExp (pt_val (pe_callB call_isV (by rfl) T.b_isinstance (by decide +kernel) (pa_cons (pv 0) (pa_cons (pe_glob (v := .ref (gA mg "UnknownName")) (by rfl) (T.n_cls "UnknownName" (by decide +kernel)) rfl (by decide)) pa_nil)))) (pe_lst (pa_cons pe_str pa_nil)) (pe_lst pa_nil))))
      (pss_cons (ps_set (i := 1) nd rfl (.inl rfl) (pe_op op_cat (pv 1) (pe_ifExp (pt_val (pe_callB call_isV (by rfl) T.b_isinstance (by decide +kernel) (pa_cons (pv 0) (pa_cons (pe_glob (v := .ref (gA mg "OutOfRange")) (by rfl) (T.n_cls "OutOfRange" (by decide +kernel)) rfl (by decide)) pa_nil)))) (pe_lst (pa_cons pe_str pa_nil)) (pe_lst pa_nil))))
      (pss_cons (ps_set (i := 1) nd rfl (.inl rfl) (pe_op op_cat (pv 1) (pe_ifExp (pt_val (pe_callB call_isV (by rfl) T.b_isinstance (by decide +kernel) (pa_cons (pv 0) (pa_cons (pe_glob (v := .ref (gA mg "TooMany")) (by rfl) (T.n_cls "TooMany" (by decide +kernel)) rfl (by decide)) pa_nil)))) (pe_lst (pa_cons pe_str pa_nil)) (pe_lst pa_nil))))
      (pss_cons (ps_set (i := 1) nd rfl (.inl rfl) (pe_op op_cat (pv 1) (pe_ifExp (pt_val (pe_callB call_isV (by rfl) T.b_isinstance (by decide +kernel) (pa_cons (pv 0) (pa_cons (pe_glob (v := .ref (gA mg "NotADesk")) (by rfl) (T.n_cls "NotADesk" (by decide +kernel)) rfl (by decide)) pa_nil)))) (pe_lst (pa_cons pe_str pa_nil)) (pe_lst pa_nil))))
      (pss_cons (ps_set (i := 1) nd rfl (.inl rfl) (pe_op op_cat (pv 1) (pe_ifExp (pt_val (pe_callB call_isV (by rfl) T.b_isinstance (by decide +kernel) (pa_cons (pv 0) (pa_cons (pe_glob (v := .ref (gA mg "InvalidPasses")) (by rfl) (T.n_cls "InvalidPasses" (by decide +kernel)) rfl (by decide)) pa_nil)))) (pe_lst (pa_cons pe_str pa_nil)) (pe_lst pa_nil))))
      (pss_cons (ps_set (i := 1) nd rfl (.inl rfl) (pe_op op_cat (pv 1) (pe_ifExp (pt_val (pe_callB call_isV (by rfl) T.b_isinstance (by decide +kernel) (pa_cons (pv 0) (pa_cons (pe_glob (v := .ref (gA mg "InvalidInputs")) (by rfl) (T.n_cls "InvalidInputs" (by decide +kernel)) rfl (by decide)) pa_nil)))) (pe_lst (pa_cons pe_str pa_nil)) (pe_lst pa_nil))))
      (pss_cons (ps_set (i := 1) nd rfl (.inl rfl) (pe_op op_cat (pv 1) (pe_ifExp (pt_val (pe_callB call_isV (by rfl) T.b_isinstance (by decide +kernel) (pa_cons (pv 0) (pa_cons (pe_glob (v := .ref (gA mg "InvalidWhen")) (by rfl) (T.n_cls "InvalidWhen" (by decide +kernel)) rfl (by decide)) pa_nil)))) (pe_lst (pa_cons pe_str pa_nil)) (pe_lst pa_nil))))
      (pss_cons (ps_set (i := 1) nd rfl (.inl rfl) (pe_op op_cat (pv 1) (pe_ifExp (pt_val (pe_callB call_isV (by rfl) T.b_isinstance (by decide +kernel) (pa_cons (pv 0) (pa_cons (pe_glob (v := .ref (gA mg "InvalidCells")) (by rfl) (T.n_cls "InvalidCells" (by decide +kernel)) rfl (by decide)) pa_nil)))) (pe_lst (pa_cons pe_str pa_nil)) (pe_lst pa_nil))))
      (pss_cons (ps_set (i := 1) nd rfl (.inl rfl) (pe_op op_cat (pv 1) (pe_ifExp (pt_val (pe_callB call_isV (by rfl) T.b_isinstance (by decide +kernel) (pa_cons (pv 0) (pa_cons (pe_glob (v := .ref (gA mg "InvalidRoots")) (by rfl) (T.n_cls "InvalidRoots" (by decide +kernel)) rfl (by decide)) pa_nil)))) (pe_lst (pa_cons pe_str pa_nil)) (pe_lst pa_nil))))
      (pss_cons (ps_set (i := 1) nd rfl (.inl rfl) (pe_op op_cat (pv 1) (pe_ifExp (pt_val (pe_callB call_isV (by rfl) T.b_isinstance (by decide +kernel) (pa_cons (pv 0) (pa_cons (pe_glob (v := .ref (gA mg "InvalidParts")) (by rfl) (T.n_cls "InvalidParts" (by decide +kernel)) rfl (by decide)) pa_nil)))) (pe_lst (pa_cons pe_str pa_nil)) (pe_lst pa_nil))))
      (pss_cons (ps_set (i := 1) nd rfl (.inl rfl) (pe_op op_cat (pv 1) (pe_ifExp (pt_val (pe_callB call_isV (by rfl) T.b_isinstance (by decide +kernel) (pa_cons (pv 0) (pa_cons (pe_glob (v := .ref (gA mg "InvalidChoices")) (by rfl) (T.n_cls "InvalidChoices" (by decide +kernel)) rfl (by decide)) pa_nil)))) (pe_lst (pa_cons pe_str pa_nil)) (pe_lst pa_nil))))
      (pss_cons (ps_set (i := 1) nd rfl (.inl rfl) (pe_op op_cat (pv 1) (pe_ifExp (pt_val (pe_callB call_isV (by rfl) T.b_isinstance (by decide +kernel) (pa_cons (pv 0) (pa_cons (pe_glob (v := .ref (gA mg "InvalidRows")) (by rfl) (T.n_cls "InvalidRows" (by decide +kernel)) rfl (by decide)) pa_nil)))) (pe_lst (pa_cons pe_str pa_nil)) (pe_lst pa_nil))))
      (pss_one (ps_ret (pv 1)))))))))))))))))))))), ?_⟩
    refine kind_first hv hi (X := "InvalidText") (by decide +kernel) rfl fun l0 H0 e0 h0 => ?_
    have z0 : (if x = ("InvalidText" : Str) then [("InvalidText" : Str)] else []).length ≤ 1 := by split <;> decide
    refine kind_next h0 (Nat.le_trans z0 (by decide)) (hv.ex e0) hi (X := "InvalidProgram") (by decide +kernel) rfl fun l1 H1 f1 h1 => ?_
    have e1 := e0.trans f1
    have z1 := len_if (x := x) (X := "InvalidProgram") z0
    refine kind_next h1 (Nat.le_trans z1 (by decide)) (hv.ex e1) hi (X := "InvalidNumber") (by decide +kernel) rfl fun l2 H2 f2 h2 => ?_
    have e2 := e1.trans f2
    have z2 := len_if (x := x) (X := "InvalidNumber") z1
    refine kind_next h2 (Nat.le_trans z2 (by decide)) (hv.ex e2) hi (X := "InvalidMachine") (by decide +kernel) rfl fun l3 H3 f3 h3 => ?_
    have e3 := e2.trans f3
    have z3 := len_if (x := x) (X := "InvalidMachine") z2
    refine kind_next h3 (Nat.le_trans z3 (by decide)) (hv.ex e3) hi (X := "InvalidCode") (by decide +kernel) rfl fun l4 H4 f4 h4 => ?_
    have e4 := e3.trans f4
    have z4 := len_if (x := x) (X := "InvalidCode") z3
    refine kind_next h4 (Nat.le_trans z4 (by decide)) (hv.ex e4) hi (X := "InvalidLine") (by decide +kernel) rfl fun l5 H5 f5 h5 => ?_
    have e5 := e4.trans f5
    have z5 := len_if (x := x) (X := "InvalidLine") z4
    refine kind_next h5 (Nat.le_trans z5 (by decide)) (hv.ex e5) hi (X := "InvalidCommand") (by decide +kernel) rfl fun l6 H6 f6 h6 => ?_
    have e6 := e5.trans f6
    have z6 := len_if (x := x) (X := "InvalidCommand") z5
    refine kind_next h6 (Nat.le_trans z6 (by decide)) (hv.ex e6) hi (X := "InvalidPass") (by decide +kernel) rfl fun l7 H7 f7 h7 => ?_
    have e7 := e6.trans f7
    have z7 := len_if (x := x) (X := "InvalidPass") z6
    refine kind_next h7 (Nat.le_trans z7 (by decide)) (hv.ex e7) hi (X := "UnknownName") (by decide +kernel) rfl fun l8 H8 f8 h8 => ?_
    have e8 := e7.trans f8
    have z8 := len_if (x := x) (X := "UnknownName") z7
    refine kind_next h8 (Nat.le_trans z8 (by decide)) (hv.ex e8) hi (X := "OutOfRange") (by decide +kernel) rfl fun l9 H9 f9 h9 => ?_
    have e9 := e8.trans f9
    have z9 := len_if (x := x) (X := "OutOfRange") z8
    refine kind_next h9 (Nat.le_trans z9 (by decide)) (hv.ex e9) hi (X := "TooMany") (by decide +kernel) rfl fun l10 H10 f10 h10 => ?_
    have e10 := e9.trans f10
    have z10 := len_if (x := x) (X := "TooMany") z9
    refine kind_next h10 (Nat.le_trans z10 (by decide)) (hv.ex e10) hi (X := "NotADesk") (by decide +kernel) rfl fun l11 H11 f11 h11 => ?_
    have e11 := e10.trans f11
    have z11 := len_if (x := x) (X := "NotADesk") z10
    refine kind_next h11 (Nat.le_trans z11 (by decide)) (hv.ex e11) hi (X := "InvalidPasses") (by decide +kernel) rfl fun l12 H12 f12 h12 => ?_
    have e12 := e11.trans f12
    have z12 := len_if (x := x) (X := "InvalidPasses") z11
    refine kind_next h12 (Nat.le_trans z12 (by decide)) (hv.ex e12) hi (X := "InvalidInputs") (by decide +kernel) rfl fun l13 H13 f13 h13 => ?_
    have e13 := e12.trans f13
    have z13 := len_if (x := x) (X := "InvalidInputs") z12
    refine kind_next h13 (Nat.le_trans z13 (by decide)) (hv.ex e13) hi (X := "InvalidWhen") (by decide +kernel) rfl fun l14 H14 f14 h14 => ?_
    have e14 := e13.trans f14
    have z14 := len_if (x := x) (X := "InvalidWhen") z13
    refine kind_next h14 (Nat.le_trans z14 (by decide)) (hv.ex e14) hi (X := "InvalidCells") (by decide +kernel) rfl fun l15 H15 f15 h15 => ?_
    have e15 := e14.trans f15
    have z15 := len_if (x := x) (X := "InvalidCells") z14
    refine kind_next h15 (Nat.le_trans z15 (by decide)) (hv.ex e15) hi (X := "InvalidRoots") (by decide +kernel) rfl fun l16 H16 f16 h16 => ?_
    have e16 := e15.trans f16
    have z16 := len_if (x := x) (X := "InvalidRoots") z15
    refine kind_next h16 (Nat.le_trans z16 (by decide)) (hv.ex e16) hi (X := "InvalidParts") (by decide +kernel) rfl fun l17 H17 f17 h17 => ?_
    have e17 := e16.trans f17
    have z17 := len_if (x := x) (X := "InvalidParts") z16
    refine kind_next h17 (Nat.le_trans z17 (by decide)) (hv.ex e17) hi (X := "InvalidChoices") (by decide +kernel) rfl fun l18 H18 f18 h18 => ?_
    have e18 := e17.trans f18
    have z18 := len_if (x := x) (X := "InvalidChoices") z17
    refine kind_next h18 (Nat.le_trans z18 (by decide)) (hv.ex e18) hi (X := "InvalidRows") (by decide +kernel) rfl fun l19 H19 f19 h19 => ?_
    have e19 := e18.trans f19
    have z19 := len_if (x := x) (X := "InvalidRows") z18
    refine ⟨_, rfl, k l19 H19 e19 ?_⟩
    rw [h19]
    simp only [n_kinds_a, sel, List.append_assoc, List.append_nil]
def n_kinds_b : List Str := ["Refused", "Endless", "Unlike", "NotUsed", "NothingToUndo"]
theorem bd_kinds_b : BindP "_law_kinds_b" s_law_kinds_b ["e"] := fun _ _ _ _ _ _ us hl => match us, hl with | [_], _ => rfl
theorem ok_kinds_b (T : Txt K mg) : DefOk P w K mg base CX0 false 1 "_law_kinds_b" s_law_kinds_b ["e"] (spKinds mg n_kinds_b) := by
  refine T.d_law_kinds_b.ok scs_law_kinds_b (fun vs H Q E h => ?_) (fun f cdv A outer s H vs Q E hr h => ?_)
  · obtain ⟨_, _, rfl, _⟩ := h
    rfl
  · obtain ⟨e, x, rfl, hv, hm, k⟩ := h
    have nd := scs_law_kinds_b.nd
    have hi := T.e_is x hm
    refine ⟨_, pss_cons (ps_set (i := 1) nd rfl (.inl rfl) (pe_ifExp (pt_val (pe_callB call_isV (by rfl) T.b_isinstance (by decide +kernel) (pa_cons (pv 0) (pa_cons (pe_glob (v := .ref (gA mg "Refused")) (by rfl) (T.n_cls "Refused" (by decide +kernel)) rfl (by decide)) pa_nil)))) (pe_lst (pa_cons pe_str pa_nil)) (pe_lst pa_nil)))
      (pss_cons (ps_set (i := 1) nd rfl (.inl rfl) (pe_op op_cat (pv 1) (pe_ifExp (pt_val (pe_callB call_isV (by rfl) T.b_isinstance (by decide +kernel) (pa_cons (pv 0) (pa_cons (pe_glob (v := .ref (gA mg "Endless")) (by rfl) (T.n_cls "Endless" (by decide +kernel)) rfl (by decide)) pa_nil)))) (pe_lst (pa_cons pe_str pa_nil)) (pe_lst pa_nil))))
      (pss_cons (ps_set (i := 1) nd rfl (.inl rfl) (pe_op op_cat (pv 1) (pe_ifExp (pt_val (pe_callB call_isV (by rfl) T.b_isinstance (by decide +kernel) (pa_cons (pv 0) (pa_cons (pe_glob (v := .ref (gA mg "Unlike")) (by rfl) (T.n_cls "Unlike" (by decide +kernel)) rfl (by decide)) pa_nil)))) (pe_lst (pa_cons pe_str pa_nil)) (pe_lst pa_nil))))
      (pss_cons (ps_set (i := 1) nd rfl (.inl rfl) (pe_op op_cat (pv 1) (pe_ifExp (pt_val (pe_callB call_isV (by rfl) T.b_isinstance (by decide +kernel) (pa_cons (pv 0) (pa_cons (pe_glob (v := .ref (gA mg "NotUsed")) (by rfl) (T.n_cls "NotUsed" (by decide +kernel)) rfl (by decide)) pa_nil)))) (pe_lst (pa_cons pe_str pa_nil)) (pe_lst pa_nil))))
      (pss_cons (ps_set (i := 1) nd rfl (.inl rfl) (pe_op op_cat (pv 1) (pe_ifExp (pt_val (pe_callB call_isV (by rfl) T.b_isinstance (by decide +kernel) (pa_cons (pv 0) (pa_cons (pe_glob (v := .ref (gA mg "NothingToUndo")) (by rfl) (T.n_cls "NothingToUndo" (by decide +kernel)) rfl (by decide)) pa_nil)))) (pe_lst (pa_cons pe_str pa_nil)) (pe_lst pa_nil))))
      (pss_one (ps_ret (pv 1))))))), ?_⟩
    refine kind_first hv hi (X := "Refused") (by decide +kernel) rfl fun l0 H0 e0 h0 => ?_
    have z0 : (if x = ("Refused" : Str) then [("Refused" : Str)] else []).length ≤ 1 := by split <;> decide
    refine kind_next h0 (Nat.le_trans z0 (by decide)) (hv.ex e0) hi (X := "Endless") (by decide +kernel) rfl fun l1 H1 f1 h1 => ?_
    have e1 := e0.trans f1
    have z1 := len_if (x := x) (X := "Endless") z0
    refine kind_next h1 (Nat.le_trans z1 (by decide)) (hv.ex e1) hi (X := "Unlike") (by decide +kernel) rfl fun l2 H2 f2 h2 => ?_
    have e2 := e1.trans f2
    have z2 := len_if (x := x) (X := "Unlike") z1
    refine kind_next h2 (Nat.le_trans z2 (by decide)) (hv.ex e2) hi (X := "NotUsed") (by decide +kernel) rfl fun l3 H3 f3 h3 => ?_
    have e3 := e2.trans f3
    have z3 := len_if (x := x) (X := "NotUsed") z2
    refine kind_next h3 (Nat.le_trans z3 (by decide)) (hv.ex e3) hi (X := "NothingToUndo") (by decide +kernel) rfl fun l4 H4 f4 h4 => ?_
    have e4 := e3.trans f4
    have z4 := len_if (x := x) (X := "NothingToUndo") z3
    refine ⟨_, rfl, k l4 H4 e4 ?_⟩
    rw [h4]
    simp only [n_kinds_b, sel, List.append_assoc, List.append_nil]
end
end K1

set_option maxHeartbeats 400000
namespace K1
open PySem L2 Evl DL PySem.W
section
variable {P : Program} {w : World} {K : PySem.W.Frag} {mg : Str → Option Value} {base : Heap} {CX : CXT}
/-! ### an error is of its own class alone -/
theorem sel_two : ∀ x ∈ cls25, sel x n_kinds_a ++ sel x n_kinds_b = [x] := by decide +kernel
theorem sel_len : ∀ x ∈ cls25, (sel x n_kinds_a).length + (sel x n_kinds_b).length ≤ 30 := by decide +kernel
def ownD (x : Str) : PyData := .list [.list [.str x], .bool true, .bool true, .bool false]
theorem shows_own : ∀ x ∈ cls25, Shows (ownD x) := fun x hx => by
  have a : (cls25.all fun x => (ownD x).showable && (decide ((ownD x).depth ≤ 40) && decide ((ownD x).shown.length ≤ 1000))) = true := by decide +kernel
  have b := List.all_eq_true.mp a x hx
  simp only [Bool.and_eq_true, decide_eq_true_eq] at b
  exact ⟨b.1, b.2.1, Nat.le_trans b.2.2 (by decide)⟩
def spOwn (mg : Str → Option Value) : Sp := fun vs H Q _ => ∃ (e : Addr) (x : Str), vs = [.ref e, .str x] ∧ XV H e (gA mg x) ∧ x ∈ cls25 ∧ ∀ H', Ex H H' → Q (.bl true) H'
theorem bd_own : BindP "_law_is_own" s_law_is_own ["e", "word"] := fun _ _ _ _ _ _ us hl => match us, hl with | [_, _], _ => rfl
theorem ok_own (T : Txt K mg) : DefOk P w K mg base CX0 true 2 "_law_is_own" s_law_is_own ["e", "word"] (spOwn mg) := by
  refine T.d_law_is_own.okG scs_law_is_own (fun vs H Q E h => ?_) (fun f cdv A outer s0 H vs Q E hg hr h => ?_)
  · obtain ⟨e, x, rfl, _⟩ := h
    rfl
  · obtain ⟨e, x, rfl, hv, hm, k⟩ := h
    have nd := scs_law_is_own.nd
    have hi := T.e_is x hm
    refine ⟨_, pss_cut (ps_set (i := 2) nd rfl (.inl rfl) (pe_callB call_isVT (by rfl) T.b_isinstance (by decide +kernel) (pa_cons (pv 0) (pa_cons (pe_tup (pa_cons (pe_bltn (v := .ty "TypeError") (by rfl) T.n_TypeError (by decide +kernel) rfl) (pa_cons (pe_bltn (v := .ty "LookupError") (by rfl) T.n_LookupError (by decide +kernel) rfl)
        (pa_cons (pe_bltn (v := .ty "ArithmeticError") (by rfl) T.n_ArithmeticError (by decide +kernel) rfl) (pa_cons (pe_bltn (v := .ty "AttributeError") (by rfl) T.n_AttributeError (by decide +kernel) rfl) (pa_cons (pe_bltn (v := .ty "RuntimeError") (by rfl) T.n_RuntimeError (by decide +kernel) rfl) pa_nil)))))) pa_nil))))
      (pss_cut (ps_set (i := 3) nd rfl (.inl rfl) (pe_op op_cat (pe_callD (ok_kinds_a T) hr (.inl rfl) bd_kinds_a pass0 (pa_cons (pv 0) pa_nil)) (pe_callD (ok_kinds_b T) hr (.inl rfl) bd_kinds_b pass0 (pa_cons (pv 0) pa_nil))))
      (pss_one (ps_ret (pe_callD (ok_is T) hr (.inr hg) bd_is pass0 (pa_cons (pe_lst (pa_cons (pv 3) (pa_cons (pe_callB call_isV (by rfl) T.b_isinstance (by decide +kernel) (pa_cons (pv 0) (pa_cons (pe_glob (v := .ref (gA mg "KeptError")) (by rfl) T.n_Kept rfl (by decide)) pa_nil)))
          (pa_cons (pe_callB call_isV (by rfl) T.b_isinstance (by decide +kernel) (pa_cons (pv 0) (pa_cons (pe_bltn (v := .ty "ValueError") (by rfl) T.n_ValueError (by decide +kernel) rfl) pa_nil))) (pa_cons (pv 2) pa_nil)))))
        (pa_cons (pe_lst (pa_cons (pe_lst (pa_cons (pv 1) pa_nil)) (pa_cons pe_bl (pa_cons pe_bl (pa_cons pe_bl pa_nil))))) pa_nil)))))), ?_⟩
    refine ⟨fun σ' H' => σ' = [some (.ref e), some (.str x), some (.bl false), none] ∧ Ex H H', ?_, ?_⟩
    · exact ⟨_, rfl, by decide, fun tp htp => ⟨e, gA mg x, tp, _, outs.map Value.type, false, rfl, hv.ex (Ex.new htp), hi.exc, upd_same, .cons (.ty _) (.cons (.ty _) (.cons (.ty _) (.cons (.ty _) (.cons (.ty _) .nil)))), hi.no, rfl, Ex.new htp⟩⟩
    rintro _ H1 ⟨rfl, e1⟩
    refine ⟨fun σ' H' => ∃ l, σ' = [some (.ref e), some (.str x), some (.bl false), some (.ref l)] ∧ Ex H H' ∧ H' l = some (.lst [.str x]), ?_, ?_⟩
    · refine ⟨_, rfl, e, x, rfl, hv.ex e1, hm, fun l2 H2 e2 h2 => ⟨_, rfl, e, x, rfl, hv.ex (e1.trans e2), hm, fun l3 H3 e3 h3 => ⟨l2, l3, _, _, rfl, rfl, e3 _ _ h2, h3, ?_, fun c hc => ⟨c, rfl, ((e1.trans e2).trans e3).trans (Ex.new hc), ?_⟩⟩⟩⟩
      · rw [List.length_map, List.length_map]
        exact Nat.le_trans (sel_len x hm) (by decide)
      · rw [upd_same, ← List.map_append, sel_two x hm]
        rfl
    rintro _ H2 ⟨l, rfl, e2, hl⟩
    refine ⟨_, rfl, _, rfl, e, gA mg x, .ref (gA mg "KeptError"), _, true, rfl, hv.ex e2, hi.exc, .own _, hi.top, _, rfl, e, gA mg x, .ty "ValueError", _, true, rfl, hv.ex e2, hi.exc, .ty _, hi.ve, _, rfl, (by show 4 ≤ sizeLine; decide), fun p hp => ?_⟩
    have e3 : Ex H2 (L2.upd H2 p (.lst [.ref l, .bl true, .bl true, .bl false])) := Ex.new hp
    refine ⟨_, rfl, (by show 1 ≤ sizeLine; decide), fun q hq => ?_⟩
    have e4 : Ex (L2.upd H2 p (.lst [.ref l, .bl true, .bl true, .bl false])) (L2.upd (L2.upd H2 p (.lst [.ref l, .bl true, .bl true, .bl false])) q (.lst [.str x])) := Ex.new hq
    refine ⟨(by show 4 ≤ sizeLine; decide), fun r hr' => ?_⟩
    have e5 : Ex (L2.upd (L2.upd H2 p (.lst [.ref l, .bl true, .bl true, .bl false])) q (.lst [.str x])) _ := Ex.new (o := .lst [.ref q, .bl true, .bl true, .bl false]) hr'
    refine ⟨.ref p, .ref r, ownD x, rfl, .inl ?_, .inl ?_, shows_own x hm, k _ (((e2.trans e3).trans e4).trans e5)⟩
    · exact .lst (sq_of (e5 _ _ (e4 _ _ upd_same))) (.cons (.lst (sq_of (e5 _ _ (e4 _ _ (e3 _ _ hl)))) (.cons (.str _) .nil)) (.cons (.bl _) (.cons (.bl _) (.cons (.bl _) .nil))))
    · exact .lst (sq_of upd_same) (.cons (.lst (sq_of (e5 _ _ upd_same)) (.cons (.str _) .nil)) (.cons (.bl _) (.cons (.bl _) (.cons (.bl _) .nil))))
/-! ### the law about one draw -/
def spRgt : Sp := fun vs H Q _ => ∃ p, vs = [.ref p] ∧ Pail H p ∧ ∀ H', Kp [p] H H' → Q (.bl true) H'
theorem bd_rgt : BindP "_law_right" s_law_right ["well"] := fun _ _ _ _ _ _ us hl => match us, hl with | [_], _ => rfl
theorem tab_cls : ∀ p ∈ tabE, p.1 ∈ cls25 := by decide +kernel
theorem tab_giv : ∀ p ∈ tabE, (p.1 ∈ giv ↔ p.2 = "given") ∧ (p.1 ∉ giv ↔ p.2 = "index") := by decide +kernel
theorem inV_strs (x : Str) : ∀ xs : List Str, inV (.str x) (xs.map V.str) = decide (x ∈ xs)
  | [] => by rfl
  | y :: r => by
    show (eqV (.str y) (.str x) || inV (.str x) (r.map V.str)) = _
    rw [inV_strs x r]
    by_cases h : y = x
    · subst h
      have : eqV (.str y) (.str y) = true := by simp [eqV]
      rw [this, decide_eq_true List.mem_cons_self]
      rfl
    · have e1 : eqV (.str y) (.str x) = false := by simp [eqV, h]
      rw [e1, Bool.false_or]
      refine decide_eq_decide.mpr ⟨fun m => List.mem_cons_of_mem _ m, fun m => ?_⟩
      rcases List.mem_cons.mp m with rfl | m
      · exact absurd rfl h
      · exact m
theorem flat_strs (xs : List Str) : (xs.map V.str).all flatV = true := by
  rw [List.all_eq_true]
  intro v hv
  obtain ⟨x, _, rfl⟩ := List.mem_map.mp hv
  rfl
theorem words_tab {i : Nat} {x : V} (h : (giv.map V.str ++ idx.map V.str)[i]? = some x) : ∃ word fld, x = .str word ∧ (word, fld) ∈ tabE := by
  have m := List.mem_of_getElem? h
  rcases List.mem_append.mp m with m | m
  · obtain ⟨y, hy, rfl⟩ := List.mem_map.mp m
    exact ⟨y, "given", rfl, List.mem_append_left _ (List.mem_map.mpr ⟨y, hy, rfl⟩)⟩
  · obtain ⟨y, hy, rfl⟩ := List.mem_map.mp m
    exact ⟨y, "index", rfl, List.mem_append_right _ (List.mem_map.mpr ⟨y, hy, rfl⟩)⟩
theorem pail_at {p : Addr} {H : Hp} (h : Pail H p) : H p ≠ none := by
  obtain ⟨_, _, _, z⟩ := h
  rw [z]
  exact fun e => nomatch e
theorem pail_ex {p : Addr} {H H' : Hp} (h : Pail H p) (e : Ex H H') : Pail H' p := by
  obtain ⟨_, _, _, z⟩ := h
  exact ⟨_, _, _, e _ _ z⟩
end
end K1

set_option maxHeartbeats 400000
namespace K1
open PySem L2 Evl DL PySem.W
section
variable {P : Program} {w : World} {K : PySem.W.Frag} {mg : Str → Option Value} {base : Heap} {CX : CXT}
theorem bl_pair {i : Nat} {x : V} (h : ([.bl false, .bl true] : List V)[i]? = some x) : ∃ b, x = .bl b := by
  have m := List.mem_of_getElem? h
  simp only [List.mem_cons, List.not_mem_nil, or_false] at m
  rcases m with rfl | rfl
  · exact ⟨_, rfl⟩
  · exact ⟨_, rfl⟩
theorem ok_rgt (T : Txt K mg) (R : Ers P w K mg base) : DefOk P w K mg base CX0 true 5 "_law_right" s_law_right ["well"] spRgt := by
  refine T.d_law_right.okG scs_law_right (fun vs H Q E h => ?_) (fun f cdv A outer s0 H vs Q E hg hr h => ?_)
  · obtain ⟨p, rfl, _⟩ := h
    rfl
  · obtain ⟨p, rfl, hp, kk⟩ := h
    have nd := scs_law_right.nd
    have hr1 : Room 1 _ := hr.mono (by decide)
    have hr2 : Room 2 _ := hr.mono (by decide)
    have hr3 : Room 3 _ := hr.mono (by decide)
    have hun := hr.un
    refine ⟨_, pss_cut (ps_for PassesOwn.never rfl (pi_list (pe_op op_cat (pe_callD0 (ok_given T) hr1 (.inl rfl) bd_given pass0) (pe_callD0 (ok_index T) hr1 (.inl rfl) bd_index pass0))) (pg_name (i := 1) nd rfl (.inl rfl))
        (pss_one (ps_for PassesOwn.never rfl (pi_tup (pe_tup (pa_cons pe_bl (pa_cons pe_bl pa_nil)))) (pg_name (i := 2) nd rfl (.inl rfl))
          (pss_cut (ps_set (i := 3) nd rfl (.inl rfl) (pe_callD (ok_val T) hr3 (.inl rfl) bd_val pass0 (pa_cons (pv 0) pa_nil)))
          (pss_cut (ps_set (i := 4) nd rfl (.inl rfl) (pe_callD (ok_made T R) hr (.inl rfl) bd_made pass0 (pa_cons (pv 1) (pa_cons (pv 3) (pa_cons (pv 2) pa_nil)))))
          (pss_cut (ps_set (i := 5) nd rfl (.inl rfl) (pe_ifExp (pt_cmpR op_in_seq (pv 1) (pe_callD0 (ok_given T) hr1 (.inl rfl) bd_given pass0) (by with_unfolding_all rfl)) (pe_xfV (pv 4)) (pe_xfV (pv 4))))
          (pss_one (ps_if (PW.pt (pw_or (pt_not (pt_val (pe_callD (ok_is T) hr1 (.inr hg) bd_is pass0 (pa_cons (pv 5) (pa_cons (pv 3) pa_nil))))) (pw_or1 (pt_not (pt_val (pe_callD (ok_own T) hr2 (.inr hg) bd_own pass0 (pa_cons (pv 4) (pa_cons (pv 1) pa_nil)))))))) (pss_one (ps_ret pe_bl)) pss_nil))))))))
      (pss_cut (ps_set (i := 6) nd rfl (.inl rfl) (pe_lst (pa_cons (pe_callD (ok_own T) hr2 (.inr hg) bd_own pass0 (pa_cons (pe_err0 (T.e_0 "Endless" (by decide +kernel))) (pa_cons pe_str pa_nil))) (pa_cons (pe_callD (ok_own T) hr2 (.inr hg) bd_own pass0 (pa_cons (pe_err0 (T.e_0 "Unlike" (by decide +kernel))) (pa_cons pe_str pa_nil))) pa_nil))))
      (pss_cut (ps_set (i := 6) nd rfl (.inl rfl) (pe_op op_cat (pv 6) (pe_lst (pa_cons (pe_callD (ok_own T) hr2 (.inr hg) bd_own pass0 (pa_cons (pe_err0 (T.e_0 "NotUsed" (by decide +kernel))) (pa_cons pe_str pa_nil))) (pa_cons (pe_callD (ok_own T) hr2 (.inr hg) bd_own pass0 (pa_cons (pe_err0 (T.e_0 "NothingToUndo" (by decide +kernel))) (pa_cons pe_str pa_nil))) pa_nil)))))
      (pss_one (ps_ret (pe_cmpR (op_eqD hr.units) (pv 6) (pe_op op_rep (pe_lst (pa_cons pe_bl pa_nil)) pe_int) (nomark _)))))), ?_⟩
    have np := pail_at hp
    -- the classes that keep something
    refine ⟨fun σ' H' => ∃ y1 y2 y3 y4 y5 : Option V, σ' = [some (.ref p), y1, y2, y3, y4, y5, none] ∧ Kp [p] H H' ∧ Pail H' p, ?_, ?_⟩
    · refine ⟨rfl, fun l1 h1 => ⟨rfl, fun l2 h2 => ⟨l1, l2, _, _, rfl, rfl, Ex.new h2 _ _ upd_same, upd_same, by decide, fun c hc => ⟨c, rfl, ⟨_, sq_of upd_same⟩, ?_⟩⟩⟩⟩
      have e0 : Ex H (L2.upd (L2.upd (L2.upd H l1 (.lst (giv.map V.str))) l2 (.lst (idx.map V.str))) c (.lst (giv.map V.str ++ idx.map V.str))) := ((Ex.new h1).trans (Ex.new h2)).trans (Ex.new hc)
      have ncp : c ≠ p := new_ne (there_ex ((Ex.new h1).trans (Ex.new h2)) np) hc
      generalize hG : L2.upd (L2.upd (L2.upd H l1 (.lst (giv.map V.str))) l2 (.lst (idx.map V.str))) c (.lst (giv.map V.str ++ idx.map V.str)) = G at e0 ⊢
      have hcG : G c = some (.lst (giv.map V.str ++ idx.map V.str)) := by rw [← hG]; exact upd_same
      refine for_list (K := K) (a := c) (xs := giv.map V.str ++ idx.map V.str) (fun i σ' H' => ∃ y1 y2 y3 y4 y5 : Option V, σ' = [some (.ref p), y1, y2, y3, y4, y5, none] ∧ Kp [p] G H' ∧ Pail H' p)
        ⟨none, none, none, none, none, rfl, Kp.refl _, pail_ex hp e0⟩ (fun i σ' H' _ z => ?_) ?_ ?_
      · obtain ⟨_, _, _, _, _, _, k1, _⟩ := z
        exact kp_l k1 (by simpa using ncp) (sq_of hcG)
      · rintro i x σ' H1 hi ⟨y1, y2, y3, y4, y5, rfl, k1, P1⟩
        obtain ⟨word, fld, rfl, hm⟩ := words_tab hi
        refine ⟨by decide, fun t ht => ⟨t, rfl, ⟨_, st_of upd_same⟩, ?_⟩⟩
        have ntp : t ≠ p := new_ne (pail_at P1) ht
        have e1 : Ex H1 (L2.upd H1 t (.tup [.bl false, .bl true])) := Ex.new ht
        refine for_tup (K := K) (a := t) (xs := [.bl false, .bl true]) (fun i σ' H' => ∃ y2 y3 y4 y5 : Option V, σ' = [some (.ref p), some (.str word), y2, y3, y4, y5, none] ∧ Kp [p] (L2.upd H1 t (.tup [.bl false, .bl true])) H' ∧ Pail H' p)
          ⟨_, _, _, _, rfl, Kp.refl _, pail_ex P1 e1⟩ (fun i σ' H' _ z => ?_) ?_ ?_
        · obtain ⟨_, _, _, _, _, k2, _⟩ := z
          exact kp_t k2 (by simpa using ntp) (st_of upd_same)
        · rintro j x σ' H2 hj ⟨z2, z3, z4, z5, rfl, k2, P2⟩
          obtain ⟨b, rfl⟩ := bl_pair hj
          -- the value
          refine ⟨fun σ' H' => ∃ v d, σ' = [some (.ref p), some (.str word), some (.bl b), some v, z4, z5, none] ∧ Kp [p] H2 H' ∧ Pail H' p ∧ RvD K H' v d ∧ Shows d, ?_, ?_⟩
          · exact ⟨_, rfl, p, rfl, P2, fun v d H' r s k P' => ⟨v, d, rfl, k, P', r, s⟩⟩
          rintro _ H3 ⟨v, d, rfl, k3, P3, hv, hs⟩
          -- the error
          refine ⟨fun σ' H' => ∃ e dx, σ' = [some (.ref p), some (.str word), some (.bl b), some v, some (.ref e), z5, none] ∧ Ex H3 H' ∧ H' e = some (exo e (gA mg word) (some dx)) ∧ H' dx = some (exd dx [(fld, v)]), ?_, ?_⟩
          · exact ⟨_, rfl, _, rfl, _, rfl, word, fld, v, b, rfl, hm, fun e dx he hd hne => ⟨e, dx, rfl, (Ex.new hd).trans (Ex.new (by rw [upd_ne hne.symm]; exact he)), upd_same, by rw [upd_ne hne, upd_same]⟩⟩
          rintro _ H4 ⟨e, dx, rfl, e4, hE, hD⟩
          have er := R.e (word, fld) hm
          -- what it keeps
          refine ⟨fun σ' H' => σ' = [some (.ref p), some (.str word), some (.bl b), some v, some (.ref e), some v, none] ∧ Ex H4 H', ?_, ?_⟩
          · refine ⟨_, rfl, rfl, fun l hl => ⟨l, giv.map V.str, rfl, .inl (sq_of upd_same), rfl, flat_strs _, _, rfl, ?_⟩⟩
            have hb : (if false = true then !inV (.str word) (giv.map V.str) else inV (.str word) (giv.map V.str)) = decide (word ∈ giv) := by rw [if_neg Bool.false_ne_true, inV_strs]
            rw [hb]
            have el : Ex H4 (L2.upd H4 l (.lst (giv.map V.str))) := Ex.new hl
            have tg := tab_giv (word, fld) hm
            by_cases hw : word ∈ giv
            · have ef : fld = "given" := tg.1.mp hw
              subst ef
              exact itT (decide_eq_true hw) ⟨_, rfl, e, _, dx, _, v, rfl, er.xf, er.bare, el _ _ hE, el _ _ hD, by simp [List.lookup], rfl, el⟩
            · have ef : fld = "index" := tg.2.mp hw
              subst ef
              exact itF (decide_eq_false hw) ⟨_, rfl, e, _, dx, _, v, rfl, er.xf, er.bare, el _ _ hE, el _ _ hD, by simp [List.lookup], rfl, el⟩
          rintro _ H5 ⟨rfl, e5⟩
          have hv5 := rvd_ex e5 (rvd_ex e4 hv)
          have hX : XV H5 e (gA mg word) := .inl ⟨dx, _, e5 _ _ hE, e5 _ _ hD⟩
          refine ⟨_, rfl, _, rfl, v, v, d, rfl, hv5, hv5, hs, true, rfl, itF rfl ?_⟩
          refine ⟨_, rfl, _, rfl, e, word, rfl, hX, tab_cls (word, fld) hm, fun H6 e6 => ⟨true, rfl, itF rfl ?_⟩⟩
          exact ⟨_, _, _, _, rfl, ((k2.trans k3).trans (Kp.of (e4.trans e5))).trans (Kp.of e6), pail_ex (pail_ex P3 (e4.trans e5)) e6⟩
        · rintro σ' H2 ⟨z2, z3, z4, z5, rfl, k2, P2⟩
          exact ⟨_, _, _, _, _, rfl, (k1.trans (Kp.of e1)).trans k2, P2⟩
      · rintro σ' H1 ⟨y1, y2, y3, y4, y5, rfl, k1, P1⟩
        exact ⟨_, _, _, _, _, rfl, (Kp.of e0).trans k1, P1⟩
    rintro _ H1 ⟨y1, y2, y3, y4, y5, rfl, k1, P1⟩
    -- those that keep nothing
    refine ⟨fun σ' H' => ∃ l, σ' = [some (.ref p), y1, y2, y3, y4, y5, some (.ref l)] ∧ Ex H1 H' ∧ H' l = some (.lst [.bl true, .bl true]), ?_, ?_⟩
    · exact fun a1 ha1 => ⟨a1, "Endless", rfl, .inr upd_same, by decide +kernel, fun G1 f1 => fun a2 ha2 => ⟨a2, "Unlike", rfl, .inr upd_same, by decide +kernel, fun G2 f2 => ⟨by decide, fun l hl => ⟨l, rfl, ((((Ex.new ha1).trans f1).trans (Ex.new ha2)).trans f2).trans (Ex.new hl), upd_same⟩⟩⟩⟩
    rintro _ H2 ⟨l, rfl, e2, hl⟩
    refine ⟨fun σ' H' => ∃ l, σ' = [some (.ref p), y1, y2, y3, y4, y5, some (.ref l)] ∧ Ex H2 H' ∧ H' l = some (.lst [.bl true, .bl true, .bl true, .bl true]), ?_, ?_⟩
    · refine ⟨_, rfl, fun a1 ha1 => ⟨a1, "NotUsed", rfl, .inr upd_same, by decide +kernel, fun G1 f1 => fun a2 ha2 => ⟨a2, "NothingToUndo", rfl, .inr upd_same, by decide +kernel, fun G2 f2 => ⟨by decide, fun q hq => ?_⟩⟩⟩⟩
      have eq := ((((Ex.new ha1).trans f1).trans (Ex.new ha2)).trans f2).trans (Ex.new (o := .lst [.bl true, .bl true]) hq)
      exact ⟨l, q, _, _, rfl, rfl, eq _ _ hl, upd_same, by decide, fun c hc => ⟨c, rfl, eq.trans (Ex.new hc), upd_same⟩⟩
    rintro _ H3 ⟨l3, rfl, e3, hl3⟩
    refine ⟨_, rfl, by decide, fun q hq => ⟨q, 4, _, rfl, rfl, upd_same, by decide, by decide, by decide, fun r hr' => ?_⟩⟩
    have e4 := (Ex.new (o := .lst [.bl true]) hq).trans (Ex.new (o := .lst (List.replicate (4 : Int).toNat [V.bl true]).flatten) hr')
    refine ⟨.list [.bool true, .bool true, .bool true, .bool true], .list [.bool true, .bool true, .bool true, .bool true], .lst (sq_of (e4 _ _ hl3)) (.cons (.bl _) (.cons (.bl _) (.cons (.bl _) (.cons (.bl _) .nil)))), .lst (xs := [.bl true, .bl true, .bl true, .bl true]) (sq_of upd_same) (.cons (.bl _) (.cons (.bl _) (.cons (.bl _) (.cons (.bl _) .nil)))), by decide +kernel, by decide +kernel, ?_⟩
    have et : PyData.eqv (.list [.bool true, .bool true, .bool true, .bool true]) (.list [.bool true, .bool true, .bool true, .bool true]) = true := by decide +kernel
    rw [et]
    exact kk _ (k1.trans (Kp.of ((e2.trans e3).trans e4)))
end
end K1

set_option maxHeartbeats 4000000
namespace K1
open PySem L2 Evl DL
section
variable {P : Program} {w : World} {K : PySem.W.Frag} {mg : Str → Option Value} {base : Heap}
theorem exm {H H4 : Hp} {D : Addr} {o : HO} (e : Ex H H4) (h : H D = none) : Ex H (upd H4 D o) := fun x u hx => by
  rw [upd_ne (ne_of_none hx h)]
  exact e x u hx
def spLaw (K : PySem.W.Frag) : Sp := fun vs H Q _ => ∃ (a : Addr) (ns : List Int), vs = [.ref a] ∧ SqL K H a (ns.map V.int) ∧ ns.length ≤ 63 ∧ ∀ H', Q (.bl true) H'
theorem bd_law : BindP "law" s_law ["script"] := fun _ _ _ _ _ _ us hl => match us, hl with | [_], _ => rfl
theorem ok_law (T : Txt K mg) (R : Ers P w K mg base) : DefOk P w K mg base CX0 true 6 "law" s_law ["script"] (spLaw K) := by
  refine T.d_law.okG scs_law (fun vs H Q E h => ?_) (fun f cdv A outer s0 H vs Q E hg hr h => ?_)
  · obtain ⟨a, ns, rfl, _⟩ := h
    rfl
  · obtain ⟨a, ns, rfl, hS, hl, kk⟩ := h
    have nd := scs_law.nd
    have hr1 : Room 1 _ := hr.mono (by decide)
    refine ⟨_, pss_one (ps_ret (pe_callB (cr_all rfl) (by rfl) T.b_all (by decide +kernel) (pa_cons
      (pe_lc (own := [("lap", 1)]) (g := gName 1) (tt := tYes) rfl nd (pi_range1 (by rfl) T.b_range (pa_cons (pe_callB (call_max2 rfl) (by rfl) T.b_max (by decide +kernel) (pa_cons pe_int (pa_cons
          (pe_callB (call_min2 rfl) (by rfl) T.b_min (by decide +kernel) (pa_cons (pe_callB call_len_seq (by rfl) T.b_len PySem.boot_len (pa_cons (pv 0) pa_nil)) (pa_cons pe_int pa_nil))) pa_nil))) pa_nil))
        (blkOk_by (N := ["script", "lap"]) (sc := defScope s_law) (by decide +kernel)) (fun _ _ _ _ _ => pg_name (i := 1) nd rfl (Or.inl rfl)) (fun _ _ _ _ _ => pts_nil)
        (fun _ _ _ _ _ => pe_callD (ok_rgt T R) hr (.inr hg) bd_rgt pass0 (pa_cons (pe_callD (ok_pail T) hr1 (.inl rfl) bd_pail pass0 (pa_cons (pv 0) (pa_cons (pv 1) pa_nil))) pa_nil))) pa_nil))), ?_⟩
    have hb : ∃ n : Nat, n ≤ 2 ∧ (if (if (2 : Int) < (((ns.map V.int).length : Nat) : Int) then (2 : Int) else (((ns.map V.int).length : Nat) : Int)) > 1 then (if (2 : Int) < (((ns.map V.int).length : Nat) : Int) then (2 : Int) else (((ns.map V.int).length : Nat) : Int)) else (1 : Int)) = (n : Int) := by
      generalize (ns.map V.int).length = m
      by_cases h2 : (2 : Int) < (m : Int)
      · exact ⟨2, by decide, by rw [if_pos h2]; rfl⟩
      · rw [if_neg h2]
        by_cases h3 : (m : Int) > 1
        · exact ⟨m, by omega, by rw [if_pos h3]⟩
        · exact ⟨1, by decide, by rw [if_neg h3]; rfl⟩
    obtain ⟨n, hn, hb⟩ := hb
    refine ⟨_, rfl, a, _, rfl, .inl hS, _, _, rfl, _, _, rfl, ?_⟩
    rw [hb]
    refine ⟨_, rfl, by omega, by omega, fun D hD => ?_⟩
    refine lc_range (lo := 0) (n := ((n : Int)).toNat) (fun i H' => Ex H H' ∧ H' D = some (.lst ((List.replicate i true).map V.bl))) ⟨exm (Ex.refl H) hD, upd_same⟩ ?_ ?_
    · rintro i H1 hi ⟨e1, hDD⟩
      have hi2 : i < 2 := by omega
      refine ⟨rfl, lc_yes ⟨_, rfl, _, rfl, a, ns, i, by show [V.ref a, V.int (0 + (i : Int))] = _; rw [Int.zero_add], ex_l e1 hS, by omega, fun p H2 hp e2 P2 => ⟨p, rfl, P2, fun H3 k3 => ⟨_, k3 D _ (fun h => by rw [List.mem_singleton.mp h, hp] at hDD; cases hDD) (e2 D _ hDD), ?_, ?_, ?_⟩⟩⟩⟩
      · rw [List.length_map, List.length_replicate]
        exact Nat.lt_of_lt_of_le hi2 (by decide)
      · refine exm (fun b o hb => ?_) hD
        refine k3 b o (fun h => ?_) (e2 b o (e1 b o hb))
        have := e1 b o hb
        rw [List.mem_singleton.mp h, hp] at this
        cases this
      · rw [upd_same, List.replicate_succ', List.map_append]
        rfl
    · rintro H1 ⟨e1, hDD⟩
      refine ⟨D, _, rfl, sq_of hDD, ?_⟩
      have : (List.replicate (n : Int).toNat true).all id = true := by rw [List.all_replicate]; cases (n : Int).toNat <;> rfl
      rw [this]
      exact kk _
end
end K1

set_option maxHeartbeats 0
namespace K1
open PySem L2 Evl DL PySem.Spec PyProof.Rows
section
variable {P : Program} {w : World} {K : PySem.W.Frag} {h base : Heap} {mg : Str → Option Value}
theorem gA_self {x : Str} {a : Addr} (g : mg x = some (.ref a)) : mg x = some (.ref (gA mg x)) := by
  rw [gA_of g]
  exact g
theorem txt_of (X : K.In h) (G : h.Ns mainGlobals mg) (c : SaysY fa fn chk ers iniV K) : Txt K mg where
  d_law_well := defAt_of (c.def_ 0 rfl) (He.glo_ok X G (c.fact 0 (f := .glo "_law_well") rfl))
  d_law_draw := defAt_of (c.def_ 1 rfl) (He.glo_ok X G (c.fact 1 (f := .glo "_law_draw") rfl))
  d_law_of := defAt_of (c.def_ 2 rfl) (He.glo_ok X G (c.fact 2 (f := .glo "_law_of") rfl))
  d_law_is := defAt_of (c.def_ 3 rfl) (He.glo_ok X G (c.fact 3 (f := .glo "_law_is") rfl))
  d_law_given := defAt_of (c.def_ 4 rfl) (He.glo_ok X G (c.fact 4 (f := .glo "_law_given") rfl))
  d_law_index := defAt_of (c.def_ 5 rfl) (He.glo_ok X G (c.fact 5 (f := .glo "_law_index") rfl))
  d_law_value := defAt_of (c.def_ 6 rfl) (He.glo_ok X G (c.fact 6 (f := .glo "_law_value") rfl))
  d_law_made_a := defAt_of (c.def_ 7 rfl) (He.glo_ok X G (c.fact 7 (f := .glo "_law_made_a") rfl))
  d_law_made_b := defAt_of (c.def_ 8 rfl) (He.glo_ok X G (c.fact 8 (f := .glo "_law_made_b") rfl))
  d_law_made := defAt_of (c.def_ 9 rfl) (He.glo_ok X G (c.fact 9 (f := .glo "_law_made") rfl))
  d_law_kinds_a := defAt_of (c.def_ 10 rfl) (He.glo_ok X G (c.fact 10 (f := .glo "_law_kinds_a") rfl))
  d_law_kinds_b := defAt_of (c.def_ 11 rfl) (He.glo_ok X G (c.fact 11 (f := .glo "_law_kinds_b") rfl))
  d_law_is_own := defAt_of (c.def_ 12 rfl) (He.glo_ok X G (c.fact 12 (f := .glo "_law_is_own") rfl))
  d_law_right := defAt_of (c.def_ 13 rfl) (He.glo_ok X G (c.fact 13 (f := .glo "_law_right") rfl))
  d_law := defAt_of (c.def_ 14 rfl) (He.glo_ok X G (c.fact 14 (f := .glo "law") rfl))
  b_abs := He.free_ok X G (c.fact 15 (f := .free "abs") rfl)
  b_all := He.free_ok X G (c.fact 16 (f := .free "all") rfl)
  b_divmod := He.free_ok X G (c.fact 17 (f := .free "divmod") rfl)
  b_int := He.free_ok X G (c.fact 18 (f := .free "int") rfl)
  b_isinstance := He.free_ok X G (c.fact 19 (f := .free "isinstance") rfl)
  b_len := He.free_ok X G (c.fact 20 (f := .free "len") rfl)
  b_max := He.free_ok X G (c.fact 21 (f := .free "max") rfl)
  b_min := He.free_ok X G (c.fact 22 (f := .free "min") rfl)
  b_range := He.free_ok X G (c.fact 23 (f := .free "range") rfl)
  b_repr := He.free_ok X G (c.fact 24 (f := .free "repr") rfl)
  b_super := He.free_ok X G (c.fact 25 (f := .free "super") rfl)
  n_TypeError := He.free_ok X G (c.fact 26 (f := .free "TypeError") rfl)
  n_LookupError := He.free_ok X G (c.fact 27 (f := .free "LookupError") rfl)
  n_ArithmeticError := He.free_ok X G (c.fact 28 (f := .free "ArithmeticError") rfl)
  n_AttributeError := He.free_ok X G (c.fact 29 (f := .free "AttributeError") rfl)
  n_RuntimeError := He.free_ok X G (c.fact 30 (f := .free "RuntimeError") rfl)
  n_ValueError := He.free_ok X G (c.fact 31 (f := .free "ValueError") rfl)
  n_Kept := gA_self (He.glo_ok X G (allB_at 22 c.2.1 rfl))
  n_cls := fun x hx => gA_self (He.glo_ok X G (List.all_eq_true.mp (allB_at 21 c.2.1 rfl) x hx))
  e_is := fun x hx => errIs_of (List.all_eq_true.mp (allB_at 23 c.2.1 rfl) x hx) (gA_of (He.glo_ok X G (List.all_eq_true.mp (allB_at 21 c.2.1 rfl) x hx))) (gA_of (He.glo_ok X G (allB_at 22 c.2.1 rfl))) (fun y hy => gA_of (He.glo_ok X G (List.all_eq_true.mp (allB_at 21 c.2.1 rfl) y hy)))
  e_0 := fun x hx => err0_of (List.all_eq_true.mp (allB_at 24 c.2.1 rfl) x hx) (He.glo_ok X G (List.all_eq_true.mp (allB_at 21 c.2.1 rfl) x (List.mem_append_right _ hx)))
theorem err_InvalidText (X : K.In h) (G : h.Ns mainGlobals mg) (c : SaysY fa fn chk ers iniV K) : ErrV PySem.Challenge.pw_leastkept_k01_errors_each_of_its_own w K mg base "InvalidText" "given" :=
  errV_of (allB_at 0 c.2.1 rfl) (c.ini 0 rfl rfl) (He.glo_ok X G (c.fact 32 (f := .glo "InvalidText") rfl)) rfl ⟨rfl, rfl, rfl, by decide +kernel, by decide +kernel, by decide +kernel, by decide +kernel, by decide +kernel, rfl, rfl, rfl, rfl⟩ rfl rfl (by decide +kernel)
    (He.free_ok X G (c.fact 25 (f := .free "super") rfl)) (by decide +kernel) (fun _ _ _ _ _ _ _ _ _ => rfl) (fun _ _ _ _ _ _ _ _ _ => rfl) (fun _ _ _ _ => rfl) (by decide +kernel) (by decide +kernel)
theorem err_InvalidProgram (X : K.In h) (G : h.Ns mainGlobals mg) (c : SaysY fa fn chk ers iniV K) : ErrV PySem.Challenge.pw_leastkept_k01_errors_each_of_its_own w K mg base "InvalidProgram" "given" :=
  errV_of (allB_at 1 c.2.1 rfl) (c.ini 1 rfl rfl) (He.glo_ok X G (c.fact 33 (f := .glo "InvalidProgram") rfl)) rfl ⟨rfl, rfl, rfl, by decide +kernel, by decide +kernel, by decide +kernel, by decide +kernel, by decide +kernel, rfl, rfl, rfl, rfl⟩ rfl rfl (by decide +kernel)
    (He.free_ok X G (c.fact 25 (f := .free "super") rfl)) (by decide +kernel) (fun _ _ _ _ _ _ _ _ _ => rfl) (fun _ _ _ _ _ _ _ _ _ => rfl) (fun _ _ _ _ => rfl) (by decide +kernel) (by decide +kernel)
theorem err_InvalidNumber (X : K.In h) (G : h.Ns mainGlobals mg) (c : SaysY fa fn chk ers iniV K) : ErrV PySem.Challenge.pw_leastkept_k01_errors_each_of_its_own w K mg base "InvalidNumber" "given" :=
  errV_of (allB_at 2 c.2.1 rfl) (c.ini 2 rfl rfl) (He.glo_ok X G (c.fact 34 (f := .glo "InvalidNumber") rfl)) rfl ⟨rfl, rfl, rfl, by decide +kernel, by decide +kernel, by decide +kernel, by decide +kernel, by decide +kernel, rfl, rfl, rfl, rfl⟩ rfl rfl (by decide +kernel)
    (He.free_ok X G (c.fact 25 (f := .free "super") rfl)) (by decide +kernel) (fun _ _ _ _ _ _ _ _ _ => rfl) (fun _ _ _ _ _ _ _ _ _ => rfl) (fun _ _ _ _ => rfl) (by decide +kernel) (by decide +kernel)
theorem err_InvalidMachine (X : K.In h) (G : h.Ns mainGlobals mg) (c : SaysY fa fn chk ers iniV K) : ErrV PySem.Challenge.pw_leastkept_k01_errors_each_of_its_own w K mg base "InvalidMachine" "given" :=
  errV_of (allB_at 3 c.2.1 rfl) (c.ini 3 rfl rfl) (He.glo_ok X G (c.fact 35 (f := .glo "InvalidMachine") rfl)) rfl ⟨rfl, rfl, rfl, by decide +kernel, by decide +kernel, by decide +kernel, by decide +kernel, by decide +kernel, rfl, rfl, rfl, rfl⟩ rfl rfl (by decide +kernel)
    (He.free_ok X G (c.fact 25 (f := .free "super") rfl)) (by decide +kernel) (fun _ _ _ _ _ _ _ _ _ => rfl) (fun _ _ _ _ _ _ _ _ _ => rfl) (fun _ _ _ _ => rfl) (by decide +kernel) (by decide +kernel)
theorem err_InvalidCode (X : K.In h) (G : h.Ns mainGlobals mg) (c : SaysY fa fn chk ers iniV K) : ErrV PySem.Challenge.pw_leastkept_k01_errors_each_of_its_own w K mg base "InvalidCode" "given" :=
  errV_of (allB_at 4 c.2.1 rfl) (c.ini 4 rfl rfl) (He.glo_ok X G (c.fact 36 (f := .glo "InvalidCode") rfl)) rfl ⟨rfl, rfl, rfl, by decide +kernel, by decide +kernel, by decide +kernel, by decide +kernel, by decide +kernel, rfl, rfl, rfl, rfl⟩ rfl rfl (by decide +kernel)
    (He.free_ok X G (c.fact 25 (f := .free "super") rfl)) (by decide +kernel) (fun _ _ _ _ _ _ _ _ _ => rfl) (fun _ _ _ _ _ _ _ _ _ => rfl) (fun _ _ _ _ => rfl) (by decide +kernel) (by decide +kernel)
theorem err_InvalidLine (X : K.In h) (G : h.Ns mainGlobals mg) (c : SaysY fa fn chk ers iniV K) : ErrV PySem.Challenge.pw_leastkept_k01_errors_each_of_its_own w K mg base "InvalidLine" "given" :=
  errV_of (allB_at 5 c.2.1 rfl) (c.ini 5 rfl rfl) (He.glo_ok X G (c.fact 37 (f := .glo "InvalidLine") rfl)) rfl ⟨rfl, rfl, rfl, by decide +kernel, by decide +kernel, by decide +kernel, by decide +kernel, by decide +kernel, rfl, rfl, rfl, rfl⟩ rfl rfl (by decide +kernel)
    (He.free_ok X G (c.fact 25 (f := .free "super") rfl)) (by decide +kernel) (fun _ _ _ _ _ _ _ _ _ => rfl) (fun _ _ _ _ _ _ _ _ _ => rfl) (fun _ _ _ _ => rfl) (by decide +kernel) (by decide +kernel)
theorem err_InvalidCommand (X : K.In h) (G : h.Ns mainGlobals mg) (c : SaysY fa fn chk ers iniV K) : ErrV PySem.Challenge.pw_leastkept_k01_errors_each_of_its_own w K mg base "InvalidCommand" "given" :=
  errV_of (allB_at 6 c.2.1 rfl) (c.ini 6 rfl rfl) (He.glo_ok X G (c.fact 38 (f := .glo "InvalidCommand") rfl)) rfl ⟨rfl, rfl, rfl, by decide +kernel, by decide +kernel, by decide +kernel, by decide +kernel, by decide +kernel, rfl, rfl, rfl, rfl⟩ rfl rfl (by decide +kernel)
    (He.free_ok X G (c.fact 25 (f := .free "super") rfl)) (by decide +kernel) (fun _ _ _ _ _ _ _ _ _ => rfl) (fun _ _ _ _ _ _ _ _ _ => rfl) (fun _ _ _ _ => rfl) (by decide +kernel) (by decide +kernel)
theorem err_InvalidPass (X : K.In h) (G : h.Ns mainGlobals mg) (c : SaysY fa fn chk ers iniV K) : ErrV PySem.Challenge.pw_leastkept_k01_errors_each_of_its_own w K mg base "InvalidPass" "given" :=
  errV_of (allB_at 7 c.2.1 rfl) (c.ini 7 rfl rfl) (He.glo_ok X G (c.fact 39 (f := .glo "InvalidPass") rfl)) rfl ⟨rfl, rfl, rfl, by decide +kernel, by decide +kernel, by decide +kernel, by decide +kernel, by decide +kernel, rfl, rfl, rfl, rfl⟩ rfl rfl (by decide +kernel)
    (He.free_ok X G (c.fact 25 (f := .free "super") rfl)) (by decide +kernel) (fun _ _ _ _ _ _ _ _ _ => rfl) (fun _ _ _ _ _ _ _ _ _ => rfl) (fun _ _ _ _ => rfl) (by decide +kernel) (by decide +kernel)
theorem err_UnknownName (X : K.In h) (G : h.Ns mainGlobals mg) (c : SaysY fa fn chk ers iniV K) : ErrV PySem.Challenge.pw_leastkept_k01_errors_each_of_its_own w K mg base "UnknownName" "given" :=
  errV_of (allB_at 8 c.2.1 rfl) (c.ini 8 rfl rfl) (He.glo_ok X G (c.fact 40 (f := .glo "UnknownName") rfl)) rfl ⟨rfl, rfl, rfl, by decide +kernel, by decide +kernel, by decide +kernel, by decide +kernel, by decide +kernel, rfl, rfl, rfl, rfl⟩ rfl rfl (by decide +kernel)
    (He.free_ok X G (c.fact 25 (f := .free "super") rfl)) (by decide +kernel) (fun _ _ _ _ _ _ _ _ _ => rfl) (fun _ _ _ _ _ _ _ _ _ => rfl) (fun _ _ _ _ => rfl) (by decide +kernel) (by decide +kernel)
theorem err_OutOfRange (X : K.In h) (G : h.Ns mainGlobals mg) (c : SaysY fa fn chk ers iniV K) : ErrV PySem.Challenge.pw_leastkept_k01_errors_each_of_its_own w K mg base "OutOfRange" "given" :=
  errV_of (allB_at 9 c.2.1 rfl) (c.ini 9 rfl rfl) (He.glo_ok X G (c.fact 41 (f := .glo "OutOfRange") rfl)) rfl ⟨rfl, rfl, rfl, by decide +kernel, by decide +kernel, by decide +kernel, by decide +kernel, by decide +kernel, rfl, rfl, rfl, rfl⟩ rfl rfl (by decide +kernel)
    (He.free_ok X G (c.fact 25 (f := .free "super") rfl)) (by decide +kernel) (fun _ _ _ _ _ _ _ _ _ => rfl) (fun _ _ _ _ _ _ _ _ _ => rfl) (fun _ _ _ _ => rfl) (by decide +kernel) (by decide +kernel)
theorem err_TooMany (X : K.In h) (G : h.Ns mainGlobals mg) (c : SaysY fa fn chk ers iniV K) : ErrV PySem.Challenge.pw_leastkept_k01_errors_each_of_its_own w K mg base "TooMany" "given" :=
  errV_of (allB_at 10 c.2.1 rfl) (c.ini 10 rfl rfl) (He.glo_ok X G (c.fact 42 (f := .glo "TooMany") rfl)) rfl ⟨rfl, rfl, rfl, by decide +kernel, by decide +kernel, by decide +kernel, by decide +kernel, by decide +kernel, rfl, rfl, rfl, rfl⟩ rfl rfl (by decide +kernel)
    (He.free_ok X G (c.fact 25 (f := .free "super") rfl)) (by decide +kernel) (fun _ _ _ _ _ _ _ _ _ => rfl) (fun _ _ _ _ _ _ _ _ _ => rfl) (fun _ _ _ _ => rfl) (by decide +kernel) (by decide +kernel)
theorem err_NotADesk (X : K.In h) (G : h.Ns mainGlobals mg) (c : SaysY fa fn chk ers iniV K) : ErrV PySem.Challenge.pw_leastkept_k01_errors_each_of_its_own w K mg base "NotADesk" "given" :=
  errV_of (allB_at 11 c.2.1 rfl) (c.ini 11 rfl rfl) (He.glo_ok X G (c.fact 43 (f := .glo "NotADesk") rfl)) rfl ⟨rfl, rfl, rfl, by decide +kernel, by decide +kernel, by decide +kernel, by decide +kernel, by decide +kernel, rfl, rfl, rfl, rfl⟩ rfl rfl (by decide +kernel)
    (He.free_ok X G (c.fact 25 (f := .free "super") rfl)) (by decide +kernel) (fun _ _ _ _ _ _ _ _ _ => rfl) (fun _ _ _ _ _ _ _ _ _ => rfl) (fun _ _ _ _ => rfl) (by decide +kernel) (by decide +kernel)
theorem err_InvalidPasses (X : K.In h) (G : h.Ns mainGlobals mg) (c : SaysY fa fn chk ers iniV K) : ErrV PySem.Challenge.pw_leastkept_k01_errors_each_of_its_own w K mg base "InvalidPasses" "index" :=
  errV_of (allB_at 12 c.2.1 rfl) (c.ini 12 rfl rfl) (He.glo_ok X G (c.fact 44 (f := .glo "InvalidPasses") rfl)) rfl ⟨rfl, rfl, rfl, by decide +kernel, by decide +kernel, by decide +kernel, by decide +kernel, by decide +kernel, rfl, rfl, rfl, rfl⟩ rfl rfl (by decide +kernel)
    (He.free_ok X G (c.fact 25 (f := .free "super") rfl)) (by decide +kernel) (fun _ _ _ _ _ _ _ _ _ => rfl) (fun _ _ _ _ _ _ _ _ _ => rfl) (fun _ _ _ _ => rfl) (by decide +kernel) (by decide +kernel)
theorem err_InvalidInputs (X : K.In h) (G : h.Ns mainGlobals mg) (c : SaysY fa fn chk ers iniV K) : ErrV PySem.Challenge.pw_leastkept_k01_errors_each_of_its_own w K mg base "InvalidInputs" "index" :=
  errV_of (allB_at 13 c.2.1 rfl) (c.ini 13 rfl rfl) (He.glo_ok X G (c.fact 45 (f := .glo "InvalidInputs") rfl)) rfl ⟨rfl, rfl, rfl, by decide +kernel, by decide +kernel, by decide +kernel, by decide +kernel, by decide +kernel, rfl, rfl, rfl, rfl⟩ rfl rfl (by decide +kernel)
    (He.free_ok X G (c.fact 25 (f := .free "super") rfl)) (by decide +kernel) (fun _ _ _ _ _ _ _ _ _ => rfl) (fun _ _ _ _ _ _ _ _ _ => rfl) (fun _ _ _ _ => rfl) (by decide +kernel) (by decide +kernel)
theorem err_InvalidWhen (X : K.In h) (G : h.Ns mainGlobals mg) (c : SaysY fa fn chk ers iniV K) : ErrV PySem.Challenge.pw_leastkept_k01_errors_each_of_its_own w K mg base "InvalidWhen" "index" :=
  errV_of (allB_at 14 c.2.1 rfl) (c.ini 14 rfl rfl) (He.glo_ok X G (c.fact 46 (f := .glo "InvalidWhen") rfl)) rfl ⟨rfl, rfl, rfl, by decide +kernel, by decide +kernel, by decide +kernel, by decide +kernel, by decide +kernel, rfl, rfl, rfl, rfl⟩ rfl rfl (by decide +kernel)
    (He.free_ok X G (c.fact 25 (f := .free "super") rfl)) (by decide +kernel) (fun _ _ _ _ _ _ _ _ _ => rfl) (fun _ _ _ _ _ _ _ _ _ => rfl) (fun _ _ _ _ => rfl) (by decide +kernel) (by decide +kernel)
theorem err_InvalidCells (X : K.In h) (G : h.Ns mainGlobals mg) (c : SaysY fa fn chk ers iniV K) : ErrV PySem.Challenge.pw_leastkept_k01_errors_each_of_its_own w K mg base "InvalidCells" "index" :=
  errV_of (allB_at 15 c.2.1 rfl) (c.ini 15 rfl rfl) (He.glo_ok X G (c.fact 47 (f := .glo "InvalidCells") rfl)) rfl ⟨rfl, rfl, rfl, by decide +kernel, by decide +kernel, by decide +kernel, by decide +kernel, by decide +kernel, rfl, rfl, rfl, rfl⟩ rfl rfl (by decide +kernel)
    (He.free_ok X G (c.fact 25 (f := .free "super") rfl)) (by decide +kernel) (fun _ _ _ _ _ _ _ _ _ => rfl) (fun _ _ _ _ _ _ _ _ _ => rfl) (fun _ _ _ _ => rfl) (by decide +kernel) (by decide +kernel)
theorem err_InvalidRoots (X : K.In h) (G : h.Ns mainGlobals mg) (c : SaysY fa fn chk ers iniV K) : ErrV PySem.Challenge.pw_leastkept_k01_errors_each_of_its_own w K mg base "InvalidRoots" "index" :=
  errV_of (allB_at 16 c.2.1 rfl) (c.ini 16 rfl rfl) (He.glo_ok X G (c.fact 48 (f := .glo "InvalidRoots") rfl)) rfl ⟨rfl, rfl, rfl, by decide +kernel, by decide +kernel, by decide +kernel, by decide +kernel, by decide +kernel, rfl, rfl, rfl, rfl⟩ rfl rfl (by decide +kernel)
    (He.free_ok X G (c.fact 25 (f := .free "super") rfl)) (by decide +kernel) (fun _ _ _ _ _ _ _ _ _ => rfl) (fun _ _ _ _ _ _ _ _ _ => rfl) (fun _ _ _ _ => rfl) (by decide +kernel) (by decide +kernel)
theorem err_InvalidParts (X : K.In h) (G : h.Ns mainGlobals mg) (c : SaysY fa fn chk ers iniV K) : ErrV PySem.Challenge.pw_leastkept_k01_errors_each_of_its_own w K mg base "InvalidParts" "index" :=
  errV_of (allB_at 17 c.2.1 rfl) (c.ini 17 rfl rfl) (He.glo_ok X G (c.fact 49 (f := .glo "InvalidParts") rfl)) rfl ⟨rfl, rfl, rfl, by decide +kernel, by decide +kernel, by decide +kernel, by decide +kernel, by decide +kernel, rfl, rfl, rfl, rfl⟩ rfl rfl (by decide +kernel)
    (He.free_ok X G (c.fact 25 (f := .free "super") rfl)) (by decide +kernel) (fun _ _ _ _ _ _ _ _ _ => rfl) (fun _ _ _ _ _ _ _ _ _ => rfl) (fun _ _ _ _ => rfl) (by decide +kernel) (by decide +kernel)
theorem err_InvalidChoices (X : K.In h) (G : h.Ns mainGlobals mg) (c : SaysY fa fn chk ers iniV K) : ErrV PySem.Challenge.pw_leastkept_k01_errors_each_of_its_own w K mg base "InvalidChoices" "index" :=
  errV_of (allB_at 18 c.2.1 rfl) (c.ini 18 rfl rfl) (He.glo_ok X G (c.fact 50 (f := .glo "InvalidChoices") rfl)) rfl ⟨rfl, rfl, rfl, by decide +kernel, by decide +kernel, by decide +kernel, by decide +kernel, by decide +kernel, rfl, rfl, rfl, rfl⟩ rfl rfl (by decide +kernel)
    (He.free_ok X G (c.fact 25 (f := .free "super") rfl)) (by decide +kernel) (fun _ _ _ _ _ _ _ _ _ => rfl) (fun _ _ _ _ _ _ _ _ _ => rfl) (fun _ _ _ _ => rfl) (by decide +kernel) (by decide +kernel)
theorem err_InvalidRows (X : K.In h) (G : h.Ns mainGlobals mg) (c : SaysY fa fn chk ers iniV K) : ErrV PySem.Challenge.pw_leastkept_k01_errors_each_of_its_own w K mg base "InvalidRows" "index" :=
  errV_of (allB_at 19 c.2.1 rfl) (c.ini 19 rfl rfl) (He.glo_ok X G (c.fact 51 (f := .glo "InvalidRows") rfl)) rfl ⟨rfl, rfl, rfl, by decide +kernel, by decide +kernel, by decide +kernel, by decide +kernel, by decide +kernel, rfl, rfl, rfl, rfl⟩ rfl rfl (by decide +kernel)
    (He.free_ok X G (c.fact 25 (f := .free "super") rfl)) (by decide +kernel) (fun _ _ _ _ _ _ _ _ _ => rfl) (fun _ _ _ _ _ _ _ _ _ => rfl) (fun _ _ _ _ => rfl) (by decide +kernel) (by decide +kernel)
theorem err_Refused (X : K.In h) (G : h.Ns mainGlobals mg) (c : SaysY fa fn chk ers iniV K) : ErrV PySem.Challenge.pw_leastkept_k01_errors_each_of_its_own w K mg base "Refused" "index" :=
  errV_of (allB_at 20 c.2.1 rfl) (c.ini 20 rfl rfl) (He.glo_ok X G (c.fact 52 (f := .glo "Refused") rfl)) rfl ⟨rfl, rfl, rfl, by decide +kernel, by decide +kernel, by decide +kernel, by decide +kernel, by decide +kernel, rfl, rfl, rfl, rfl⟩ rfl rfl (by decide +kernel)
    (He.free_ok X G (c.fact 25 (f := .free "super") rfl)) (by decide +kernel) (fun _ _ _ _ _ _ _ _ _ => rfl) (fun _ _ _ _ _ _ _ _ _ => rfl) (fun _ _ _ _ => rfl) (by decide +kernel) (by decide +kernel)
theorem ers_of (X : K.In h) (G : h.Ns mainGlobals mg) (c : SaysY fa fn chk ers iniV K) : Ers PySem.Challenge.pw_leastkept_k01_errors_each_of_its_own w K mg base := by
  refine ⟨fun p hp => ?_⟩
  rw [tab_AB] at hp
  rcases List.mem_append.mp hp with m | m
  · simp only [tabA, List.mem_cons, List.not_mem_nil, or_false] at m
    rcases m with rfl | rfl | rfl | rfl | rfl | rfl | rfl | rfl | rfl | rfl | rfl | rfl | rfl | rfl | rfl | rfl | rfl
    · exact err_InvalidText X G c
    · exact err_InvalidProgram X G c
    · exact err_InvalidNumber X G c
    · exact err_InvalidMachine X G c
    · exact err_InvalidCode X G c
    · exact err_InvalidLine X G c
    · exact err_InvalidCommand X G c
    · exact err_InvalidPass X G c
    · exact err_UnknownName X G c
    · exact err_OutOfRange X G c
    · exact err_TooMany X G c
    · exact err_NotADesk X G c
    · exact err_InvalidPasses X G c
    · exact err_InvalidInputs X G c
    · exact err_InvalidWhen X G c
    · exact err_InvalidCells X G c
    · exact err_InvalidRoots X G c
  · simp only [tabB, List.mem_cons, List.not_mem_nil, or_false] at m
    rcases m with rfl | rfl | rfl | rfl
    · exact err_InvalidParts X G c
    · exact err_InvalidChoices X G c
    · exact err_InvalidRows X G c
    · exact err_Refused X G c
end
end K1
open PySem PySem.W PySem.Calls PyProof.Rows
theorem K1.walks : WalkO K1.qL K1.loose (XL K1.qL []) K1.hk.says K1.R.toRowW K1.dL [] fun f vs => PySem.call f vs := by
  refine DL.walk_ofG (l := PySem.Challenge.rw_leastkept_k01_errors_each_of_its_own) (n := 63) (k := 6) (x := "script") (CX := L2.CX0) rfl (by decide) K1.h_dfl K1.h_room (fun w mg fa h Y G hmg0 => ?_) (fun _ _ _ _ z => z)
  obtain ⟨K, KX, c⟩ := Y
  rw [K1.h_name] at hmg0
  have T := K1.txt_of KX G c
  obtain ⟨fd, hb, hF⟩ := DL.law_end h (fun base => K1.ok_law (P := PySem.Challenge.pw_leastkept_k01_errors_each_of_its_own) (w := w) (base := base) T (K1.ers_of KX G c)) hmg0 K1.bd_law
  exact ⟨K, fd, K1.spLaw K, KX, hb, fun H a ns hl _ hS => ⟨a, ns, rfl, hS, hl, fun _ => rfl⟩, fun base _ _ => hF base⟩
theorem PySem.Challenge.cw_leastkept_k01_errors_each_of_its_own_holds : PySem.Challenge.rw_leastkept_k01_errors_each_of_its_own.Holds :=
  K1.holds_of K1.walks
